/- Proved here: what functions that the law reaches compute, and plain laws of that. No conditions but those that the theorems state. -/
import Derived.Test.YtppelnlocfcgfaaB1
import Derived.Test.YtppelnlocfcgfaaB2
import Derived.Test.YtppelnlocfcgfaaB3
set_option linter.unusedVariables false
set_option linter.unusedSimpArgs false
namespace Go.Proofs.Ytppelnlocfcgfaa.P
open Go.RowKit Go.Proofs.YtppelnlocfcgfaaW.PrintWords Go.Proofs.YtppelnlocfcgfaaW.PrintLast Go.Proofs.YtppelnlocfcgfaaW.PrintMore
attribute [local go_sem] max2_int min2_int max_two min_two max_three min_three max_four min_four   -- for this text's walks alone
set_option linter.unusedVariables false
set_option linter.unusedSimpArgs false

/-! ### slices_Index_int_int: function 51 -/
def slices_Index_int_int.l0 : Nat → List Int → Int → Int → Int → Option (Int)
 | 0, _, _, _, _ => none
 | k + 1, x0, x1, x7, x8 => if x8 < x7 then (if 0 ≤ x8 then (if x8 < (x0.length : Int) then (if x1 = (rd x0 x8) then (some x8) else (slices_Index_int_int.l0 k x0 x1 x7 (wrap64 (x8 + 1)))) else (none)) else (none)) else (some (-1))
def slices_Index_int_int.f (k : Nat) (l0 : List Int) (a1 : Int) : Option (Int) := slices_Index_int_int.l0 k l0 a1 (l0.length : Int) 0
theorem slices_Index_int_int.mono_l : ∀ k, (∀ y0 y1 y2 y3, LeO (slices_Index_int_int.l0 k y0 y1 y2 y3) (slices_Index_int_int.l0 (k + 1) y0 y1 y2 y3))
 | 0 => fun _ _ _ _ r h => by simp [slices_Index_int_int.l0] at h
 | k + 1 => by
  have ih0 := slices_Index_int_int.mono_l k
  ·intro y0 y1 y2 y3
   unfold slices_Index_int_int.l0
   repeat' first
   | (with_reducible exact ih0 _ _ _ _)
   | (with_reducible exact LeO.refl _)
   | (with_reducible exact LeO.none _)
   | (with_reducible refine LeO.ite ?_ ?_)
   | (with_reducible refine LeO.bind ?_ (fun _ => ?_))
   | exact ih0 _ _ _ _
   | exact LeO.none _
   | refine LeO.ite ?_ ?_
   | refine LeO.bind ?_ (fun _ => ?_)
theorem slices_Index_int_int.mono : ∀ a0 a1 k, LeO (slices_Index_int_int.f k a0 a1) (slices_Index_int_int.f (k + 1) a0 a1) := by
 intro a0 a1 k
 have ih0 := slices_Index_int_int.mono_l k
 unfold slices_Index_int_int.f
 repeat' first
   | (with_reducible exact ih0 _ _ _ _)
   | (with_reducible exact LeO.refl _)
   | (with_reducible exact LeO.none _)
   | (with_reducible refine LeO.ite ?_ ?_)
   | (with_reducible refine LeO.bind ?_ (fun _ => ?_))
   | exact ih0 _ _ _ _
   | exact LeO.none _
   | refine LeO.ite ?_ ?_
   | refine LeO.bind ?_ (fun _ => ?_)
set_option maxHeartbeats 8000000 in
set_option maxRecDepth 100000 in
theorem slices_Index_int_int.calls (k : Nat) (A0 : Option Addr) (c0 : Nat) (l0 : List Int) (a1 : Int) (r : Int) (w : World) (hr0 : Kd.C (Kd.int .i64) w A0 l0.length l0) (hc0 : l0.length ≤ c0) (h : slices_Index_int_int.f k l0 a1 = some r) :
  Calls Try.prog 51 #[.slice A0 l0.length c0, .int .i64 a1] w fun e w' => e = .returned (.int .i64 r) ∧ Drawn0 w w' := by
 have HR0 := Aside0.mk hr0
 have HC0 := Aside0.mk hc0
 clear hr0 hc0
 have H : (slices_Index_int_int.l0 k l0 a1 (l0.length : Int) 0) = some r := h
 clear h
 have H' := Aside0.mk H
 clear H
 go_enter Try.func51, Try.ntmps51
 go_wp2
 go_loopg [8] k (fun kq v8 w' => ∃ (x8_1 : Int), v8 = .int .i64 x8_1 ∧ Aside0 (slices_Index_int_int.l0 kq l0 a1 (l0.length : Int) x8_1 = some r) ∧ Aside0 (kq ≤ k) ∧ Drawn0 w w')
 case atStart => exact ⟨(0), (by first | rfl | (simp; done) | (simp [*]; done)), H', ⟨Nat.le_refl _⟩, by repeat (first | exact Drawn0.refl _ | apply Drawn0.step)⟩
 case round =>
  clear H'
  try clear p2
  obtain ⟨x8_1, rfl, HA, HK1, ⟨m1, rfl⟩⟩ := hrel
  cases gk with
  | zero => exact absurd HA.out (by simp [slices_Index_int_int.l0])
  | succ k1 =>
   have H := HA.out
   clear HA
   simp only [slices_Index_int_int.l0] at H
   by_cases c3 : x8_1 < (l0.length : Int)
   ·rw [if_pos c3] at H
    have c3b0 : decide (x8_1 < (l0.length : Int)) = true := decide_eq_true c3
    clear c3
    by_cases c4 : 0 ≤ x8_1
    ·rw [if_pos c4] at H
     have c4b0 : decide (0 ≤ x8_1) = true := decide_eq_true c4
     clear c4
     by_cases c5 : x8_1 < (l0.length : Int)
     ·rw [if_pos c5] at H
      have c5b0 : decide (x8_1 < (l0.length : Int)) = true := decide_eq_true c5
      clear c5
      by_cases c6 : a1 = (rd l0 x8_1)
      ·rw [if_pos c6] at H
       have c6b0 : (a1 == (rd l0 x8_1)) = true := beq_iff_eq.mpr c6
       have c6b1 : (a1 != (rd l0 x8_1)) = false := bne_eq_false_iff_eq.mpr c6
       clear c6
       obtain rfl := Option.some.inj H
       have p305 : 0 ≤ (x8_1 : Int) := of_decide_eq_true (by first | (with_reducible assumption) | assumption)
       have q305 : x8_1 < (l0.length : Int) := of_decide_eq_true (by first | (with_reducible assumption) | assumption)
       obtain ⟨ad305, e305, hx305_0⟩ := Kd.at_int HR0.out x8_1 p305 q305
       cases e305
       replace p305 := eq_true p305
       replace q305 := eq_true q305
       go_wp2
       go_ret
       exact ⟨by first | rfl | (simp; done) | (simp [*]; done), by repeat (first | exact Drawn0.refl _ | apply Drawn0.step)⟩
      ·rw [if_neg c6] at H
       have c6b0 : (a1 == (rd l0 x8_1)) = false := beq_eq_false_iff_ne.mpr c6
       have c6b1 : (a1 != (rd l0 x8_1)) = true := bne_iff_ne.mpr c6
       have H' := Aside0.mk H
       clear H
       have p305 : 0 ≤ (x8_1 : Int) := of_decide_eq_true (by first | (with_reducible assumption) | assumption)
       have q305 : x8_1 < (l0.length : Int) := of_decide_eq_true (by first | (with_reducible assumption) | assumption)
       obtain ⟨ad305, e305, hx305_0⟩ := Kd.at_int HR0.out x8_1 p305 q305
       cases e305
       replace p305 := eq_true p305
       replace q305 := eq_true q305
       go_wp2
       go_roundg k1
       case measure => have := HK1.out; omega
       case rel => exact ⟨(wrap64 (x8_1 + 1)), (by first | rfl | (simp; done) | (simp [*]; done)), H', ⟨by have := HK1.out; omega⟩, by repeat (first | exact Drawn0.refl _ | apply Drawn0.step)⟩
     ·rw [if_neg c5] at H
      exact absurd H (by simp)
    ·rw [if_neg c4] at H
     exact absurd H (by simp)
   ·rw [if_neg c3] at H
    have c3b0 : decide (x8_1 < (l0.length : Int)) = false := decide_eq_false c3
    clear c3
    obtain rfl := Option.some.inj H
    go_wp2
    go_ret
    exact ⟨by first | rfl | (simp; done) | (simp [*]; done), by repeat (first | exact Drawn0.refl _ | apply Drawn0.step)⟩

end Go.Proofs.Ytppelnlocfcgfaa.P
namespace Go.Proofs.Ytppelnlocfcgfaa.P
open Go.RowKit Go.Proofs.YtppelnlocfcgfaaW.PrintWords Go.Proofs.YtppelnlocfcgfaaW.PrintLast Go.Proofs.YtppelnlocfcgfaaW.PrintMore
attribute [local go_sem] max2_int min2_int max_two min_two max_three min_three max_four min_four   -- for this text's walks alone
set_option linter.unusedVariables false
set_option linter.unusedSimpArgs false

/-! ### find_Index_Shortest: function 35 -/
def find_Index_Shortest.j0 : Nat → Int → Bool → ByteArray → List Int → List Int → Option (Int × Int)
 | 0, _, _, _, _, _ => none
 | k + 1, x1, x16, x307000, x307001, x307002 => if x16 = true then (some (0, 2)) else ((slices_Index_int_int.f k x307001 x1).bind fun t307 => (if 0 ≤ t307 then (if t307 < (x307002.length : Int) then (if (wrap64 (t307 + 1)) < (x307001.length : Int) then (if 0 ≤ (wrap64 (t307 + 1)) then (if (wrap64 (t307 + 1)) < (x307002.length : Int) then (if (wrap64 (x1 + (mx (rd x307002 t307) (rd x307002 (wrap64 (t307 + 1)))))) ≥ (x307000.size : Int) then (some (0, 6)) else (some (wrap64 ((mx (rd x307002 t307) (rd x307002 (wrap64 (t307 + 1)))) + 1), 0))) else (none)) else (none)) else (if (wrap64 (x1 + (rd x307002 t307))) ≥ (x307000.size : Int) then (some (0, 6)) else (some (wrap64 ((rd x307002 t307) + 1), 0)))) else (none)) else (none)))
def find_Index_Shortest.f (k : Nat) (a0_0 : ByteArray) (l0_1 : List Int) (l0_2 : List Int) (a1 : Int) : Option (Int × Int) := if a1 < 0 then (find_Index_Shortest.j0 k a1 true a0_0 l0_1 l0_2) else (find_Index_Shortest.j0 k a1 (decide (a1 ≥ (a0_0.size : Int))) a0_0 l0_1 l0_2)
theorem find_Index_Shortest.mono_l : ∀ k, (∀ y0 y1 y2 y3 y4, LeO (find_Index_Shortest.j0 k y0 y1 y2 y3 y4) (find_Index_Shortest.j0 (k + 1) y0 y1 y2 y3 y4))
 | 0 => fun _ _ _ _ _ r h => by simp [find_Index_Shortest.j0] at h
 | k + 1 => by
  have ih0 := find_Index_Shortest.mono_l k
  ·intro y0 y1 y2 y3 y4
   unfold find_Index_Shortest.j0
   repeat' first
   | (with_reducible exact ih0 _ _ _ _ _)
   | (with_reducible exact slices_Index_int_int.mono _ _ _)
   | (with_reducible exact LeO.refl _)
   | (with_reducible exact LeO.none _)
   | (with_reducible refine LeO.ite ?_ ?_)
   | (with_reducible refine LeO.bind ?_ (fun _ => ?_))
   | exact ih0 _ _ _ _ _
   | exact slices_Index_int_int.mono _ _ _
   | exact LeO.none _
   | refine LeO.ite ?_ ?_
   | refine LeO.bind ?_ (fun _ => ?_)
theorem find_Index_Shortest.mono : ∀ a0 a1 a2 a3 k, LeO (find_Index_Shortest.f k a0 a1 a2 a3) (find_Index_Shortest.f (k + 1) a0 a1 a2 a3) := by
 intro a0 a1 a2 a3 k
 have ih0 := find_Index_Shortest.mono_l k
 unfold find_Index_Shortest.f
 repeat' first
   | (with_reducible exact ih0 _ _ _ _ _)
   | (with_reducible exact slices_Index_int_int.mono _ _ _)
   | (with_reducible exact LeO.refl _)
   | (with_reducible exact LeO.none _)
   | (with_reducible refine LeO.ite ?_ ?_)
   | (with_reducible refine LeO.bind ?_ (fun _ => ?_))
   | exact ih0 _ _ _ _ _
   | exact slices_Index_int_int.mono _ _ _
   | exact LeO.none _
   | refine LeO.ite ?_ ?_
   | refine LeO.bind ?_ (fun _ => ?_)
set_option maxHeartbeats 8000000 in
set_option maxRecDepth 100000 in
theorem find_Index_Shortest.calls (k : Nat) (a0_0 : ByteArray) (A0_1 : Option Addr) (c0_1 : Nat) (l0_1 : List Int) (A0_2 : Option Addr) (c0_2 : Nat) (l0_2 : List Int) (a1 : Int) (r1 : Int) (r2 : Int) (w : World) (hr0_1 : Kd.C (Kd.int .i64) w A0_1 l0_1.length l0_1) (hc0_1 : l0_1.length ≤ c0_1) (hr0_2 : Kd.C (Kd.int .i64) w A0_2 l0_2.length l0_2) (hc0_2 : l0_2.length ≤ c0_2) (h : find_Index_Shortest.f k a0_0 l0_1 l0_2 a1 = some (r1, r2)) :
  Calls Try.prog 35 #[.agg #[.string a0_0, .slice A0_1 l0_1.length c0_1, .slice A0_2 l0_2.length c0_2], .int .i64 a1] w fun e w' => e = .returned (.tuple #[.int .i64 r1, .int .i64 r2]) ∧ Below w.heap.size w w' := by
 have hu24 := Try.underlying24
 have HR0_1 := Aside0.mk hr0_1
 have HC0_1 := Aside0.mk hc0_1
 clear hr0_1 hc0_1
 have HR0_2 := Aside0.mk hr0_2
 have HC0_2 := Aside0.mk hc0_2
 clear hr0_2 hc0_2
 have HB := Aside0.mk (Below.refl w.heap.size w)
 have H : (if a1 < 0 then (find_Index_Shortest.j0 k a1 true a0_0 l0_1 l0_2) else (find_Index_Shortest.j0 k a1 (decide (a1 ≥ (a0_0.size : Int))) a0_0 l0_1 l0_2)) = some (r1, r2) := h
 clear h
 have HC3 := Aside0.mk H
 clear H
 go_enter Try.func35, Try.ntmps35
 go_upto_region 1 with (first | ((with_reducible refine gate_dst (N := 2) rfl ?_); (try (refine gate_guard (by rfl) ?_; dsimp only)); refine box_event ?hg (N := 2) ?hd (cs := #[.string a0_0, .slice A0_1 l0_1.length c0_1, .slice A0_2 l0_2.length c0_2]) (t := 24) ?hr ?_; (case hd => rfl); (case hg => rfl); (case hr => first | (go_simp; done) | (go_simp; rfl)); intro gb306 hg w4 hbox hb; have n0_ := Aside0.mk (below_step (by repeat (first | (with_reducible first | exact HB.out | apply below_alloc | apply pw_below_drewN | apply below_drew1) | exact HB.out)) hb); have n1_ := Aside0.mk (hbox); have n2_ := Aside0.mk ((by rw [hg]; exact (below_size (by repeat (first | (with_reducible first | exact HB.out | apply below_alloc | apply pw_below_drewN | apply below_drew1) | exact HB.out))) : w.heap.size ≤ gb306)); have n3_ := Aside0.mk ((by rw [hg]; exact (below_size (by repeat (first | (with_reducible first | exact HB.out | apply below_alloc | apply pw_below_drewN | apply below_drew1) | exact HB.out))) : w.heap.size ≤ gb306)); clear HB; have HB := n0_; have BK306 := n1_; have GW306 := n2_; have GE306 := n3_; clear n0_ n1_ n2_ n3_; clear hb hbox hg))
 (try simp only [Act.put, List.setIfInBounds_toArray, List.set_cons_zero, List.set_cons_succ])
 go_cut [16] (fun v16 wc => ∃ (kq : Nat) (x16_2 : Bool), v16 = .bool x16_2 ∧ Aside0 (find_Index_Shortest.j0 kq a1 x16_2 a0_0 l0_1 l0_2 = some (r1, r2)) ∧ Aside0 (kq ≤ k) ∧ Aside0 (wc.heap[gb306]? = some (.cells #[.string a0_0, (.slice A0_1 l0_1.length c0_1), (.slice A0_2 l0_2.length c0_2)] 24 (0, 0))) ∧ Aside0 (Below w.heap.size w wc))
 case first =>
  have H := HC3.out
  clear HC3
  by_cases c5 : a1 < 0
  ·rw [if_pos c5] at H
   have c5b0 : decide (a1 < 0) = true := decide_eq_true c5
   clear c5
   (first | rw [c5b0] | (simp only [i64_w, i32_w]; rw [c5b0]) | skip)
   have H' := Aside0.mk H
   clear H
   go_wp2
   go_meet
   case rel => exact ⟨_, (true), (by first | rfl | (simp; done) | (simp [*]; done)), H', ⟨by first | omega | exact Nat.le_refl _⟩, ⟨by (with_reducible repeat (first | refine blk_drewN ?_ _ | refine blk_drew ?_ | refine blk_alloc ?_ _)); exact BK306.out⟩, ⟨by repeat (first | (with_reducible first | exact HB.out | apply below_alloc | apply pw_below_drewN | apply below_drew1 | refine below_set ?_ GE306.out) | exact HB.out)⟩⟩
  ·rw [if_neg c5] at H
   have c5b0 : decide (a1 < 0) = false := decide_eq_false c5
   clear c5
   (first | rw [c5b0] | (simp only [i64_w, i32_w]; rw [c5b0]) | skip)
   have H' := Aside0.mk H
   clear H
   have hcz6_0 : w4.cell? ⟨gb306, 0, none⟩ = some (.string a0_0) := (blk_cell BK306.out 0).trans rfl
   have hcz6_1 : w4.cell? ⟨gb306, 1, none⟩ = some (.slice A0_1 l0_1.length c0_1) := (blk_cell BK306.out 1).trans rfl
   have hcz6_2 : w4.cell? ⟨gb306, 2, none⟩ = some (.slice A0_2 l0_2.length c0_2) := (blk_cell BK306.out 2).trans rfl
   have hfz6_0 := blk_frozen BK306.out 0
   have hfz6_1 := blk_frozen BK306.out 1
   have hfz6_2 := blk_frozen BK306.out 2
   go_wp2
   go_meet
   case rel => exact ⟨_, (decide (a1 ≥ (a0_0.size : Int))), (by first | rfl | (simp; done) | (simp [*]; done)), H', ⟨by first | omega | exact Nat.le_refl _⟩, ⟨by (with_reducible repeat (first | refine blk_drewN ?_ _ | refine blk_drew ?_ | refine blk_alloc ?_ _)); exact BK306.out⟩, ⟨by repeat (first | (with_reducible first | exact HB.out | apply below_alloc | apply pw_below_drewN | apply below_drew1 | refine below_set ?_ GE306.out) | exact HB.out)⟩⟩
 case rest =>
  clear HC3
  try clear p2
  try clear c3
  try clear c5
  try clear c5b0
  try clear hcz6_0
  try clear hcz6_1
  try clear hcz6_2
  try clear hfz6_0
  try clear hfz6_1
  try clear hfz6_2
  obtain ⟨kq, x16_2, rfl, HA, HJ2, BK306, HB⟩ := hcut
  cases kq with
  | zero => exact absurd HA.out (by simp [find_Index_Shortest.j0])
  | succ kj2 =>
   have H := HA.out
   clear HA
   simp only [find_Index_Shortest.j0] at H
   by_cases c7 : x16_2 = true
   ·subst c7
    have H1 : (some (0, 2)) = some (r1, r2) := by rw [if_pos rfl] at H; exact H
    clear H
    have H := H1
    clear H1
    simp only [Option.some.injEq, Prod.mk.injEq] at H
    obtain ⟨rfl, rfl⟩ := H
    go_wp2
    go_ret2
    exact ⟨by first | rfl | (simp [errW_none, errW_some] <;> rfl) | (simp [*, errW_none, errW_some] <;> rfl), by repeat (first | (with_reducible first | exact HB.out | apply below_alloc | apply pw_below_drewN | apply below_drew1 | refine below_set ?_ GE306.out) | exact HB.out)⟩
   ·replace c7 := Bool.eq_false_iff.mpr c7
    subst c7
    have H1 : ((slices_Index_int_int.f kj2 l0_1 a1).bind fun t307 => (if 0 ≤ t307 then (if t307 < (l0_2.length : Int) then (if (wrap64 (t307 + 1)) < (l0_1.length : Int) then (if 0 ≤ (wrap64 (t307 + 1)) then (if (wrap64 (t307 + 1)) < (l0_2.length : Int) then (if (wrap64 (a1 + (mx (rd l0_2 t307) (rd l0_2 (wrap64 (t307 + 1)))))) ≥ (a0_0.size : Int) then (some (0, 6)) else (some (wrap64 ((mx (rd l0_2 t307) (rd l0_2 (wrap64 (t307 + 1)))) + 1), 0))) else (none)) else (none)) else (if (wrap64 (a1 + (rd l0_2 t307))) ≥ (a0_0.size : Int) then (some (0, 6)) else (some (wrap64 ((rd l0_2 t307) + 1), 0)))) else (none)) else (none))) = some (r1, r2) := by rw [if_neg (show ¬ (false = true) by decide)] at H; exact H
    clear H
    have H := H1
    clear H1
    replace H := Option.bind_eq_some_iff.mp H
    obtain ⟨t307, A80, H⟩ := H
    replace H : (if 0 ≤ t307 then (if t307 < (l0_2.length : Int) then (if (wrap64 (t307 + 1)) < (l0_1.length : Int) then (if 0 ≤ (wrap64 (t307 + 1)) then (if (wrap64 (t307 + 1)) < (l0_2.length : Int) then (if (wrap64 (a1 + (mx (rd l0_2 t307) (rd l0_2 (wrap64 (t307 + 1)))))) ≥ (a0_0.size : Int) then (some (0, 6)) else (some (wrap64 ((mx (rd l0_2 t307) (rd l0_2 (wrap64 (t307 + 1)))) + 1), 0))) else (none)) else (none)) else (if (wrap64 (a1 + (rd l0_2 t307))) ≥ (a0_0.size : Int) then (some (0, 6)) else (some (wrap64 ((rd l0_2 t307) + 1), 0)))) else (none)) else (none)) = some (r1, r2) := H
    have A8 := Aside0.mk A80
    clear A80
    by_cases c9 : 0 ≤ t307
    ·rw [if_pos c9] at H
     have c9b0 : decide (0 ≤ t307) = true := decide_eq_true c9
     clear c9
     by_cases c10 : t307 < (l0_2.length : Int)
     ·rw [if_pos c10] at H
      have c10b0 : decide (t307 < (l0_2.length : Int)) = true := decide_eq_true c10
      clear c10
      by_cases c11 : (wrap64 (t307 + 1)) < (l0_1.length : Int)
      ·rw [if_pos c11] at H
       have c11b0 : decide ((wrap64 (t307 + 1)) < (l0_1.length : Int)) = true := decide_eq_true c11
       clear c11
       obtain ⟨ji12, hji12⟩ : ∃ j_ : Int, (wrap64 (t307 + 1)) = j_ := ⟨_, rfl⟩
       replace H : (if 0 ≤ (ji12) then (if (ji12) < (l0_2.length : Int) then (if (wrap64 (a1 + (mx (rd l0_2 t307) (rd l0_2 (ji12))))) ≥ (a0_0.size : Int) then (some (0, 6)) else (some (wrap64 ((mx (rd l0_2 t307) (rd l0_2 (ji12))) + 1), 0))) else (none)) else (none)) = some (r1, r2) := by first | (rw [hji12] at H; exact H) | (simp only [hji12] at H ⊢; exact H)
       (try rw [hji12] at c11b0)
       (try rw [hji12] at A8)
       have hji12w : (IntKind.i64.wrap (t307 + 1)) = ji12 := (i64_w _).trans hji12
       by_cases c13 : 0 ≤ (ji12)
       ·rw [if_pos c13] at H
        have c13b0 : decide (0 ≤ (ji12)) = true := decide_eq_true c13
        clear c13
        by_cases c14 : (ji12) < (l0_2.length : Int)
        ·rw [if_pos c14] at H
         have c14b0 : decide ((ji12) < (l0_2.length : Int)) = true := decide_eq_true c14
         clear c14
         obtain ⟨ji15, hji15⟩ : ∃ j_ : Int, (mx (rd l0_2 t307) (rd l0_2 (ji12))) = j_ := ⟨_, rfl⟩
         replace H : (if (wrap64 (a1 + (ji15))) ≥ (a0_0.size : Int) then (some (0, 6)) else (some (wrap64 ((ji15) + 1), 0))) = some (r1, r2) := by first | (rw [hji15] at H; exact H) | (simp only [hji15] at H ⊢; exact H)
         (try rw [hji15] at A8)
         have hji15_ : (if (rd l0_2 t307) < (rd l0_2 (ji12)) then (rd l0_2 (ji12)) else (rd l0_2 t307)) = ji15 := hji15
         by_cases c16 : (wrap64 (a1 + (ji15))) ≥ (a0_0.size : Int)
         ·rw [if_pos c16] at H
          have c16b0 : decide ((a0_0.size : Int) ≤ (wrap64 (a1 + (ji15)))) = true := decide_eq_true c16
          clear c16
          simp only [Option.some.injEq, Prod.mk.injEq] at H
          obtain ⟨rfl, rfl⟩ := H
          have hcz17_0 : wc.cell? ⟨gb306, 0, none⟩ = some (.string a0_0) := (blk_cell BK306.out 0).trans rfl
          have hcz17_1 : wc.cell? ⟨gb306, 1, none⟩ = some (.slice A0_1 l0_1.length c0_1) := (blk_cell BK306.out 1).trans rfl
          have hcz17_2 : wc.cell? ⟨gb306, 2, none⟩ = some (.slice A0_2 l0_2.length c0_2) := (blk_cell BK306.out 2).trans rfl
          have hfz17_0 := blk_frozen BK306.out 0
          have hfz17_1 := blk_frozen BK306.out 1
          have hfz17_2 := blk_frozen BK306.out 2
          go_wp2_with (first | ((with_reducible refine gate_callee (f := 51) rfl ?_); refine goesL_ (some 20) rfl rfl Try.func51 (by kernel_rfl) rfl #[.slice A0_1 l0_1.length c0_1, .int .i64 a1] rfl (by (try simp only [List.map_toArray, List.map_cons, List.map_nil]); first | done | rfl | (simp only [List.length_drop, List.length_take]; rfl)) ?_; (with_reducible refine (slices_Index_int_int.calls kj2 _ _ l0_1 a1 t307 _ ?side1 ?side2 A8.out).mono ?_); (case side1 => repeat (first | exact (Kd.C_below HR0_1.out HB.out) | (with_reducible refine Kd.C_alloc ?_ _) | (with_reducible refine Kd.C_drewN ?_ _) | (with_reducible refine Kd.C_drew ?_))); (case side2 => exact HC0_1.out); rintro e w' ⟨rfl, ⟨nd, rfl⟩⟩; refine ⟨_, rfl, ?_⟩; have p308 : 0 ≤ (t307 : Int) := of_decide_eq_true (by first | (with_reducible assumption) | assumption); have q308 : t307 < (l0_2.length : Int) := of_decide_eq_true (by first | (with_reducible assumption) | assumption); obtain ⟨ad308, e308, hx308_0⟩ := Kd.at_int HR0_2.out t307 p308 q308; cases e308; replace hx308_0 := (HB.out.cell (World.block_lt_of_cell? w _ hx308_0)).trans hx308_0; replace p308 := eq_true p308; replace q308 := eq_true q308; have p309 : 0 ≤ ((ji12) : Int) := of_decide_eq_true (by first | (with_reducible assumption) | assumption); have q309 : (ji12) < (l0_2.length : Int) := of_decide_eq_true (by first | (with_reducible assumption) | assumption); obtain ⟨ad309, e309, hx309_0⟩ := Kd.at_int HR0_2.out (ji12) p309 q309; obtain rfl : ad308 = ad309 := (by injection e309); replace hx309_0 := (HB.out.cell (World.block_lt_of_cell? w _ hx309_0)).trans hx309_0; replace p309 := eq_true p309; replace q309 := eq_true q309))
          go_ret2
          exact ⟨by first | rfl | (simp [errW_none, errW_some] <;> rfl) | (simp only [← hji12, ← hji15]; first | rfl | (simp [errW_none, errW_some] <;> rfl)) | (simp [*, errW_none, errW_some] <;> rfl), by repeat (first | (with_reducible first | exact HB.out | apply below_alloc | apply pw_below_drewN | apply below_drew1 | refine below_set ?_ GE306.out) | exact HB.out)⟩
         ·rw [if_neg c16] at H
          have c16b0 : decide ((a0_0.size : Int) ≤ (wrap64 (a1 + (ji15)))) = false := decide_eq_false c16
          clear c16
          simp only [Option.some.injEq, Prod.mk.injEq] at H
          obtain ⟨rfl, rfl⟩ := H
          have hcz18_0 : wc.cell? ⟨gb306, 0, none⟩ = some (.string a0_0) := (blk_cell BK306.out 0).trans rfl
          have hcz18_1 : wc.cell? ⟨gb306, 1, none⟩ = some (.slice A0_1 l0_1.length c0_1) := (blk_cell BK306.out 1).trans rfl
          have hcz18_2 : wc.cell? ⟨gb306, 2, none⟩ = some (.slice A0_2 l0_2.length c0_2) := (blk_cell BK306.out 2).trans rfl
          have hfz18_0 := blk_frozen BK306.out 0
          have hfz18_1 := blk_frozen BK306.out 1
          have hfz18_2 := blk_frozen BK306.out 2
          go_wp2_with (first | ((with_reducible refine gate_callee (f := 51) rfl ?_); refine goesL_ (some 20) rfl rfl Try.func51 (by kernel_rfl) rfl #[.slice A0_1 l0_1.length c0_1, .int .i64 a1] rfl (by (try simp only [List.map_toArray, List.map_cons, List.map_nil]); first | done | rfl | (simp only [List.length_drop, List.length_take]; rfl)) ?_; (with_reducible refine (slices_Index_int_int.calls kj2 _ _ l0_1 a1 t307 _ ?side1 ?side2 A8.out).mono ?_); (case side1 => repeat (first | exact (Kd.C_below HR0_1.out HB.out) | (with_reducible refine Kd.C_alloc ?_ _) | (with_reducible refine Kd.C_drewN ?_ _) | (with_reducible refine Kd.C_drew ?_))); (case side2 => exact HC0_1.out); rintro e w' ⟨rfl, ⟨nd, rfl⟩⟩; refine ⟨_, rfl, ?_⟩; have p308 : 0 ≤ (t307 : Int) := of_decide_eq_true (by first | (with_reducible assumption) | assumption); have q308 : t307 < (l0_2.length : Int) := of_decide_eq_true (by first | (with_reducible assumption) | assumption); obtain ⟨ad308, e308, hx308_0⟩ := Kd.at_int HR0_2.out t307 p308 q308; cases e308; replace hx308_0 := (HB.out.cell (World.block_lt_of_cell? w _ hx308_0)).trans hx308_0; replace p308 := eq_true p308; replace q308 := eq_true q308; have p309 : 0 ≤ ((ji12) : Int) := of_decide_eq_true (by first | (with_reducible assumption) | assumption); have q309 : (ji12) < (l0_2.length : Int) := of_decide_eq_true (by first | (with_reducible assumption) | assumption); obtain ⟨ad309, e309, hx309_0⟩ := Kd.at_int HR0_2.out (ji12) p309 q309; obtain rfl : ad308 = ad309 := (by injection e309); replace hx309_0 := (HB.out.cell (World.block_lt_of_cell? w _ hx309_0)).trans hx309_0; replace p309 := eq_true p309; replace q309 := eq_true q309))
          go_ret2
          exact ⟨by first | rfl | (simp [errW_none, errW_some] <;> rfl) | (simp only [← hji12, ← hji15]; first | rfl | (simp [errW_none, errW_some] <;> rfl)) | (simp [*, errW_none, errW_some] <;> rfl), by repeat (first | (with_reducible first | exact HB.out | apply below_alloc | apply pw_below_drewN | apply below_drew1 | refine below_set ?_ GE306.out) | exact HB.out)⟩
        ·rw [if_neg c14] at H
         exact absurd H (by simp)
       ·rw [if_neg c13] at H
        exact absurd H (by simp)
      ·rw [if_neg c11] at H
       have c11b0 : decide ((wrap64 (t307 + 1)) < (l0_1.length : Int)) = false := decide_eq_false c11
       clear c11
       by_cases c19 : (wrap64 (a1 + (rd l0_2 t307))) ≥ (a0_0.size : Int)
       ·rw [if_pos c19] at H
        have c19b0 : decide ((a0_0.size : Int) ≤ (wrap64 (a1 + (rd l0_2 t307)))) = true := decide_eq_true c19
        clear c19
        simp only [Option.some.injEq, Prod.mk.injEq] at H
        obtain ⟨rfl, rfl⟩ := H
        have hcz20_0 : wc.cell? ⟨gb306, 0, none⟩ = some (.string a0_0) := (blk_cell BK306.out 0).trans rfl
        have hcz20_1 : wc.cell? ⟨gb306, 1, none⟩ = some (.slice A0_1 l0_1.length c0_1) := (blk_cell BK306.out 1).trans rfl
        have hcz20_2 : wc.cell? ⟨gb306, 2, none⟩ = some (.slice A0_2 l0_2.length c0_2) := (blk_cell BK306.out 2).trans rfl
        have hfz20_0 := blk_frozen BK306.out 0
        have hfz20_1 := blk_frozen BK306.out 1
        have hfz20_2 := blk_frozen BK306.out 2
        go_wp2_with (first | ((with_reducible refine gate_callee (f := 51) rfl ?_); refine goesL_ (some 20) rfl rfl Try.func51 (by kernel_rfl) rfl #[.slice A0_1 l0_1.length c0_1, .int .i64 a1] rfl (by (try simp only [List.map_toArray, List.map_cons, List.map_nil]); first | done | rfl | (simp only [List.length_drop, List.length_take]; rfl)) ?_; (with_reducible refine (slices_Index_int_int.calls kj2 _ _ l0_1 a1 t307 _ ?side1 ?side2 A8.out).mono ?_); (case side1 => repeat (first | exact (Kd.C_below HR0_1.out HB.out) | (with_reducible refine Kd.C_alloc ?_ _) | (with_reducible refine Kd.C_drewN ?_ _) | (with_reducible refine Kd.C_drew ?_))); (case side2 => exact HC0_1.out); rintro e w' ⟨rfl, ⟨nd, rfl⟩⟩; refine ⟨_, rfl, ?_⟩; have p308 : 0 ≤ (t307 : Int) := of_decide_eq_true (by first | (with_reducible assumption) | assumption); have q308 : t307 < (l0_2.length : Int) := of_decide_eq_true (by first | (with_reducible assumption) | assumption); obtain ⟨ad308, e308, hx308_0⟩ := Kd.at_int HR0_2.out t307 p308 q308; cases e308; replace hx308_0 := (HB.out.cell (World.block_lt_of_cell? w _ hx308_0)).trans hx308_0; replace p308 := eq_true p308; replace q308 := eq_true q308))
        go_ret2
        exact ⟨by first | rfl | (simp [errW_none, errW_some] <;> rfl) | (simp [*, errW_none, errW_some] <;> rfl), by repeat (first | (with_reducible first | exact HB.out | apply below_alloc | apply pw_below_drewN | apply below_drew1 | refine below_set ?_ GE306.out) | exact HB.out)⟩
       ·rw [if_neg c19] at H
        have c19b0 : decide ((a0_0.size : Int) ≤ (wrap64 (a1 + (rd l0_2 t307)))) = false := decide_eq_false c19
        clear c19
        simp only [Option.some.injEq, Prod.mk.injEq] at H
        obtain ⟨rfl, rfl⟩ := H
        have hcz21_0 : wc.cell? ⟨gb306, 0, none⟩ = some (.string a0_0) := (blk_cell BK306.out 0).trans rfl
        have hcz21_1 : wc.cell? ⟨gb306, 1, none⟩ = some (.slice A0_1 l0_1.length c0_1) := (blk_cell BK306.out 1).trans rfl
        have hcz21_2 : wc.cell? ⟨gb306, 2, none⟩ = some (.slice A0_2 l0_2.length c0_2) := (blk_cell BK306.out 2).trans rfl
        have hfz21_0 := blk_frozen BK306.out 0
        have hfz21_1 := blk_frozen BK306.out 1
        have hfz21_2 := blk_frozen BK306.out 2
        go_wp2_with (first | ((with_reducible refine gate_callee (f := 51) rfl ?_); refine goesL_ (some 20) rfl rfl Try.func51 (by kernel_rfl) rfl #[.slice A0_1 l0_1.length c0_1, .int .i64 a1] rfl (by (try simp only [List.map_toArray, List.map_cons, List.map_nil]); first | done | rfl | (simp only [List.length_drop, List.length_take]; rfl)) ?_; (with_reducible refine (slices_Index_int_int.calls kj2 _ _ l0_1 a1 t307 _ ?side1 ?side2 A8.out).mono ?_); (case side1 => repeat (first | exact (Kd.C_below HR0_1.out HB.out) | (with_reducible refine Kd.C_alloc ?_ _) | (with_reducible refine Kd.C_drewN ?_ _) | (with_reducible refine Kd.C_drew ?_))); (case side2 => exact HC0_1.out); rintro e w' ⟨rfl, ⟨nd, rfl⟩⟩; refine ⟨_, rfl, ?_⟩; have p308 : 0 ≤ (t307 : Int) := of_decide_eq_true (by first | (with_reducible assumption) | assumption); have q308 : t307 < (l0_2.length : Int) := of_decide_eq_true (by first | (with_reducible assumption) | assumption); obtain ⟨ad308, e308, hx308_0⟩ := Kd.at_int HR0_2.out t307 p308 q308; cases e308; replace hx308_0 := (HB.out.cell (World.block_lt_of_cell? w _ hx308_0)).trans hx308_0; replace p308 := eq_true p308; replace q308 := eq_true q308))
        go_ret2
        exact ⟨by first | rfl | (simp [errW_none, errW_some] <;> rfl) | (simp [*, errW_none, errW_some] <;> rfl), by repeat (first | (with_reducible first | exact HB.out | apply below_alloc | apply pw_below_drewN | apply below_drew1 | refine below_set ?_ GE306.out) | exact HB.out)⟩
     ·rw [if_neg c10] at H
      exact absurd H (by simp)
    ·rw [if_neg c9] at H
     exact absurd H (by simp)

end Go.Proofs.Ytppelnlocfcgfaa.P
namespace Go.Proofs.Ytppelnlocfcgfaa.P
open Go.RowKit Go.Proofs.YtppelnlocfcgfaaW.PrintWords Go.Proofs.YtppelnlocfcgfaaW.PrintLast Go.Proofs.YtppelnlocfcgfaaW.PrintMore
attribute [local go_sem] max2_int min2_int max_two min_two max_three min_three max_four min_four   -- for this text's walks alone
set_option linter.unusedVariables false
set_option linter.unusedSimpArgs false

/-! ### silversideref07_Shortest: function 36 -/
mutual
def silversideref07_Shortest.j0 : Nat → ByteArray → Int → Bool → Option (Int × Int)
 | 0, _, _, _ => none
 | k + 1, x0, x1, x15 => if x15 = true then (some (0, 2)) else (silversideref07_Shortest.l0 k x0 x1 0 0)
def silversideref07_Shortest.l0 : Nat → ByteArray → Int → Int → Int → Option (Int × Int)
 | 0, _, _, _, _ => none
 | k + 1, x0, x1, x6, x7 => if x7 < (x0.size : Int) then (if x7 = x1 then (silversideref07_Shortest.l0 k x0 x1 x6 (wrap64 (x7 + 1))) else ((silversideref07_Common.f k x0 x1 x0 x7).bind fun t310 => (silversideref07_Shortest.l0 k x0 x1 (mx x6 t310) (wrap64 (x7 + 1))))) else (if (wrap64 (x1 + x6)) = (x0.size : Int) then (some (0, 6)) else (some (wrap64 (x6 + 1), 0)))
end
def silversideref07_Shortest.f (k : Nat) (a0 : ByteArray) (a1 : Int) : Option (Int × Int) := if a1 < 0 then (silversideref07_Shortest.j0 k a0 a1 true) else (silversideref07_Shortest.j0 k a0 a1 (decide (a1 ≥ (a0.size : Int))))
theorem silversideref07_Shortest.mono_l : ∀ k, (∀ y0 y1 y2, LeO (silversideref07_Shortest.j0 k y0 y1 y2) (silversideref07_Shortest.j0 (k + 1) y0 y1 y2)) ∧ (∀ y0 y1 y2 y3, LeO (silversideref07_Shortest.l0 k y0 y1 y2 y3) (silversideref07_Shortest.l0 (k + 1) y0 y1 y2 y3))
 | 0 => ⟨fun _ _ _ r h => by simp [silversideref07_Shortest.j0] at h, fun _ _ _ _ r h => by simp [silversideref07_Shortest.l0] at h⟩
 | k + 1 => by
  obtain ⟨ih0, ih1⟩ := silversideref07_Shortest.mono_l k
  refine ⟨?_, ?_⟩
  ·intro y0 y1 y2
   unfold silversideref07_Shortest.j0
   repeat' first
   | (with_reducible exact ih0 _ _ _)
   | (with_reducible exact ih1 _ _ _ _)
   | (with_reducible exact silversideref07_Common.mono _ _ _ _ _)
   | (with_reducible exact LeO.refl _)
   | (with_reducible exact LeO.none _)
   | (with_reducible refine LeO.ite ?_ ?_)
   | (with_reducible refine LeO.bind ?_ (fun _ => ?_))
   | exact ih0 _ _ _
   | exact ih1 _ _ _ _
   | exact silversideref07_Common.mono _ _ _ _ _
   | exact LeO.none _
   | refine LeO.ite ?_ ?_
   | refine LeO.bind ?_ (fun _ => ?_)
  ·intro y0 y1 y2 y3
   unfold silversideref07_Shortest.l0
   repeat' first
   | (with_reducible exact ih0 _ _ _)
   | (with_reducible exact ih1 _ _ _ _)
   | (with_reducible exact silversideref07_Common.mono _ _ _ _ _)
   | (with_reducible exact LeO.refl _)
   | (with_reducible exact LeO.none _)
   | (with_reducible refine LeO.ite ?_ ?_)
   | (with_reducible refine LeO.bind ?_ (fun _ => ?_))
   | exact ih0 _ _ _
   | exact ih1 _ _ _ _
   | exact silversideref07_Common.mono _ _ _ _ _
   | exact LeO.none _
   | refine LeO.ite ?_ ?_
   | refine LeO.bind ?_ (fun _ => ?_)
theorem silversideref07_Shortest.mono : ∀ a0 a1 k, LeO (silversideref07_Shortest.f k a0 a1) (silversideref07_Shortest.f (k + 1) a0 a1) := by
 intro a0 a1 k
 obtain ⟨ih0, ih1⟩ := silversideref07_Shortest.mono_l k
 unfold silversideref07_Shortest.f
 repeat' first
   | (with_reducible exact ih0 _ _ _)
   | (with_reducible exact ih1 _ _ _ _)
   | (with_reducible exact silversideref07_Common.mono _ _ _ _ _)
   | (with_reducible exact LeO.refl _)
   | (with_reducible exact LeO.none _)
   | (with_reducible refine LeO.ite ?_ ?_)
   | (with_reducible refine LeO.bind ?_ (fun _ => ?_))
   | exact ih0 _ _ _
   | exact ih1 _ _ _ _
   | exact silversideref07_Common.mono _ _ _ _ _
   | exact LeO.none _
   | refine LeO.ite ?_ ?_
   | refine LeO.bind ?_ (fun _ => ?_)
set_option maxHeartbeats 8000000 in
set_option maxRecDepth 100000 in
theorem silversideref07_Shortest.calls (k : Nat) (a0 : ByteArray) (a1 : Int) (r1 : Int) (r2 : Int) (w : World) (h : silversideref07_Shortest.f k a0 a1 = some (r1, r2)) :
  Calls Try.prog 36 #[.string a0, .int .i64 a1] w fun e w' => e = .returned (.tuple #[.int .i64 r1, .int .i64 r2]) ∧ Below w.heap.size w w' := by
 have HB := Aside0.mk (Below.refl w.heap.size w)
 have H : (if a1 < 0 then (silversideref07_Shortest.j0 k a0 a1 true) else (silversideref07_Shortest.j0 k a0 a1 (decide (a1 ≥ (a0.size : Int))))) = some (r1, r2) := h
 clear h
 have HC3 := Aside0.mk H
 clear H
 go_enter Try.func36, Try.ntmps36
 go_upto_region 1 with (fail)
 go_cut [15] (fun v15 wc => ∃ (kq : Nat) (x15_2 : Bool), v15 = .bool x15_2 ∧ Aside0 (silversideref07_Shortest.j0 kq a0 a1 x15_2 = some (r1, r2)) ∧ Aside0 (kq ≤ k) ∧ Aside0 (Below w.heap.size w wc))
 case first =>
  have H := HC3.out
  clear HC3
  by_cases c4 : a1 < 0
  ·rw [if_pos c4] at H
   have c4b0 : decide (a1 < 0) = true := decide_eq_true c4
   clear c4
   (first | rw [c4b0] | (simp only [i64_w, i32_w]; rw [c4b0]) | skip)
   have H' := Aside0.mk H
   clear H
   go_wp2
   go_meet
   case rel => exact ⟨_, (true), (by first | rfl | (simp; done) | (simp [*]; done)), H', ⟨by first | omega | exact Nat.le_refl _⟩, ⟨by repeat (first | (with_reducible first | exact HB.out | apply below_alloc | apply pw_below_drewN | apply below_drew1) | exact HB.out)⟩⟩
  ·rw [if_neg c4] at H
   have c4b0 : decide (a1 < 0) = false := decide_eq_false c4
   clear c4
   (first | rw [c4b0] | (simp only [i64_w, i32_w]; rw [c4b0]) | skip)
   have H' := Aside0.mk H
   clear H
   go_wp2
   go_meet
   case rel => exact ⟨_, (decide (a1 ≥ (a0.size : Int))), (by first | rfl | (simp; done) | (simp [*]; done)), H', ⟨by first | omega | exact Nat.le_refl _⟩, ⟨by repeat (first | (with_reducible first | exact HB.out | apply below_alloc | apply pw_below_drewN | apply below_drew1) | exact HB.out)⟩⟩
 case rest =>
  clear HC3
  try clear p2
  try clear c3
  try clear c4
  try clear c4b0
  obtain ⟨kq, x15_2, rfl, HA, HJ2, HB⟩ := hcut
  cases kq with
  | zero => exact absurd HA.out (by simp [silversideref07_Shortest.j0])
  | succ kj2 =>
   have H := HA.out
   clear HA
   simp only [silversideref07_Shortest.j0] at H
   by_cases c5 : x15_2 = true
   ·subst c5
    have H1 : (some (0, 2)) = some (r1, r2) := by rw [if_pos rfl] at H; exact H
    clear H
    have H := H1
    clear H1
    simp only [Option.some.injEq, Prod.mk.injEq] at H
    obtain ⟨rfl, rfl⟩ := H
    go_wp2
    go_ret2
    exact ⟨by first | rfl | (simp [errW_none, errW_some] <;> rfl) | (simp [*, errW_none, errW_some] <;> rfl), by repeat (first | (with_reducible first | exact HB.out | apply below_alloc | apply pw_below_drewN | apply below_drew1) | exact HB.out)⟩
   ·replace c5 := Bool.eq_false_iff.mpr c5
    subst c5
    have H1 : (silversideref07_Shortest.l0 kj2 a0 a1 0 0) = some (r1, r2) := by rw [if_neg (show ¬ (false = true) by decide)] at H; exact H
    clear H
    have H := H1
    clear H1
    have H' := Aside0.mk H
    clear H
    go_wp2
    go_loopg [6, 7] kj2 (fun kq v6 v7 w' => ∃ (x6_2 : Int) (x7_2 : Int), v6 = .int .i64 x6_2 ∧ v7 = .int .i64 x7_2 ∧ Aside0 (silversideref07_Shortest.l0 kq a0 a1 x6_2 x7_2 = some (r1, r2)) ∧ Aside0 (kq ≤ kj2) ∧ Aside0 (Below w.heap.size w w'))
    case atStart => exact ⟨(0), (0), (by first | rfl | (simp; done) | (simp [*]; done)), (by first | rfl | (simp; done) | (simp [*]; done)), H', ⟨Nat.le_refl _⟩, ⟨by repeat (first | (with_reducible first | exact HB.out | apply below_alloc | apply pw_below_drewN | apply below_drew1) | exact HB.out)⟩⟩
    case round =>
     clear H'
     try clear p2
     try clear c3
     try clear c4
     try clear c4b0
     try clear c5
     try clear p2
     obtain ⟨x6_2, x7_2, rfl, rfl, HA, HK2, HB⟩ := hrel
     cases gk with
     | zero => exact absurd HA.out (by simp [silversideref07_Shortest.l0])
     | succ k2 =>
      have H := HA.out
      clear HA
      simp only [silversideref07_Shortest.l0] at H
      by_cases c6 : x7_2 < (a0.size : Int)
      ·rw [if_pos c6] at H
       have c6b0 : decide (x7_2 < (a0.size : Int)) = true := decide_eq_true c6
       clear c6
       by_cases c7 : x7_2 = a1
       ·rw [if_pos c7] at H
        have c7b0 : (x7_2 == a1) = true := beq_iff_eq.mpr c7
        have c7b1 : (x7_2 != a1) = false := bne_eq_false_iff_eq.mpr c7
        clear c7
        have H' := Aside0.mk H
        clear H
        go_wp2
        go_roundg k2
        case measure => have := HJ2.out; have := HK2.out; omega
        case rel => exact ⟨(x6_2), (wrap64 (x7_2 + 1)), (by first | rfl | (simp; done) | (simp [*]; done)), (by first | rfl | (simp; done) | (simp [*]; done)), H', ⟨by have := HJ2.out; have := HK2.out; omega⟩, ⟨by repeat (first | (with_reducible first | exact HB.out | apply below_alloc | apply pw_below_drewN | apply below_drew1) | exact HB.out)⟩⟩
       ·rw [if_neg c7] at H
        have c7b0 : (x7_2 == a1) = false := beq_eq_false_iff_ne.mpr c7
        have c7b1 : (x7_2 != a1) = true := bne_iff_ne.mpr c7
        replace H := Option.bind_eq_some_iff.mp H
        obtain ⟨t310, A80, H⟩ := H
        replace H : (silversideref07_Shortest.l0 k2 a0 a1 (mx x6_2 t310) (wrap64 (x7_2 + 1))) = some (r1, r2) := H
        have A8 := Aside0.mk A80
        clear A80
        obtain ⟨ji9, hji9⟩ : ∃ j_ : Int, (mx x6_2 t310) = j_ := ⟨_, rfl⟩
        replace H : (silversideref07_Shortest.l0 k2 a0 a1 ji9 (wrap64 (x7_2 + 1))) = some (r1, r2) := by first | (rw [hji9] at H; exact H) | (simp only [hji9] at H ⊢; exact H)
        (try rw [hji9] at A8)
        have hji9_ : (if x6_2 < t310 then t310 else x6_2) = ji9 := hji9
        have H' := Aside0.mk H
        clear H
        go_wp2_with (first | ((with_reducible refine gate_callee (f := 43) rfl ?_); refine goesL_ (some 30) rfl rfl Try.func43 (by kernel_rfl) rfl #[.string a0, .int .i64 a1, .string a0, .int .i64 x7_2] rfl (by (try simp only [List.map_toArray, List.map_cons, List.map_nil]); first | done | rfl | (simp only [List.length_drop, List.length_take]; rfl)) ?_; (with_reducible refine (silversideref07_Common.calls k2 a0 a1 a0 x7_2 t310 _ A8.out).mono ?_); rintro e w' ⟨rfl, ⟨nd, rfl⟩⟩; refine ⟨_, rfl, ?_⟩))
        go_roundg k2
        case measure => have := HJ2.out; have := HK2.out; omega
        case rel => exact ⟨(ji9), (wrap64 (x7_2 + 1)), (by first | rfl | (simp; done) | (simp only [← hji9] <;> (first | rfl | simp)) | (simp [*]; done)), (by first | rfl | (simp; done) | (simp [*]; done)), H', ⟨by have := HJ2.out; have := HK2.out; omega⟩, ⟨by repeat (first | (with_reducible first | exact HB.out | apply below_alloc | apply pw_below_drewN | apply below_drew1) | exact HB.out)⟩⟩
      ·rw [if_neg c6] at H
       have c6b0 : decide (x7_2 < (a0.size : Int)) = false := decide_eq_false c6
       clear c6
       by_cases c10 : (wrap64 (a1 + x6_2)) = (a0.size : Int)
       ·rw [if_pos c10] at H
        have c10b0 : ((wrap64 (a1 + x6_2)) == (a0.size : Int)) = true := beq_iff_eq.mpr c10
        have c10b1 : ((wrap64 (a1 + x6_2)) != (a0.size : Int)) = false := bne_eq_false_iff_eq.mpr c10
        clear c10
        simp only [Option.some.injEq, Prod.mk.injEq] at H
        obtain ⟨rfl, rfl⟩ := H
        go_wp2
        go_ret2
        exact ⟨by first | rfl | (simp [errW_none, errW_some] <;> rfl) | (simp [*, errW_none, errW_some] <;> rfl), by repeat (first | (with_reducible first | exact HB.out | apply below_alloc | apply pw_below_drewN | apply below_drew1) | exact HB.out)⟩
       ·rw [if_neg c10] at H
        have c10b0 : ((wrap64 (a1 + x6_2)) == (a0.size : Int)) = false := beq_eq_false_iff_ne.mpr c10
        have c10b1 : ((wrap64 (a1 + x6_2)) != (a0.size : Int)) = true := bne_iff_ne.mpr c10
        simp only [Option.some.injEq, Prod.mk.injEq] at H
        obtain ⟨rfl, rfl⟩ := H
        go_wp2
        go_ret2
        exact ⟨by first | rfl | (simp [errW_none, errW_some] <;> rfl) | (simp [*, errW_none, errW_some] <;> rfl), by repeat (first | (with_reducible first | exact HB.out | apply below_alloc | apply pw_below_drewN | apply below_drew1) | exact HB.out)⟩

end Go.Proofs.Ytppelnlocfcgfaa.P
namespace Go.Proofs.Ytppelnlocfcgfaa.P
open Go.RowKit Go.Proofs.YtppelnlocfcgfaaW.PrintWords Go.Proofs.YtppelnlocfcgfaaW.PrintLast Go.Proofs.YtppelnlocfcgfaaW.PrintMore
attribute [local go_sem] max2_int min2_int max_two min_two max_three min_three max_four min_four   -- for this text's walks alone
set_option linter.unusedVariables false
set_option linter.unusedSimpArgs false

/-! ### silversidelaw07_FindShortest: function 9 -/
def silversidelaw07_FindShortest.f (k : Nat) (a0 : ByteArray) (a1 : Int) : Option (Bool) := if 0 ≤ (mn (a0.size : Int) 300) then (if (mn (a0.size : Int) 300) ≤ (a0.size : Int) then ((find_New.f k (a0.extract 0 ((mn (a0.size : Int) 300) : Int).toNat)).bind fun bt311 => ((find_Index_Shortest.f k bt311.1 bt311.2.1 bt311.2.2.1 a1).bind fun bt320 => ((silversideref07_Shortest.f k (a0.extract 0 ((mn (a0.size : Int) 300) : Int).toNat) a1).bind fun bt322 => (if bt311.2.2.2 = 0 then (if bt320.1 = bt322.1 then (if bt320.2 = bt322.2 then ((silversidelaw07_awake.f k).bind fun t324 => (some t324)) else (some false)) else (some false)) else (some false))))) else (none)) else (none)
theorem silversidelaw07_FindShortest.mono : ∀ a0 a1 k, LeO (silversidelaw07_FindShortest.f k a0 a1) (silversidelaw07_FindShortest.f (k + 1) a0 a1) := by
 intro a0 a1 k
 unfold silversidelaw07_FindShortest.f
 repeat' first
   | (with_reducible exact find_Index_Shortest.mono _ _ _ _ _)
   | (with_reducible exact find_New.mono _ _)
   | (with_reducible exact silversidelaw07_awake.mono _)
   | (with_reducible exact silversideref07_Shortest.mono _ _ _)
   | (with_reducible exact LeO.refl _)
   | (with_reducible exact LeO.none _)
   | (with_reducible refine LeO.ite ?_ ?_)
   | (with_reducible refine LeO.bind ?_ (fun _ => ?_))
   | exact find_Index_Shortest.mono _ _ _ _ _
   | exact find_New.mono _ _
   | exact silversidelaw07_awake.mono _
   | exact silversideref07_Shortest.mono _ _ _
   | exact LeO.none _
   | refine LeO.ite ?_ ?_
   | refine LeO.bind ?_ (fun _ => ?_)
set_option maxHeartbeats 8000000 in
set_option maxRecDepth 100000 in
theorem silversidelaw07_FindShortest.calls (k : Nat) (a0 : ByteArray) (a1 : Int) (r : Bool) (w : World) (h : silversidelaw07_FindShortest.f k a0 a1 = some r) :
  Calls Try.prog 9 #[.string a0, .int .i64 a1] w fun e w' => e = .returned (.bool r) ∧ Below w.heap.size w w' := by
 have hu24 := Try.underlying24
 have HB := Aside0.mk (Below.refl w.heap.size w)
 have H : (if 0 ≤ (mn (a0.size : Int) 300) then (if (mn (a0.size : Int) 300) ≤ (a0.size : Int) then ((find_New.f k (a0.extract 0 ((mn (a0.size : Int) 300) : Int).toNat)).bind fun bt311 => ((find_Index_Shortest.f k bt311.1 bt311.2.1 bt311.2.2.1 a1).bind fun bt320 => ((silversideref07_Shortest.f k (a0.extract 0 ((mn (a0.size : Int) 300) : Int).toNat) a1).bind fun bt322 => (if bt311.2.2.2 = 0 then (if bt320.1 = bt322.1 then (if bt320.2 = bt322.2 then ((silversidelaw07_awake.f k).bind fun t324 => (some t324)) else (some false)) else (some false)) else (some false))))) else (none)) else (none)) = some r := h
 clear h
 obtain ⟨ji3, hji3⟩ : ∃ j_ : Int, (mn (a0.size : Int) 300) = j_ := ⟨_, rfl⟩
 replace H : (if 0 ≤ (ji3) then (if (ji3) ≤ (a0.size : Int) then ((find_New.f k (a0.extract 0 ((ji3) : Int).toNat)).bind fun bt311 => ((find_Index_Shortest.f k bt311.1 bt311.2.1 bt311.2.2.1 a1).bind fun bt320 => ((silversideref07_Shortest.f k (a0.extract 0 ((ji3) : Int).toNat) a1).bind fun bt322 => (if bt311.2.2.2 = 0 then (if bt320.1 = bt322.1 then (if bt320.2 = bt322.2 then ((silversidelaw07_awake.f k).bind fun t324 => (some t324)) else (some false)) else (some false)) else (some false))))) else (none)) else (none)) = some r := by first | (rw [hji3] at H; exact H) | (simp only [hji3] at H ⊢; exact H)
 (try (have hji3h : ji3 ≤ 300 := by (rw [← hji3]; unfold mn; (repeat' split) <;> omega)))
 (try (have hji3g : ji3 ≤ 64 := by omega))
 (try (have hji3l : 0 ≤ ji3 := by (rw [← hji3]; unfold mn; (repeat' split) <;> omega)))
 (try (have hji3m : 0 ≤ ji3 := by omega))
 have hji3_ : (if 300 < (a0.size : Int) then 300 else (a0.size : Int)) = ji3 := hji3
 by_cases c4 : 0 ≤ (ji3)
 ·rw [if_pos c4] at H
  have c4b0 := eq_true c4
  have c4b1 : decide (0 ≤ (ji3)) = true := decide_eq_true c4
  clear c4
  by_cases c5 : (ji3) ≤ (a0.size : Int)
  ·rw [if_pos c5] at H
   have c5b0 := eq_true c5
   have c5b1 : decide ((ji3) ≤ (a0.size : Int)) = true := decide_eq_true c5
   clear c5
   replace H := Option.bind_eq_some_iff.mp H
   obtain ⟨⟨t311, t312, t315, t318⟩, A60, H⟩ := H
   replace H : ((find_Index_Shortest.f k t311 t312 t315 a1).bind fun bt320 => ((silversideref07_Shortest.f k (a0.extract 0 ((ji3) : Int).toNat) a1).bind fun bt322 => (if t318 = 0 then (if bt320.1 = bt322.1 then (if bt320.2 = bt322.2 then ((silversidelaw07_awake.f k).bind fun t324 => (some t324)) else (some false)) else (some false)) else (some false)))) = some r := H
   have A6 := Aside0.mk A60
   clear A60
   replace H := Option.bind_eq_some_iff.mp H
   obtain ⟨⟨t320, t321⟩, A70, H⟩ := H
   replace H : ((silversideref07_Shortest.f k (a0.extract 0 ((ji3) : Int).toNat) a1).bind fun bt322 => (if t318 = 0 then (if t320 = bt322.1 then (if t321 = bt322.2 then ((silversidelaw07_awake.f k).bind fun t324 => (some t324)) else (some false)) else (some false)) else (some false))) = some r := H
   have A7 := Aside0.mk A70
   clear A70
   replace H := Option.bind_eq_some_iff.mp H
   obtain ⟨⟨t322, t323⟩, A80, H⟩ := H
   replace H : (if t318 = 0 then (if t320 = t322 then (if t321 = t323 then ((silversidelaw07_awake.f k).bind fun t324 => (some t324)) else (some false)) else (some false)) else (some false)) = some r := H
   have A8 := Aside0.mk A80
   clear A80
   by_cases c9 : t318 = 0
   ·rw [if_pos c9] at H
    have c9b0 : (t318 == 0) = true := beq_iff_eq.mpr c9
    have c9b1 : (t318 != 0) = false := bne_eq_false_iff_eq.mpr c9
    clear c9
    by_cases c10 : t320 = t322
    ·rw [if_pos c10] at H
     have c10b0 : (t320 == t322) = true := beq_iff_eq.mpr c10
     have c10b1 : (t320 != t322) = false := bne_eq_false_iff_eq.mpr c10
     clear c10
     by_cases c11 : t321 = t323
     ·rw [if_pos c11] at H
      have c11b0 : (t321 == t323) = true := beq_iff_eq.mpr c11
      have c11b1 : (t321 != t323) = false := bne_eq_false_iff_eq.mpr c11
      clear c11
      replace H := Option.bind_eq_some_iff.mp H
      obtain ⟨t324, A120, H⟩ := H
      replace H : (some t324) = some r := H
      have A12 := Aside0.mk A120
      clear A120
      obtain rfl := Option.some.inj H
      go_enter Try.func9, Try.ntmps9
      go_wp2_with (first | ((with_reducible refine gate_callee (f := 16) rfl ?_); refine goesL_ (some 18) rfl rfl Try.func16 (by kernel_rfl) rfl #[.string (a0.extract 0 ((ji3) : Int).toNat)] rfl (by (try simp only [List.map_toArray, List.map_cons, List.map_nil]); first | done | (simp only [hji3]; rfl) | rfl | (simp only [List.length_drop, List.length_take]; rfl)) ?_; (with_reducible refine (find_New.calls k (a0.extract 0 ((ji3) : Int).toNat) t311 t312 t315 t318 _ A6.out).mono ?_); rintro e w13 ⟨v313, v316, rfl, ho0, ho1, hb⟩; refine ⟨_, rfl, ?_⟩; have n0_ := Aside0.mk (Kd.R_lower ho0 (below_size (by repeat (first | (with_reducible first | exact HB.out | apply below_alloc | apply pw_below_drewN | apply below_drew1) | exact HB.out)))); have n1_ := Aside0.mk (Kd.R_lower ho1 (below_size (by repeat (first | (with_reducible first | exact HB.out | apply below_alloc | apply pw_below_drewN | apply below_drew1) | exact HB.out)))); have n2_ := Aside0.mk (below_step (by repeat (first | (with_reducible first | exact HB.out | apply below_alloc | apply pw_below_drewN | apply below_drew1) | exact HB.out)) hb); clear HB; have HO314 := n0_; have HO317 := n1_; have HB := n2_; clear n0_ n1_ n2_; (try clear hb); (try clear hb2); (try clear hk); (try clear hi); (try clear ho0); (try clear ho1)) | ((with_reducible refine gate_dst (N := 5) rfl ?_); refine box_event ?hg (N := 5) ?hd (cs := #[.string (⟨#[]⟩ : ByteArray), .slice none 0 0, .slice none 0 0]) (t := 24) ?hr ?_; (case hd => rfl); (case hg => rfl); (case hr => first | (go_simp; done) | (go_simp; rfl)); intro gb319 hg w14 hbox hb; have n0_ := Aside0.mk (Kd.R_below (by (with_reducible repeat (first | apply Kd.R_alloc | apply Kd.R_drewN | apply Kd.R_drew)); exact HO314.out) hb); have n1_ := Aside0.mk (Kd.R_below (by (with_reducible repeat (first | apply Kd.R_alloc | apply Kd.R_drewN | apply Kd.R_drew)); exact HO317.out) hb); have n2_ := Aside0.mk (below_step (by repeat (first | (with_reducible first | exact HB.out | apply below_alloc | apply pw_below_drewN | apply below_drew1) | exact HB.out)) hb); have n3_ := Aside0.mk (hbox); have n4_ := Aside0.mk ((by rw [hg]; exact (below_size (by repeat (first | (with_reducible first | exact HB.out | apply below_alloc | apply pw_below_drewN | apply below_drew1) | exact HB.out))) : w.heap.size ≤ gb319)); have n5_ := Aside0.mk ((by rw [hg]; exact (below_size (by repeat (first | (with_reducible first | exact HB.out | apply below_alloc | apply pw_below_drewN | apply below_drew1) | exact HB.out))) : w.heap.size ≤ gb319)); clear HO314; clear HO317; clear HB; have HO314 := n0_; have HO317 := n1_; have HB := n2_; have BK319 := n3_; have GW319 := n4_; have GE319 := n5_; clear n0_ n1_ n2_ n3_ n4_ n5_; clear hb hbox hg; have hcz15_0 : w14.cell? ⟨gb319, 0, none⟩ = some (.string (⟨#[]⟩ : ByteArray)) := (blk_cell BK319.out 0).trans rfl; have hcz15_1 : w14.cell? ⟨gb319, 1, none⟩ = some (.slice none 0 0) := (blk_cell BK319.out 1).trans rfl; have hcz15_2 : w14.cell? ⟨gb319, 2, none⟩ = some (.slice none 0 0) := (blk_cell BK319.out 2).trans rfl; have hfz15_0 := blk_frozen BK319.out 0; have hfz15_1 := blk_frozen BK319.out 1; have hfz15_2 := blk_frozen BK319.out 2; obtain ⟨Ao16, co16, eo16⟩ := Kd.R_slice HO314.out; subst eo16; obtain ⟨Ao17, co17, eo17⟩ := Kd.R_slice HO317.out; subst eo17) | ((with_reducible refine gate_callee (f := 35) rfl ?_); refine goesL_ (some 24) rfl rfl Try.func35 (by kernel_rfl) rfl #[.agg #[.string t311, .slice Ao16 t312.length co16, .slice Ao17 t315.length co17], .int .i64 a1] rfl (by (try simp only [List.map_toArray, List.map_cons, List.map_nil]); first | done | rfl | (simp only [List.length_drop, List.length_take]; rfl)) ?_; (with_reducible refine (find_Index_Shortest.calls k t311 _ _ t312 _ _ t315 a1 t320 t321 _ ?side1 ?side2 ?side3 ?side4 A7.out).mono ?_); (case side1 => refine (Kd.R_reads' (e := 3) (base := w.heap.size) (ok := fun k_ => some k_ ≠ (.slice Ao17 t315.length co17 : Value).ownBlock) (n := t312.length) (c := co16) ?_).2.2; exact (by (with_reducible repeat (first | apply Kd.R_alloc | apply Kd.R_drewN | apply Kd.R_drew)); exact (Kd.R_mono (Kd.R_far (p := ⟨gb319, 2, none⟩) (Kd.R_far (p := ⟨gb319, 1, none⟩) (Kd.R_far (p := ⟨gb319, 0, none⟩) (Kd.R_types HO314.out BK319.out (by decide)) (fun _ hk => hk.2) (.string t311)) (fun _ hk => hk.2) (.slice Ao16 t312.length co16)) (fun _ hk => hk.2) (.slice Ao17 t315.length co17)) (fun _ h_ => h_.1)))); (case side2 => exact (Kd.R_reads' HO314.out).2.1); (case side3 => refine (Kd.R_reads' (e := 3) (base := w.heap.size) (ok := fun k_ => some k_ ≠ (.slice Ao16 t312.length co16 : Value).ownBlock) (n := t315.length) (c := co17) ?_).2.2; exact (by (with_reducible repeat (first | apply Kd.R_alloc | apply Kd.R_drewN | apply Kd.R_drew)); exact (Kd.R_mono (Kd.R_far (p := ⟨gb319, 2, none⟩) (Kd.R_far (p := ⟨gb319, 1, none⟩) (Kd.R_far (p := ⟨gb319, 0, none⟩) (Kd.R_types HO317.out BK319.out (by decide)) (fun _ hk => hk.2) (.string t311)) (fun _ hk => hk.2) (.slice Ao16 t312.length co16)) (fun _ hk => hk.2) (.slice Ao17 t315.length co17)) (fun _ h_ => h_.1)))); (case side4 => exact (Kd.R_reads' HO317.out).2.1); rintro e w18 ⟨rfl, hb⟩; refine ⟨_, rfl, ?_⟩; have n0_ := Aside0.mk (Kd.R_below (by (with_reducible repeat (first | apply Kd.R_alloc | apply Kd.R_drewN | apply Kd.R_drew)); exact (Kd.R_mono (Kd.R_far (p := ⟨gb319, 2, none⟩) (Kd.R_far (p := ⟨gb319, 1, none⟩) (Kd.R_far (p := ⟨gb319, 0, none⟩) (Kd.R_types HO314.out BK319.out (by decide)) (fun _ hk => hk.2) (.string t311)) (fun _ hk => hk.2) (.slice Ao16 t312.length co16)) (fun _ hk => hk.2) (.slice Ao17 t315.length co17)) (fun _ h_ => h_.1))) hb); have n1_ := Aside0.mk (Kd.R_below (by (with_reducible repeat (first | apply Kd.R_alloc | apply Kd.R_drewN | apply Kd.R_drew)); exact (Kd.R_mono (Kd.R_far (p := ⟨gb319, 2, none⟩) (Kd.R_far (p := ⟨gb319, 1, none⟩) (Kd.R_far (p := ⟨gb319, 0, none⟩) (Kd.R_types HO317.out BK319.out (by decide)) (fun _ hk => hk.2) (.string t311)) (fun _ hk => hk.2) (.slice Ao16 t312.length co16)) (fun _ hk => hk.2) (.slice Ao17 t315.length co17)) (fun _ h_ => h_.1))) hb); have n2_ := Aside0.mk (blk_below (g := gb319) (o := .cells #[.string t311, .slice Ao16 t312.length co16, .slice Ao17 t315.length co17] 24 (0, 0)) (by (with_reducible repeat (first | refine blk_drewN ?_ _ | refine blk_drew ?_ | refine blk_alloc ?_ _)); refine blk_put (cs := #[.string t311, .slice Ao16 t312.length co16, .slice none 0 0]) ?_ 2 _ rfl; (with_reducible repeat (first | refine blk_drewN ?_ _ | refine blk_drew ?_ | refine blk_alloc ?_ _)); refine blk_put (cs := #[.string t311, .slice none 0 0, .slice none 0 0]) ?_ 1 _ rfl; (with_reducible repeat (first | refine blk_drewN ?_ _ | refine blk_drew ?_ | refine blk_alloc ?_ _)); refine blk_put (cs := #[.string (⟨#[]⟩ : ByteArray), .slice none 0 0, .slice none 0 0]) ?_ 0 _ rfl; (with_reducible repeat (first | refine blk_drewN ?_ _ | refine blk_drew ?_ | refine blk_alloc ?_ _)); exact BK319.out) hb); have n3_ := Aside0.mk (below_step (by repeat (first | (with_reducible first | exact HB.out | apply below_alloc | apply pw_below_drewN | apply below_drew1 | refine below_set ?_ GE319.out) | exact HB.out)) hb); clear HO314; clear HO317; clear BK319; clear HB; have HO314 := n0_; have HO317 := n1_; have BK319 := n2_; have HB := n3_; clear n0_ n1_ n2_ n3_; (try clear hb); (try clear hb2); (try clear hk); (try clear hi)) | ((with_reducible refine gate_callee (f := 36) rfl ?_); refine goesL_ (some 30) rfl rfl Try.func36 (by kernel_rfl) rfl #[.string (a0.extract 0 ((ji3) : Int).toNat), .int .i64 a1] rfl (by (try simp only [List.map_toArray, List.map_cons, List.map_nil]); first | done | (simp only [hji3]; rfl) | rfl | (simp only [List.length_drop, List.length_take]; rfl)) ?_; (with_reducible refine (silversideref07_Shortest.calls k (a0.extract 0 ((ji3) : Int).toNat) a1 t322 t323 _ A8.out).mono ?_); rintro e w19 ⟨rfl, hb⟩; refine ⟨_, rfl, ?_⟩; have n0_ := Aside0.mk (Kd.R_below (by (with_reducible repeat (first | apply Kd.R_alloc | apply Kd.R_drewN | apply Kd.R_drew)); exact HO314.out) hb); have n1_ := Aside0.mk (Kd.R_below (by (with_reducible repeat (first | apply Kd.R_alloc | apply Kd.R_drewN | apply Kd.R_drew)); exact HO317.out) hb); have n2_ := Aside0.mk (blk_below (g := gb319) (o := .cells #[.string t311, .slice Ao16 t312.length co16, .slice Ao17 t315.length co17] 24 (0, 0)) (by (with_reducible repeat (first | refine blk_drewN ?_ _ | refine blk_drew ?_ | refine blk_alloc ?_ _)); exact BK319.out) hb); have n3_ := Aside0.mk (below_step (by repeat (first | (with_reducible first | exact HB.out | apply below_alloc | apply pw_below_drewN | apply below_drew1 | refine below_set ?_ GE319.out) | exact HB.out)) hb); clear HO314; clear HO317; clear BK319; clear HB; have HO314 := n0_; have HO317 := n1_; have BK319 := n2_; have HB := n3_; clear n0_ n1_ n2_ n3_; (try clear hb); (try clear hb2); (try clear hk); (try clear hi)) | (go_at_call 21; (with_reducible refine (silversidelaw07_awake.calls k  t324 _ A12.out).mono ?_); rintro e w20 ⟨rfl, hb⟩; have n0_ := Aside0.mk (Kd.R_below (by (with_reducible repeat (first | apply Kd.R_alloc | apply Kd.R_drewN | apply Kd.R_drew)); exact HO314.out) hb); have n1_ := Aside0.mk (Kd.R_below (by (with_reducible repeat (first | apply Kd.R_alloc | apply Kd.R_drewN | apply Kd.R_drew)); exact HO317.out) hb); have n2_ := Aside0.mk (blk_below (g := gb319) (o := .cells #[.string t311, .slice Ao16 t312.length co16, .slice Ao17 t315.length co17] 24 (0, 0)) (by (with_reducible repeat (first | refine blk_drewN ?_ _ | refine blk_drew ?_ | refine blk_alloc ?_ _)); exact BK319.out) hb); have n3_ := Aside0.mk (below_step (by repeat (first | (with_reducible first | exact HB.out | apply below_alloc | apply pw_below_drewN | apply below_drew1 | refine below_set ?_ GE319.out) | exact HB.out)) hb); clear HO314; clear HO317; clear BK319; clear HB; have HO314 := n0_; have HO317 := n1_; have BK319 := n2_; have HB := n3_; clear n0_ n1_ n2_ n3_; (try clear hb); (try clear hb2); (try clear hk); (try clear hi)))
      go_ret
      exact ⟨by first | rfl | (simp [errW_none, errW_some] <;> rfl) | (simp only [← hji3]; first | rfl | (simp [errW_none, errW_some] <;> rfl)) | (simp [*, errW_none, errW_some] <;> rfl), by repeat (first | (with_reducible first | exact HB.out | apply below_alloc | apply pw_below_drewN | apply below_drew1 | refine below_set ?_ GE319.out) | exact HB.out)⟩
     ·rw [if_neg c11] at H
      have c11b0 : (t321 == t323) = false := beq_eq_false_iff_ne.mpr c11
      have c11b1 : (t321 != t323) = true := bne_iff_ne.mpr c11
      obtain rfl := Option.some.inj H
      go_enter Try.func9, Try.ntmps9
      go_wp2_with (first | ((with_reducible refine gate_callee (f := 16) rfl ?_); refine goesL_ (some 18) rfl rfl Try.func16 (by kernel_rfl) rfl #[.string (a0.extract 0 ((ji3) : Int).toNat)] rfl (by (try simp only [List.map_toArray, List.map_cons, List.map_nil]); first | done | (simp only [hji3]; rfl) | rfl | (simp only [List.length_drop, List.length_take]; rfl)) ?_; (with_reducible refine (find_New.calls k (a0.extract 0 ((ji3) : Int).toNat) t311 t312 t315 t318 _ A6.out).mono ?_); rintro e w21 ⟨v313, v316, rfl, ho0, ho1, hb⟩; refine ⟨_, rfl, ?_⟩; have n0_ := Aside0.mk (Kd.R_lower ho0 (below_size (by repeat (first | (with_reducible first | exact HB.out | apply below_alloc | apply pw_below_drewN | apply below_drew1) | exact HB.out)))); have n1_ := Aside0.mk (Kd.R_lower ho1 (below_size (by repeat (first | (with_reducible first | exact HB.out | apply below_alloc | apply pw_below_drewN | apply below_drew1) | exact HB.out)))); have n2_ := Aside0.mk (below_step (by repeat (first | (with_reducible first | exact HB.out | apply below_alloc | apply pw_below_drewN | apply below_drew1) | exact HB.out)) hb); clear HB; have HO314 := n0_; have HO317 := n1_; have HB := n2_; clear n0_ n1_ n2_; (try clear hb); (try clear hb2); (try clear hk); (try clear hi); (try clear ho0); (try clear ho1)) | ((with_reducible refine gate_dst (N := 5) rfl ?_); refine box_event ?hg (N := 5) ?hd (cs := #[.string (⟨#[]⟩ : ByteArray), .slice none 0 0, .slice none 0 0]) (t := 24) ?hr ?_; (case hd => rfl); (case hg => rfl); (case hr => first | (go_simp; done) | (go_simp; rfl)); intro gb319 hg w22 hbox hb; have n0_ := Aside0.mk (Kd.R_below (by (with_reducible repeat (first | apply Kd.R_alloc | apply Kd.R_drewN | apply Kd.R_drew)); exact HO314.out) hb); have n1_ := Aside0.mk (Kd.R_below (by (with_reducible repeat (first | apply Kd.R_alloc | apply Kd.R_drewN | apply Kd.R_drew)); exact HO317.out) hb); have n2_ := Aside0.mk (below_step (by repeat (first | (with_reducible first | exact HB.out | apply below_alloc | apply pw_below_drewN | apply below_drew1) | exact HB.out)) hb); have n3_ := Aside0.mk (hbox); have n4_ := Aside0.mk ((by rw [hg]; exact (below_size (by repeat (first | (with_reducible first | exact HB.out | apply below_alloc | apply pw_below_drewN | apply below_drew1) | exact HB.out))) : w.heap.size ≤ gb319)); have n5_ := Aside0.mk ((by rw [hg]; exact (below_size (by repeat (first | (with_reducible first | exact HB.out | apply below_alloc | apply pw_below_drewN | apply below_drew1) | exact HB.out))) : w.heap.size ≤ gb319)); clear HO314; clear HO317; clear HB; have HO314 := n0_; have HO317 := n1_; have HB := n2_; have BK319 := n3_; have GW319 := n4_; have GE319 := n5_; clear n0_ n1_ n2_ n3_ n4_ n5_; clear hb hbox hg; have hcz23_0 : w22.cell? ⟨gb319, 0, none⟩ = some (.string (⟨#[]⟩ : ByteArray)) := (blk_cell BK319.out 0).trans rfl; have hcz23_1 : w22.cell? ⟨gb319, 1, none⟩ = some (.slice none 0 0) := (blk_cell BK319.out 1).trans rfl; have hcz23_2 : w22.cell? ⟨gb319, 2, none⟩ = some (.slice none 0 0) := (blk_cell BK319.out 2).trans rfl; have hfz23_0 := blk_frozen BK319.out 0; have hfz23_1 := blk_frozen BK319.out 1; have hfz23_2 := blk_frozen BK319.out 2; obtain ⟨Ao24, co24, eo24⟩ := Kd.R_slice HO314.out; subst eo24; obtain ⟨Ao25, co25, eo25⟩ := Kd.R_slice HO317.out; subst eo25) | ((with_reducible refine gate_callee (f := 35) rfl ?_); refine goesL_ (some 24) rfl rfl Try.func35 (by kernel_rfl) rfl #[.agg #[.string t311, .slice Ao24 t312.length co24, .slice Ao25 t315.length co25], .int .i64 a1] rfl (by (try simp only [List.map_toArray, List.map_cons, List.map_nil]); first | done | rfl | (simp only [List.length_drop, List.length_take]; rfl)) ?_; (with_reducible refine (find_Index_Shortest.calls k t311 _ _ t312 _ _ t315 a1 t320 t321 _ ?side1 ?side2 ?side3 ?side4 A7.out).mono ?_); (case side1 => refine (Kd.R_reads' (e := 3) (base := w.heap.size) (ok := fun k_ => some k_ ≠ (.slice Ao25 t315.length co25 : Value).ownBlock) (n := t312.length) (c := co24) ?_).2.2; exact (by (with_reducible repeat (first | apply Kd.R_alloc | apply Kd.R_drewN | apply Kd.R_drew)); exact (Kd.R_mono (Kd.R_far (p := ⟨gb319, 2, none⟩) (Kd.R_far (p := ⟨gb319, 1, none⟩) (Kd.R_far (p := ⟨gb319, 0, none⟩) (Kd.R_types HO314.out BK319.out (by decide)) (fun _ hk => hk.2) (.string t311)) (fun _ hk => hk.2) (.slice Ao24 t312.length co24)) (fun _ hk => hk.2) (.slice Ao25 t315.length co25)) (fun _ h_ => h_.1)))); (case side2 => exact (Kd.R_reads' HO314.out).2.1); (case side3 => refine (Kd.R_reads' (e := 3) (base := w.heap.size) (ok := fun k_ => some k_ ≠ (.slice Ao24 t312.length co24 : Value).ownBlock) (n := t315.length) (c := co25) ?_).2.2; exact (by (with_reducible repeat (first | apply Kd.R_alloc | apply Kd.R_drewN | apply Kd.R_drew)); exact (Kd.R_mono (Kd.R_far (p := ⟨gb319, 2, none⟩) (Kd.R_far (p := ⟨gb319, 1, none⟩) (Kd.R_far (p := ⟨gb319, 0, none⟩) (Kd.R_types HO317.out BK319.out (by decide)) (fun _ hk => hk.2) (.string t311)) (fun _ hk => hk.2) (.slice Ao24 t312.length co24)) (fun _ hk => hk.2) (.slice Ao25 t315.length co25)) (fun _ h_ => h_.1)))); (case side4 => exact (Kd.R_reads' HO317.out).2.1); rintro e w26 ⟨rfl, hb⟩; refine ⟨_, rfl, ?_⟩; have n0_ := Aside0.mk (Kd.R_below (by (with_reducible repeat (first | apply Kd.R_alloc | apply Kd.R_drewN | apply Kd.R_drew)); exact (Kd.R_mono (Kd.R_far (p := ⟨gb319, 2, none⟩) (Kd.R_far (p := ⟨gb319, 1, none⟩) (Kd.R_far (p := ⟨gb319, 0, none⟩) (Kd.R_types HO314.out BK319.out (by decide)) (fun _ hk => hk.2) (.string t311)) (fun _ hk => hk.2) (.slice Ao24 t312.length co24)) (fun _ hk => hk.2) (.slice Ao25 t315.length co25)) (fun _ h_ => h_.1))) hb); have n1_ := Aside0.mk (Kd.R_below (by (with_reducible repeat (first | apply Kd.R_alloc | apply Kd.R_drewN | apply Kd.R_drew)); exact (Kd.R_mono (Kd.R_far (p := ⟨gb319, 2, none⟩) (Kd.R_far (p := ⟨gb319, 1, none⟩) (Kd.R_far (p := ⟨gb319, 0, none⟩) (Kd.R_types HO317.out BK319.out (by decide)) (fun _ hk => hk.2) (.string t311)) (fun _ hk => hk.2) (.slice Ao24 t312.length co24)) (fun _ hk => hk.2) (.slice Ao25 t315.length co25)) (fun _ h_ => h_.1))) hb); have n2_ := Aside0.mk (blk_below (g := gb319) (o := .cells #[.string t311, .slice Ao24 t312.length co24, .slice Ao25 t315.length co25] 24 (0, 0)) (by (with_reducible repeat (first | refine blk_drewN ?_ _ | refine blk_drew ?_ | refine blk_alloc ?_ _)); refine blk_put (cs := #[.string t311, .slice Ao24 t312.length co24, .slice none 0 0]) ?_ 2 _ rfl; (with_reducible repeat (first | refine blk_drewN ?_ _ | refine blk_drew ?_ | refine blk_alloc ?_ _)); refine blk_put (cs := #[.string t311, .slice none 0 0, .slice none 0 0]) ?_ 1 _ rfl; (with_reducible repeat (first | refine blk_drewN ?_ _ | refine blk_drew ?_ | refine blk_alloc ?_ _)); refine blk_put (cs := #[.string (⟨#[]⟩ : ByteArray), .slice none 0 0, .slice none 0 0]) ?_ 0 _ rfl; (with_reducible repeat (first | refine blk_drewN ?_ _ | refine blk_drew ?_ | refine blk_alloc ?_ _)); exact BK319.out) hb); have n3_ := Aside0.mk (below_step (by repeat (first | (with_reducible first | exact HB.out | apply below_alloc | apply pw_below_drewN | apply below_drew1 | refine below_set ?_ GE319.out) | exact HB.out)) hb); clear HO314; clear HO317; clear BK319; clear HB; have HO314 := n0_; have HO317 := n1_; have BK319 := n2_; have HB := n3_; clear n0_ n1_ n2_ n3_; (try clear hb); (try clear hb2); (try clear hk); (try clear hi)) | ((with_reducible refine gate_callee (f := 36) rfl ?_); refine goesL_ (some 30) rfl rfl Try.func36 (by kernel_rfl) rfl #[.string (a0.extract 0 ((ji3) : Int).toNat), .int .i64 a1] rfl (by (try simp only [List.map_toArray, List.map_cons, List.map_nil]); first | done | (simp only [hji3]; rfl) | rfl | (simp only [List.length_drop, List.length_take]; rfl)) ?_; (with_reducible refine (silversideref07_Shortest.calls k (a0.extract 0 ((ji3) : Int).toNat) a1 t322 t323 _ A8.out).mono ?_); rintro e w27 ⟨rfl, hb⟩; refine ⟨_, rfl, ?_⟩; have n0_ := Aside0.mk (Kd.R_below (by (with_reducible repeat (first | apply Kd.R_alloc | apply Kd.R_drewN | apply Kd.R_drew)); exact HO314.out) hb); have n1_ := Aside0.mk (Kd.R_below (by (with_reducible repeat (first | apply Kd.R_alloc | apply Kd.R_drewN | apply Kd.R_drew)); exact HO317.out) hb); have n2_ := Aside0.mk (blk_below (g := gb319) (o := .cells #[.string t311, .slice Ao24 t312.length co24, .slice Ao25 t315.length co25] 24 (0, 0)) (by (with_reducible repeat (first | refine blk_drewN ?_ _ | refine blk_drew ?_ | refine blk_alloc ?_ _)); exact BK319.out) hb); have n3_ := Aside0.mk (below_step (by repeat (first | (with_reducible first | exact HB.out | apply below_alloc | apply pw_below_drewN | apply below_drew1 | refine below_set ?_ GE319.out) | exact HB.out)) hb); clear HO314; clear HO317; clear BK319; clear HB; have HO314 := n0_; have HO317 := n1_; have BK319 := n2_; have HB := n3_; clear n0_ n1_ n2_ n3_; (try clear hb); (try clear hb2); (try clear hk); (try clear hi)))
      go_ret
      exact ⟨by first | rfl | (simp [errW_none, errW_some] <;> rfl) | (simp only [← hji3]; first | rfl | (simp [errW_none, errW_some] <;> rfl)) | (simp [*, errW_none, errW_some] <;> rfl), by repeat (first | (with_reducible first | exact HB.out | apply below_alloc | apply pw_below_drewN | apply below_drew1 | refine below_set ?_ GE319.out) | exact HB.out)⟩
    ·rw [if_neg c10] at H
     have c10b0 : (t320 == t322) = false := beq_eq_false_iff_ne.mpr c10
     have c10b1 : (t320 != t322) = true := bne_iff_ne.mpr c10
     obtain rfl := Option.some.inj H
     go_enter Try.func9, Try.ntmps9
     go_wp2_with (first | ((with_reducible refine gate_callee (f := 16) rfl ?_); refine goesL_ (some 18) rfl rfl Try.func16 (by kernel_rfl) rfl #[.string (a0.extract 0 ((ji3) : Int).toNat)] rfl (by (try simp only [List.map_toArray, List.map_cons, List.map_nil]); first | done | (simp only [hji3]; rfl) | rfl | (simp only [List.length_drop, List.length_take]; rfl)) ?_; (with_reducible refine (find_New.calls k (a0.extract 0 ((ji3) : Int).toNat) t311 t312 t315 t318 _ A6.out).mono ?_); rintro e w28 ⟨v313, v316, rfl, ho0, ho1, hb⟩; refine ⟨_, rfl, ?_⟩; have n0_ := Aside0.mk (Kd.R_lower ho0 (below_size (by repeat (first | (with_reducible first | exact HB.out | apply below_alloc | apply pw_below_drewN | apply below_drew1) | exact HB.out)))); have n1_ := Aside0.mk (Kd.R_lower ho1 (below_size (by repeat (first | (with_reducible first | exact HB.out | apply below_alloc | apply pw_below_drewN | apply below_drew1) | exact HB.out)))); have n2_ := Aside0.mk (below_step (by repeat (first | (with_reducible first | exact HB.out | apply below_alloc | apply pw_below_drewN | apply below_drew1) | exact HB.out)) hb); clear HB; have HO314 := n0_; have HO317 := n1_; have HB := n2_; clear n0_ n1_ n2_; (try clear hb); (try clear hb2); (try clear hk); (try clear hi); (try clear ho0); (try clear ho1)) | ((with_reducible refine gate_dst (N := 5) rfl ?_); refine box_event ?hg (N := 5) ?hd (cs := #[.string (⟨#[]⟩ : ByteArray), .slice none 0 0, .slice none 0 0]) (t := 24) ?hr ?_; (case hd => rfl); (case hg => rfl); (case hr => first | (go_simp; done) | (go_simp; rfl)); intro gb319 hg w29 hbox hb; have n0_ := Aside0.mk (Kd.R_below (by (with_reducible repeat (first | apply Kd.R_alloc | apply Kd.R_drewN | apply Kd.R_drew)); exact HO314.out) hb); have n1_ := Aside0.mk (Kd.R_below (by (with_reducible repeat (first | apply Kd.R_alloc | apply Kd.R_drewN | apply Kd.R_drew)); exact HO317.out) hb); have n2_ := Aside0.mk (below_step (by repeat (first | (with_reducible first | exact HB.out | apply below_alloc | apply pw_below_drewN | apply below_drew1) | exact HB.out)) hb); have n3_ := Aside0.mk (hbox); have n4_ := Aside0.mk ((by rw [hg]; exact (below_size (by repeat (first | (with_reducible first | exact HB.out | apply below_alloc | apply pw_below_drewN | apply below_drew1) | exact HB.out))) : w.heap.size ≤ gb319)); have n5_ := Aside0.mk ((by rw [hg]; exact (below_size (by repeat (first | (with_reducible first | exact HB.out | apply below_alloc | apply pw_below_drewN | apply below_drew1) | exact HB.out))) : w.heap.size ≤ gb319)); clear HO314; clear HO317; clear HB; have HO314 := n0_; have HO317 := n1_; have HB := n2_; have BK319 := n3_; have GW319 := n4_; have GE319 := n5_; clear n0_ n1_ n2_ n3_ n4_ n5_; clear hb hbox hg; have hcz30_0 : w29.cell? ⟨gb319, 0, none⟩ = some (.string (⟨#[]⟩ : ByteArray)) := (blk_cell BK319.out 0).trans rfl; have hcz30_1 : w29.cell? ⟨gb319, 1, none⟩ = some (.slice none 0 0) := (blk_cell BK319.out 1).trans rfl; have hcz30_2 : w29.cell? ⟨gb319, 2, none⟩ = some (.slice none 0 0) := (blk_cell BK319.out 2).trans rfl; have hfz30_0 := blk_frozen BK319.out 0; have hfz30_1 := blk_frozen BK319.out 1; have hfz30_2 := blk_frozen BK319.out 2; obtain ⟨Ao31, co31, eo31⟩ := Kd.R_slice HO314.out; subst eo31; obtain ⟨Ao32, co32, eo32⟩ := Kd.R_slice HO317.out; subst eo32) | ((with_reducible refine gate_callee (f := 35) rfl ?_); refine goesL_ (some 24) rfl rfl Try.func35 (by kernel_rfl) rfl #[.agg #[.string t311, .slice Ao31 t312.length co31, .slice Ao32 t315.length co32], .int .i64 a1] rfl (by (try simp only [List.map_toArray, List.map_cons, List.map_nil]); first | done | rfl | (simp only [List.length_drop, List.length_take]; rfl)) ?_; (with_reducible refine (find_Index_Shortest.calls k t311 _ _ t312 _ _ t315 a1 t320 t321 _ ?side1 ?side2 ?side3 ?side4 A7.out).mono ?_); (case side1 => refine (Kd.R_reads' (e := 3) (base := w.heap.size) (ok := fun k_ => some k_ ≠ (.slice Ao32 t315.length co32 : Value).ownBlock) (n := t312.length) (c := co31) ?_).2.2; exact (by (with_reducible repeat (first | apply Kd.R_alloc | apply Kd.R_drewN | apply Kd.R_drew)); exact (Kd.R_mono (Kd.R_far (p := ⟨gb319, 2, none⟩) (Kd.R_far (p := ⟨gb319, 1, none⟩) (Kd.R_far (p := ⟨gb319, 0, none⟩) (Kd.R_types HO314.out BK319.out (by decide)) (fun _ hk => hk.2) (.string t311)) (fun _ hk => hk.2) (.slice Ao31 t312.length co31)) (fun _ hk => hk.2) (.slice Ao32 t315.length co32)) (fun _ h_ => h_.1)))); (case side2 => exact (Kd.R_reads' HO314.out).2.1); (case side3 => refine (Kd.R_reads' (e := 3) (base := w.heap.size) (ok := fun k_ => some k_ ≠ (.slice Ao31 t312.length co31 : Value).ownBlock) (n := t315.length) (c := co32) ?_).2.2; exact (by (with_reducible repeat (first | apply Kd.R_alloc | apply Kd.R_drewN | apply Kd.R_drew)); exact (Kd.R_mono (Kd.R_far (p := ⟨gb319, 2, none⟩) (Kd.R_far (p := ⟨gb319, 1, none⟩) (Kd.R_far (p := ⟨gb319, 0, none⟩) (Kd.R_types HO317.out BK319.out (by decide)) (fun _ hk => hk.2) (.string t311)) (fun _ hk => hk.2) (.slice Ao31 t312.length co31)) (fun _ hk => hk.2) (.slice Ao32 t315.length co32)) (fun _ h_ => h_.1)))); (case side4 => exact (Kd.R_reads' HO317.out).2.1); rintro e w33 ⟨rfl, hb⟩; refine ⟨_, rfl, ?_⟩; have n0_ := Aside0.mk (Kd.R_below (by (with_reducible repeat (first | apply Kd.R_alloc | apply Kd.R_drewN | apply Kd.R_drew)); exact (Kd.R_mono (Kd.R_far (p := ⟨gb319, 2, none⟩) (Kd.R_far (p := ⟨gb319, 1, none⟩) (Kd.R_far (p := ⟨gb319, 0, none⟩) (Kd.R_types HO314.out BK319.out (by decide)) (fun _ hk => hk.2) (.string t311)) (fun _ hk => hk.2) (.slice Ao31 t312.length co31)) (fun _ hk => hk.2) (.slice Ao32 t315.length co32)) (fun _ h_ => h_.1))) hb); have n1_ := Aside0.mk (Kd.R_below (by (with_reducible repeat (first | apply Kd.R_alloc | apply Kd.R_drewN | apply Kd.R_drew)); exact (Kd.R_mono (Kd.R_far (p := ⟨gb319, 2, none⟩) (Kd.R_far (p := ⟨gb319, 1, none⟩) (Kd.R_far (p := ⟨gb319, 0, none⟩) (Kd.R_types HO317.out BK319.out (by decide)) (fun _ hk => hk.2) (.string t311)) (fun _ hk => hk.2) (.slice Ao31 t312.length co31)) (fun _ hk => hk.2) (.slice Ao32 t315.length co32)) (fun _ h_ => h_.1))) hb); have n2_ := Aside0.mk (blk_below (g := gb319) (o := .cells #[.string t311, .slice Ao31 t312.length co31, .slice Ao32 t315.length co32] 24 (0, 0)) (by (with_reducible repeat (first | refine blk_drewN ?_ _ | refine blk_drew ?_ | refine blk_alloc ?_ _)); refine blk_put (cs := #[.string t311, .slice Ao31 t312.length co31, .slice none 0 0]) ?_ 2 _ rfl; (with_reducible repeat (first | refine blk_drewN ?_ _ | refine blk_drew ?_ | refine blk_alloc ?_ _)); refine blk_put (cs := #[.string t311, .slice none 0 0, .slice none 0 0]) ?_ 1 _ rfl; (with_reducible repeat (first | refine blk_drewN ?_ _ | refine blk_drew ?_ | refine blk_alloc ?_ _)); refine blk_put (cs := #[.string (⟨#[]⟩ : ByteArray), .slice none 0 0, .slice none 0 0]) ?_ 0 _ rfl; (with_reducible repeat (first | refine blk_drewN ?_ _ | refine blk_drew ?_ | refine blk_alloc ?_ _)); exact BK319.out) hb); have n3_ := Aside0.mk (below_step (by repeat (first | (with_reducible first | exact HB.out | apply below_alloc | apply pw_below_drewN | apply below_drew1 | refine below_set ?_ GE319.out) | exact HB.out)) hb); clear HO314; clear HO317; clear BK319; clear HB; have HO314 := n0_; have HO317 := n1_; have BK319 := n2_; have HB := n3_; clear n0_ n1_ n2_ n3_; (try clear hb); (try clear hb2); (try clear hk); (try clear hi)) | ((with_reducible refine gate_callee (f := 36) rfl ?_); refine goesL_ (some 30) rfl rfl Try.func36 (by kernel_rfl) rfl #[.string (a0.extract 0 ((ji3) : Int).toNat), .int .i64 a1] rfl (by (try simp only [List.map_toArray, List.map_cons, List.map_nil]); first | done | (simp only [hji3]; rfl) | rfl | (simp only [List.length_drop, List.length_take]; rfl)) ?_; (with_reducible refine (silversideref07_Shortest.calls k (a0.extract 0 ((ji3) : Int).toNat) a1 t322 t323 _ A8.out).mono ?_); rintro e w34 ⟨rfl, hb⟩; refine ⟨_, rfl, ?_⟩; have n0_ := Aside0.mk (Kd.R_below (by (with_reducible repeat (first | apply Kd.R_alloc | apply Kd.R_drewN | apply Kd.R_drew)); exact HO314.out) hb); have n1_ := Aside0.mk (Kd.R_below (by (with_reducible repeat (first | apply Kd.R_alloc | apply Kd.R_drewN | apply Kd.R_drew)); exact HO317.out) hb); have n2_ := Aside0.mk (blk_below (g := gb319) (o := .cells #[.string t311, .slice Ao31 t312.length co31, .slice Ao32 t315.length co32] 24 (0, 0)) (by (with_reducible repeat (first | refine blk_drewN ?_ _ | refine blk_drew ?_ | refine blk_alloc ?_ _)); exact BK319.out) hb); have n3_ := Aside0.mk (below_step (by repeat (first | (with_reducible first | exact HB.out | apply below_alloc | apply pw_below_drewN | apply below_drew1 | refine below_set ?_ GE319.out) | exact HB.out)) hb); clear HO314; clear HO317; clear BK319; clear HB; have HO314 := n0_; have HO317 := n1_; have BK319 := n2_; have HB := n3_; clear n0_ n1_ n2_ n3_; (try clear hb); (try clear hb2); (try clear hk); (try clear hi)))
     go_ret
     exact ⟨by first | rfl | (simp [errW_none, errW_some] <;> rfl) | (simp only [← hji3]; first | rfl | (simp [errW_none, errW_some] <;> rfl)) | (simp [*, errW_none, errW_some] <;> rfl), by repeat (first | (with_reducible first | exact HB.out | apply below_alloc | apply pw_below_drewN | apply below_drew1 | refine below_set ?_ GE319.out) | exact HB.out)⟩
   ·rw [if_neg c9] at H
    have c9b0 : (t318 == 0) = false := beq_eq_false_iff_ne.mpr c9
    have c9b1 : (t318 != 0) = true := bne_iff_ne.mpr c9
    obtain rfl := Option.some.inj H
    go_enter Try.func9, Try.ntmps9
    go_wp2_with (first | ((with_reducible refine gate_callee (f := 16) rfl ?_); refine goesL_ (some 18) rfl rfl Try.func16 (by kernel_rfl) rfl #[.string (a0.extract 0 ((ji3) : Int).toNat)] rfl (by (try simp only [List.map_toArray, List.map_cons, List.map_nil]); first | done | (simp only [hji3]; rfl) | rfl | (simp only [List.length_drop, List.length_take]; rfl)) ?_; (with_reducible refine (find_New.calls k (a0.extract 0 ((ji3) : Int).toNat) t311 t312 t315 t318 _ A6.out).mono ?_); rintro e w35 ⟨v313, v316, rfl, ho0, ho1, hb⟩; refine ⟨_, rfl, ?_⟩; have n0_ := Aside0.mk (Kd.R_lower ho0 (below_size (by repeat (first | (with_reducible first | exact HB.out | apply below_alloc | apply pw_below_drewN | apply below_drew1) | exact HB.out)))); have n1_ := Aside0.mk (Kd.R_lower ho1 (below_size (by repeat (first | (with_reducible first | exact HB.out | apply below_alloc | apply pw_below_drewN | apply below_drew1) | exact HB.out)))); have n2_ := Aside0.mk (below_step (by repeat (first | (with_reducible first | exact HB.out | apply below_alloc | apply pw_below_drewN | apply below_drew1) | exact HB.out)) hb); clear HB; have HO314 := n0_; have HO317 := n1_; have HB := n2_; clear n0_ n1_ n2_; (try clear hb); (try clear hb2); (try clear hk); (try clear hi); (try clear ho0); (try clear ho1)) | ((with_reducible refine gate_dst (N := 5) rfl ?_); refine box_event ?hg (N := 5) ?hd (cs := #[.string (⟨#[]⟩ : ByteArray), .slice none 0 0, .slice none 0 0]) (t := 24) ?hr ?_; (case hd => rfl); (case hg => rfl); (case hr => first | (go_simp; done) | (go_simp; rfl)); intro gb319 hg w36 hbox hb; have n0_ := Aside0.mk (Kd.R_below (by (with_reducible repeat (first | apply Kd.R_alloc | apply Kd.R_drewN | apply Kd.R_drew)); exact HO314.out) hb); have n1_ := Aside0.mk (Kd.R_below (by (with_reducible repeat (first | apply Kd.R_alloc | apply Kd.R_drewN | apply Kd.R_drew)); exact HO317.out) hb); have n2_ := Aside0.mk (below_step (by repeat (first | (with_reducible first | exact HB.out | apply below_alloc | apply pw_below_drewN | apply below_drew1) | exact HB.out)) hb); have n3_ := Aside0.mk (hbox); have n4_ := Aside0.mk ((by rw [hg]; exact (below_size (by repeat (first | (with_reducible first | exact HB.out | apply below_alloc | apply pw_below_drewN | apply below_drew1) | exact HB.out))) : w.heap.size ≤ gb319)); have n5_ := Aside0.mk ((by rw [hg]; exact (below_size (by repeat (first | (with_reducible first | exact HB.out | apply below_alloc | apply pw_below_drewN | apply below_drew1) | exact HB.out))) : w.heap.size ≤ gb319)); clear HO314; clear HO317; clear HB; have HO314 := n0_; have HO317 := n1_; have HB := n2_; have BK319 := n3_; have GW319 := n4_; have GE319 := n5_; clear n0_ n1_ n2_ n3_ n4_ n5_; clear hb hbox hg; have hcz37_0 : w36.cell? ⟨gb319, 0, none⟩ = some (.string (⟨#[]⟩ : ByteArray)) := (blk_cell BK319.out 0).trans rfl; have hcz37_1 : w36.cell? ⟨gb319, 1, none⟩ = some (.slice none 0 0) := (blk_cell BK319.out 1).trans rfl; have hcz37_2 : w36.cell? ⟨gb319, 2, none⟩ = some (.slice none 0 0) := (blk_cell BK319.out 2).trans rfl; have hfz37_0 := blk_frozen BK319.out 0; have hfz37_1 := blk_frozen BK319.out 1; have hfz37_2 := blk_frozen BK319.out 2; obtain ⟨Ao38, co38, eo38⟩ := Kd.R_slice HO314.out; subst eo38; obtain ⟨Ao39, co39, eo39⟩ := Kd.R_slice HO317.out; subst eo39) | ((with_reducible refine gate_callee (f := 35) rfl ?_); refine goesL_ (some 24) rfl rfl Try.func35 (by kernel_rfl) rfl #[.agg #[.string t311, .slice Ao38 t312.length co38, .slice Ao39 t315.length co39], .int .i64 a1] rfl (by (try simp only [List.map_toArray, List.map_cons, List.map_nil]); first | done | rfl | (simp only [List.length_drop, List.length_take]; rfl)) ?_; (with_reducible refine (find_Index_Shortest.calls k t311 _ _ t312 _ _ t315 a1 t320 t321 _ ?side1 ?side2 ?side3 ?side4 A7.out).mono ?_); (case side1 => refine (Kd.R_reads' (e := 3) (base := w.heap.size) (ok := fun k_ => some k_ ≠ (.slice Ao39 t315.length co39 : Value).ownBlock) (n := t312.length) (c := co38) ?_).2.2; exact (by (with_reducible repeat (first | apply Kd.R_alloc | apply Kd.R_drewN | apply Kd.R_drew)); exact (Kd.R_mono (Kd.R_far (p := ⟨gb319, 2, none⟩) (Kd.R_far (p := ⟨gb319, 1, none⟩) (Kd.R_far (p := ⟨gb319, 0, none⟩) (Kd.R_types HO314.out BK319.out (by decide)) (fun _ hk => hk.2) (.string t311)) (fun _ hk => hk.2) (.slice Ao38 t312.length co38)) (fun _ hk => hk.2) (.slice Ao39 t315.length co39)) (fun _ h_ => h_.1)))); (case side2 => exact (Kd.R_reads' HO314.out).2.1); (case side3 => refine (Kd.R_reads' (e := 3) (base := w.heap.size) (ok := fun k_ => some k_ ≠ (.slice Ao38 t312.length co38 : Value).ownBlock) (n := t315.length) (c := co39) ?_).2.2; exact (by (with_reducible repeat (first | apply Kd.R_alloc | apply Kd.R_drewN | apply Kd.R_drew)); exact (Kd.R_mono (Kd.R_far (p := ⟨gb319, 2, none⟩) (Kd.R_far (p := ⟨gb319, 1, none⟩) (Kd.R_far (p := ⟨gb319, 0, none⟩) (Kd.R_types HO317.out BK319.out (by decide)) (fun _ hk => hk.2) (.string t311)) (fun _ hk => hk.2) (.slice Ao38 t312.length co38)) (fun _ hk => hk.2) (.slice Ao39 t315.length co39)) (fun _ h_ => h_.1)))); (case side4 => exact (Kd.R_reads' HO317.out).2.1); rintro e w40 ⟨rfl, hb⟩; refine ⟨_, rfl, ?_⟩; have n0_ := Aside0.mk (Kd.R_below (by (with_reducible repeat (first | apply Kd.R_alloc | apply Kd.R_drewN | apply Kd.R_drew)); exact (Kd.R_mono (Kd.R_far (p := ⟨gb319, 2, none⟩) (Kd.R_far (p := ⟨gb319, 1, none⟩) (Kd.R_far (p := ⟨gb319, 0, none⟩) (Kd.R_types HO314.out BK319.out (by decide)) (fun _ hk => hk.2) (.string t311)) (fun _ hk => hk.2) (.slice Ao38 t312.length co38)) (fun _ hk => hk.2) (.slice Ao39 t315.length co39)) (fun _ h_ => h_.1))) hb); have n1_ := Aside0.mk (Kd.R_below (by (with_reducible repeat (first | apply Kd.R_alloc | apply Kd.R_drewN | apply Kd.R_drew)); exact (Kd.R_mono (Kd.R_far (p := ⟨gb319, 2, none⟩) (Kd.R_far (p := ⟨gb319, 1, none⟩) (Kd.R_far (p := ⟨gb319, 0, none⟩) (Kd.R_types HO317.out BK319.out (by decide)) (fun _ hk => hk.2) (.string t311)) (fun _ hk => hk.2) (.slice Ao38 t312.length co38)) (fun _ hk => hk.2) (.slice Ao39 t315.length co39)) (fun _ h_ => h_.1))) hb); have n2_ := Aside0.mk (blk_below (g := gb319) (o := .cells #[.string t311, .slice Ao38 t312.length co38, .slice Ao39 t315.length co39] 24 (0, 0)) (by (with_reducible repeat (first | refine blk_drewN ?_ _ | refine blk_drew ?_ | refine blk_alloc ?_ _)); refine blk_put (cs := #[.string t311, .slice Ao38 t312.length co38, .slice none 0 0]) ?_ 2 _ rfl; (with_reducible repeat (first | refine blk_drewN ?_ _ | refine blk_drew ?_ | refine blk_alloc ?_ _)); refine blk_put (cs := #[.string t311, .slice none 0 0, .slice none 0 0]) ?_ 1 _ rfl; (with_reducible repeat (first | refine blk_drewN ?_ _ | refine blk_drew ?_ | refine blk_alloc ?_ _)); refine blk_put (cs := #[.string (⟨#[]⟩ : ByteArray), .slice none 0 0, .slice none 0 0]) ?_ 0 _ rfl; (with_reducible repeat (first | refine blk_drewN ?_ _ | refine blk_drew ?_ | refine blk_alloc ?_ _)); exact BK319.out) hb); have n3_ := Aside0.mk (below_step (by repeat (first | (with_reducible first | exact HB.out | apply below_alloc | apply pw_below_drewN | apply below_drew1 | refine below_set ?_ GE319.out) | exact HB.out)) hb); clear HO314; clear HO317; clear BK319; clear HB; have HO314 := n0_; have HO317 := n1_; have BK319 := n2_; have HB := n3_; clear n0_ n1_ n2_ n3_; (try clear hb); (try clear hb2); (try clear hk); (try clear hi)) | ((with_reducible refine gate_callee (f := 36) rfl ?_); refine goesL_ (some 30) rfl rfl Try.func36 (by kernel_rfl) rfl #[.string (a0.extract 0 ((ji3) : Int).toNat), .int .i64 a1] rfl (by (try simp only [List.map_toArray, List.map_cons, List.map_nil]); first | done | (simp only [hji3]; rfl) | rfl | (simp only [List.length_drop, List.length_take]; rfl)) ?_; (with_reducible refine (silversideref07_Shortest.calls k (a0.extract 0 ((ji3) : Int).toNat) a1 t322 t323 _ A8.out).mono ?_); rintro e w41 ⟨rfl, hb⟩; refine ⟨_, rfl, ?_⟩; have n0_ := Aside0.mk (Kd.R_below (by (with_reducible repeat (first | apply Kd.R_alloc | apply Kd.R_drewN | apply Kd.R_drew)); exact HO314.out) hb); have n1_ := Aside0.mk (Kd.R_below (by (with_reducible repeat (first | apply Kd.R_alloc | apply Kd.R_drewN | apply Kd.R_drew)); exact HO317.out) hb); have n2_ := Aside0.mk (blk_below (g := gb319) (o := .cells #[.string t311, .slice Ao38 t312.length co38, .slice Ao39 t315.length co39] 24 (0, 0)) (by (with_reducible repeat (first | refine blk_drewN ?_ _ | refine blk_drew ?_ | refine blk_alloc ?_ _)); exact BK319.out) hb); have n3_ := Aside0.mk (below_step (by repeat (first | (with_reducible first | exact HB.out | apply below_alloc | apply pw_below_drewN | apply below_drew1 | refine below_set ?_ GE319.out) | exact HB.out)) hb); clear HO314; clear HO317; clear BK319; clear HB; have HO314 := n0_; have HO317 := n1_; have BK319 := n2_; have HB := n3_; clear n0_ n1_ n2_ n3_; (try clear hb); (try clear hb2); (try clear hk); (try clear hi)))
    go_ret
    exact ⟨by first | rfl | (simp [errW_none, errW_some] <;> rfl) | (simp only [← hji3]; first | rfl | (simp [errW_none, errW_some] <;> rfl)) | (simp [*, errW_none, errW_some] <;> rfl), by repeat (first | (with_reducible first | exact HB.out | apply below_alloc | apply pw_below_drewN | apply below_drew1 | refine below_set ?_ GE319.out) | exact HB.out)⟩
  ·rw [if_neg c5] at H
   exact absurd H (by simp)
 ·rw [if_neg c4] at H
  exact absurd H (by simp)

/-- THE ONE PURE STATEMENT of silversidelaw07_FindShortest: yours. -/
def silversidelaw07_FindShortest.Pure : Prop := ∀ (a0 : ByteArray) (a1 : Int), a0.size ≤ 140737488351232 → (Lit.int .i64 a1).wf = true → ∃ k, silversidelaw07_FindShortest.f k a0 a1 = some true
theorem silversidelaw07_FindShortest.walk (P : silversidelaw07_FindShortest.Pure) (a0 : ByteArray) (a1 : Int) (w : World) (w0 : a0.size ≤ 140737488351232) (w1 : (Lit.int .i64 a1).wf = true) :
  Calls Try.prog 9 #[.string a0, .int .i64 a1] w fun e w' => e = .returned (.bool true) ∧ Below w.heap.size w w' := by
 obtain ⟨k, h⟩ := P a0 a1 w0 w1
 refine (silversidelaw07_FindShortest.calls k a0 a1 true w h).mono ?_
 rintro e w' ⟨rfl, hd⟩
 exact ⟨rfl, hd⟩

end Go.Proofs.Ytppelnlocfcgfaa.P
namespace Go.Proofs.Ytppelnlocfcgfaa.P
open Go.RowKit Go.Proofs.YtppelnlocfcgfaaW.PrintWords Go.Proofs.YtppelnlocfcgfaaW.PrintLast Go.Proofs.YtppelnlocfcgfaaW.PrintMore
open Go.Proofs.Fnd
set_option linter.unusedVariables false
set_option linter.unusedSimpArgs false
theorem lcp_left {s : List UInt8} {x y z l m : Nat} (hx : LtW (s.length + 1) (sq s x) (sq s y)) (hz : LtW (s.length + 1) (sq s y) (sq s z)) (h : IsLcp s x z l) (h' : IsLcp s x y m) : l ≤ m := by
  apply Decidable.byContradiction
  intro q
  have e1 := h.same m (by omega)
  have d1 := h'.diff
  obtain ⟨a, _, a2, a3⟩ := hx
  have ha : a = m := by
    rcases Nat.lt_trichotomy a m with c | c | c
    · have := h'.same a c; omega
    · exact c
    · exact absurd (a2 m c) d1
  subst ha
  obtain ⟨b, _, b2, b3⟩ := hz
  rcases Nat.lt_trichotomy b a with c | c | c
  · have e2 := h.same b (by omega)
    have e3 := h'.same b c
    omega
  · subst c; omega
  · have := b2 a c; omega
theorem lcp_up (s : List UInt8) {a c : Nat} (h : a < c) (hc : c < s.length) : lcp s ((sufOrd s).getD a 0) ((sufOrd s).getD c 0) ≤ (overL s).getD c 0 := by
  rw [overL_at s c hc, if_neg (by omega)]
  by_cases e : a = c - 1
  · subst e; exact Nat.le_refl _
  · have la := ord_lt s a (by omega)
    have lb := ord_lt s (c - 1) (by omega)
    have lc := ord_lt s c hc
    have ne1 : (sufOrd s).getD a 0 ≠ (sufOrd s).getD c 0 := fun q => by have := ord_inj s (by omega) hc q; omega
    have ne2 : (sufOrd s).getD (c - 1) 0 ≠ (sufOrd s).getD c 0 := fun q => by have := ord_inj s (by omega) hc q; omega
    exact lcp_between (fun q => (ord_up s (a := a) (b := c - 1) (by omega) (by omega)).asymm q) (ord_up s (by omega) hc) (lcp_is s _ _ (by omega) (by omega) ne1) (lcp_is s _ _ (by omega) (by omega) ne2)
theorem lcp_dn (s : List UInt8) {a c : Nat} (h : a < c) (hc : c < s.length) : lcp s ((sufOrd s).getD a 0) ((sufOrd s).getD c 0) ≤ (overL s).getD (a + 1) 0 := by
  rw [overL_at s (a + 1) (by omega), if_neg (by omega), Nat.add_sub_cancel]
  by_cases e : c = a + 1
  · subst e; exact Nat.le_refl _
  · have la := ord_lt s a (by omega)
    have lb := ord_lt s (a + 1) (by omega)
    have lc := ord_lt s c hc
    have ne1 : (sufOrd s).getD a 0 ≠ (sufOrd s).getD c 0 := fun q => by have := ord_inj s (by omega) hc q; omega
    have ne2 : (sufOrd s).getD a 0 ≠ (sufOrd s).getD (a + 1) 0 := fun q => by have := ord_inj s (by omega) (by omega) q; omega
    exact lcp_left (ord_up s (by omega) (by omega)) (ord_up s (by omega) hc) (lcp_is s _ _ (by omega) (by omega) ne1) (lcp_is s _ _ (by omega) (by omega) ne2)
/-- the longest that a place shares with another -/
def mxO (s : List UInt8) (i : Nat) : Nat := max ((overL s).getD (rank s i) 0) ((overL s).getD (rank s i + 1) 0)
theorem overL_len (s : List UInt8) : (overL s).length = s.length := by rw [overL, List.length_map, List.length_range]
theorem mxO_most (s : List UInt8) {i j : Nat} (hi : i < s.length) (hj : j < s.length) (h : i ≠ j) : lcp s i j ≤ mxO s i := by
  have ri := rank_lt s i hi
  have rj := rank_lt s j hj
  have ei := ord_rank s i hi
  have ej := ord_rank s j hj
  unfold mxO
  rcases Nat.lt_trichotomy (rank s i) (rank s j) with c | c | c
  · have := lcp_dn s c rj
    rw [ei, ej] at this
    omega
  · rw [c, ej] at ei; exact absurd ei.symm h
  · have := lcp_up s c ri
    rw [ei, ej, lcp_symm s j i (by omega) (by omega) (fun e => h e.symm)] at this
    omega
theorem mxO_some (s : List UInt8) {i : Nat} (hi : i < s.length) : mxO s i = 0 ∨ ∃ j, j < s.length ∧ j ≠ i ∧ lcp s i j = mxO s i := by
  have ri := rank_lt s i hi
  have ei := ord_rank s i hi
  by_cases h0 : mxO s i = 0
  · exact .inl h0
  · refine .inr ?_
    unfold mxO at h0 ⊢
    by_cases h1 : (overL s).getD (rank s i + 1) 0 ≤ (overL s).getD (rank s i) 0
    · have hr : rank s i ≠ 0 := fun e => by
        rw [e] at h1 h0
        rw [overL_at s 0 (by omega), if_pos rfl] at h1 h0
        omega
      refine ⟨(sufOrd s).getD (rank s i - 1) 0, ord_lt s _ (by omega), fun e => ?_, ?_⟩
      · have := ord_inj s (a := rank s i - 1) (b := rank s i) (by omega) ri (by rw [e, ei]); omega
      · have h2 := overL_at s (rank s i) ri
        rw [if_neg hr, ei] at h2
        rw [lcp_symm s i _ (by omega) (by have := ord_lt s (rank s i - 1) (by omega); omega) (fun e => by have := ord_inj s (a := rank s i - 1) (b := rank s i) (by omega) ri (by rw [← e, ei]); omega), ← h2]
        omega
    · have hr : rank s i + 1 < s.length := by
        apply Decidable.byContradiction
        intro q
        have : (overL s).getD (rank s i + 1) 0 = 0 := by rw [List.getD_eq_getElem?_getD, List.getElem?_eq_none (by rw [overL_len]; omega)]; rfl
        omega
      refine ⟨(sufOrd s).getD (rank s i + 1) 0, ord_lt s _ (by omega), fun e => ?_, ?_⟩
      · have := ord_inj s (a := rank s i + 1) (b := rank s i) (by omega) ri (by rw [e, ei]); omega
      · have h2 := overL_at s (rank s i + 1) hr
        rw [if_neg (by omega), Nat.add_sub_cancel, ei] at h2
        rw [← h2]
        omega
theorem mxO_in (s : List UInt8) {i : Nat} (hi : i < s.length) : i + mxO s i ≤ s.length := by
  rcases mxO_some s hi with h | ⟨j, hj, hne, h⟩
  · omega
  · have := (lcp_is s i j (by omega) (by omega) (fun e => hne e.symm)).inside (by omega) (by omega) (fun e => hne e.symm)
    omega
/-- what Shortest answers -/
def shortA (t : ByteArray) (a : Int) : Int × Int :=
  if a < 0 ∨ (t.size : Int) ≤ a then (0, 2) else if t.size ≤ a.toNat + mxO t.data.toList a.toNat then (0, 6) else ((mxO t.data.toList a.toNat : Int) + 1, 0)
theorem mx_nat (a b : Nat) : mx (a : Int) (b : Int) = ((max a b : Nat) : Int) := by unfold mx; split <;> omega
theorem index_l0 (t : ByteArray) (ht : t.size ≤ 4096) (i : Nat) (hi : i < t.size) : ∀ (d k : Nat), k + d = rank t.data.toList i → Ev (fun K => slices_Index_int_int.l0 K (ordI t) (i : Int) (t.size : Int) (k : Int)) (rank t.data.toList i : Int) := by
  have hl := data_length t
  have h4 := ordI_length t
  have hr := rank_lt t.data.toList i (by omega)
  intro d
  induction d with
  | zero =>
    intro k hk
    have hv := rd_ordI t k (by omega)
    refine Ev.step (f := fun _ => some (rank t.data.toList i : Int)) (fun K => ?_) (Ev.now _)
    conv => lhs; unfold slices_Index_int_int.l0
    rw [if_pos (by omega), if_pos (by omega), if_pos (by omega), hv, if_pos]
    · congr 1; omega
    · rw [show k = rank t.data.toList i by omega, ord_rank _ _ (by omega)]
  | succ d ih =>
    intro k hk
    have hv := rd_ordI t k (by omega)
    refine Ev.step (fun K => ?_) (ih (k + 1) (by omega))
    conv => lhs; unfold slices_Index_int_int.l0
    rw [if_pos (by omega), if_pos (by omega), if_pos (by omega), hv, if_neg, w64 (by omega) (by omega)]
    · rfl
    · intro e
      have := rank_ord t.data.toList k (by omega)
      rw [show (sufOrd t.data.toList).getD k 0 = i by omega] at this
      omega
theorem index_ev (t : ByteArray) (ht : t.size ≤ 4096) (i : Nat) (hi : i < t.size) : Ev (fun K => slices_Index_int_int.f K (ordI t) (i : Int)) (rank t.data.toList i : Int) := by
  refine Ev.congr (fun K => ?_) (index_l0 t ht i hi (rank t.data.toList i) 0 (by omega))
  unfold slices_Index_int_int.f
  rw [ordI_length]; rfl
theorem shortest_in (t : ByteArray) (ht : t.size ≤ 4096) (i : Nat) (hi : i < t.size) : Ev (fun K => find_Index_Shortest.j0 K (i : Int) false t (ordI t) (overI t)) (if t.size ≤ i + mxO t.data.toList i then ((0, 6) : Int × Int) else ((mxO t.data.toList i : Int) + 1, 0)) := by
  have hl := data_length t
  have h4 := ordI_length t
  have h5 := overI_length t
  have hr := rank_lt t.data.toList i (by omega)
  have hin := mxO_in t.data.toList (i := i) (by omega)
  have hv := rd_overI t (rank t.data.toList i) (by omega)
  refine Ev.step (fun K => by rw [find_Index_Shortest.j0, if_neg (by simp)]) ?_
  refine Ev.bind (index_ev t ht i hi) ?_
  rw [if_pos (by omega), if_pos (by omega), w64 (x := (rank t.data.toList i : Int) + 1) (by omega) (by omega)]
  have e2 : ((rank t.data.toList i : Nat) : Int) + 1 = ((rank t.data.toList i + 1 : Nat) : Int) := by omega
  by_cases h1 : rank t.data.toList i + 1 < t.size
  · have hv2 := rd_overI t (rank t.data.toList i + 1) h1
    rw [e2, if_pos (by omega), if_pos (by omega), if_pos (by omega), hv, hv2, mx_nat]
    unfold mxO at hin ⊢
    rw [w64 (x := (i : Int) + _) (by omega) (by omega), w64 (by omega) (by omega)]
    by_cases h : t.size ≤ i + max ((overL t.data.toList).getD (rank t.data.toList i) 0) ((overL t.data.toList).getD (rank t.data.toList i + 1) 0)
    · rw [if_pos h, if_pos (by omega)]; exact Ev.now _
    · rw [if_neg h, if_neg (by omega)]; exact Ev.now _
  · have hz : (overL t.data.toList).getD (rank t.data.toList i + 1) 0 = 0 := by rw [List.getD_eq_getElem?_getD, List.getElem?_eq_none (by rw [overL_len]; omega)]; rfl
    rw [e2, if_neg (by omega), hv]
    unfold mxO at hin ⊢
    rw [hz, Nat.max_zero] at hin ⊢
    rw [w64 (x := (i : Int) + _) (by omega) (by omega), w64 (by omega) (by omega)]
    by_cases h : t.size ≤ i + (overL t.data.toList).getD (rank t.data.toList i) 0
    · rw [if_pos h, if_pos (by omega)]; exact Ev.now _
    · rw [if_neg h, if_neg (by omega)]; exact Ev.now _
theorem shortest_ev (t : ByteArray) (ht : t.size ≤ 4096) (a : Int) : Ev (fun K => find_Index_Shortest.f K t (ordI t) (overI t) a) (shortA t a) := by
  unfold find_Index_Shortest.f shortA
  by_cases h1 : a < 0
  · rw [if_pos (.inl h1)]
    refine ev_pos h1 ?_
    refine Ev.step (f := fun _ => some _) (fun K => ?_) (Ev.now _)
    rw [find_Index_Shortest.j0, if_pos rfl]
  · refine ev_neg h1 ?_
    by_cases h2 : (t.size : Int) ≤ a
    · rw [if_pos (.inr h2), decide_eq_true h2]
      refine Ev.step (f := fun _ => some _) (fun K => ?_) (Ev.now _)
      rw [find_Index_Shortest.j0, if_pos rfl]
    · rw [if_neg (by omega), decide_eq_false h2]
      obtain ⟨i, rfl⟩ : ∃ i : Nat, a = (i : Int) := ⟨a.toNat, by omega⟩
      rw [Int.toNat_natCast]
      exact shortest_in t ht i (by omega)
/-- the most that a place shares with the first places -/
structure Most (t : ByteArray) (i k m : Nat) : Prop where
  le : ∀ j, j < k → j ≠ i → lcp t.data.toList i j ≤ m
  is : m = 0 ∨ ∃ j, j < k ∧ j ≠ i ∧ lcp t.data.toList i j = m
theorem Most.all {t : ByteArray} {i m : Nat} (hi : i < t.size) (h : Most t i t.size m) : m = mxO t.data.toList i := by
  have hl := data_length t
  have h1 : m ≤ mxO t.data.toList i := by
    rcases h.is with h | ⟨j, hj, hne, h⟩
    · omega
    · rw [← h]; exact mxO_most _ (by omega) (by omega) (fun e => hne e.symm)
  have h2 : mxO t.data.toList i ≤ m := by
    rcases mxO_some t.data.toList (i := i) (by omega) with h3 | ⟨j, hj, hne, h3⟩
    · omega
    · rw [← h3]; exact h.le j (by omega) hne
  omega
theorem cpl_at (t : ByteArray) {i j : Nat} (hi : i < t.size) (hj : j < t.size) (h : i ≠ j) : cpl (t.data.toList.drop i) (t.data.toList.drop j) = lcp t.data.toList i j := by
  have hl := data_length t
  exact cpl_lcp (lcp_is t.data.toList i j (by omega) (by omega) h)
theorem refshort_l0 (t : ByteArray) (ht : t.size ≤ 4096) (i : Nat) (hi : i < t.size) : ∀ (d k m : Nat), k + d = t.size → Most t i k m → Ev (fun K => silversideref07_Shortest.l0 K t (i : Int) (m : Int) (k : Int)) (if t.size ≤ i + mxO t.data.toList i then ((0, 6) : Int × Int) else ((mxO t.data.toList i : Int) + 1, 0)) := by
  have hl := data_length t
  have hin := mxO_in t.data.toList (i := i) (by omega)
  intro d
  induction d with
  | zero =>
    intro k m hk hm
    obtain rfl : k = t.size := by omega
    have e := hm.all hi
    subst e
    refine Ev.step (f := fun _ => some _) (fun K => ?_) (Ev.now _)
    conv => lhs; unfold silversideref07_Shortest.l0
    rw [if_neg (by omega), w64 (x := (i : Int) + _) (by omega) (by omega), w64 (by omega) (by omega)]
    by_cases h : t.size ≤ i + mxO t.data.toList i
    · rw [if_pos h, if_pos (by omega)]
    · rw [if_neg h, if_neg (by omega)]
  | succ d ih =>
    intro k m hk hm
    by_cases e : k = i
    · subst e
      have h := ih (k + 1) m (by omega) ⟨fun j hj hne => hm.le j (by omega) hne, by
        rcases hm.is with h | ⟨j, hj, hne, h⟩
        · exact .inl h
        · exact .inr ⟨j, by omega, hne, h⟩⟩
      refine Ev.step (fun K => ?_) h
      conv => lhs; unfold silversideref07_Shortest.l0
      rw [if_pos (by omega), if_pos rfl, w64 (by omega) (by omega)]
      rfl
    · have hc := common_ev t t (by omega) (by omega) i k (by omega) (by omega)
      rw [cpl_at t hi (by omega) (fun q => e q.symm)] at hc
      have h := ih (k + 1) (max m (lcp t.data.toList i k)) (by omega) ⟨fun j hj hne => by
        by_cases e2 : j = k
        · subst e2; omega
        · have := hm.le j (by omega) hne; omega, by
        by_cases e2 : m ≤ lcp t.data.toList i k
        · exact .inr ⟨k, by omega, e, by omega⟩
        · rcases hm.is with h | ⟨j, hj, hne, h⟩
          · omega
          · exact .inr ⟨j, by omega, hne, by omega⟩⟩
      rw [← mx_nat] at h
      refine Ev.step (fun K => ?_) (Ev.bind hc h (f := fun K x => silversideref07_Shortest.l0 K t (i : Int) (mx (m : Int) x) ((k + 1 : Nat) : Int)))
      conv => lhs; unfold silversideref07_Shortest.l0
      rw [if_pos (by omega), if_neg (by omega), w64 (by omega) (by omega)]
      rfl
theorem refshort_ev (t : ByteArray) (ht : t.size ≤ 4096) (a : Int) : Ev (fun K => silversideref07_Shortest.f K t a) (shortA t a) := by
  unfold silversideref07_Shortest.f shortA
  by_cases h1 : a < 0
  · rw [if_pos (.inl h1)]
    refine ev_pos h1 ?_
    refine Ev.step (f := fun _ => some _) (fun K => ?_) (Ev.now _)
    rw [silversideref07_Shortest.j0, if_pos rfl]
  · refine ev_neg h1 ?_
    by_cases h2 : (t.size : Int) ≤ a
    · rw [if_pos (.inr h2), decide_eq_true h2]
      refine Ev.step (f := fun _ => some _) (fun K => ?_) (Ev.now _)
      rw [silversideref07_Shortest.j0, if_pos rfl]
    · rw [if_neg (by omega), decide_eq_false h2]
      obtain ⟨i, rfl⟩ : ∃ i : Nat, a = (i : Int) := ⟨a.toNat, by omega⟩
      rw [Int.toNat_natCast]
      refine Ev.step (fun K => ?_) (refshort_l0 t ht i (by omega) t.size 0 0 (by omega) ⟨fun j hj => by omega, .inl rfl⟩)
      rw [silversideref07_Shortest.j0, if_neg (by simp)]
      rfl
end Go.Proofs.Ytppelnlocfcgfaa.P
namespace Go.Proofs.Ytppelnlocfcgfaa.Pure
open Go.RowKit Go.Proofs.Ytppelnlocfcgfaa.P Go.Proofs.YtppelnlocfcgfaaW.PrintWords Go.Proofs.YtppelnlocfcgfaaW.PrintLast
open Go.Proofs.Fnd
theorem FindShortest : silversidelaw07_FindShortest.Pure := by
  intro a0 a1 _ _
  refine Ev.rounds ?_
  unfold silversidelaw07_FindShortest.f
  have hm := mn_nat a0.size 300
  rw [show ((300 : Nat) : Int) = 300 from rfl] at hm
  rw [hm]
  refine ev_pos (by omega) (ev_pos (by omega) ?_)
  rw [Int.toNat_natCast]
  have ht : (a0.extract 0 (min a0.size 300)).size ≤ 4096 := by rw [ByteArray.size_extract]; omega
  generalize a0.extract 0 (min a0.size 300) = t at *
  exact Ev.bind (find_New_ev t ht) (Ev.bind (shortest_ev t ht a1) (Ev.bind (refshort_ev t ht a1) (ev_pos (by trivial) (ev_pos (by trivial) (ev_pos (by trivial) (Ev.bind awake_ev (Ev.now _)))))))
end Go.Proofs.Ytppelnlocfcgfaa.Pure
