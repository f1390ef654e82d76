/- Proved here: what functions that the law reaches compute, and plain laws of that. No conditions but those that the theorems state. -/
import Derived.Test.YtppelnlocfcgfaaB1
import Derived.DataReads
import Derived.Test.YtppelnlocfcgfaaB2
import Derived.Test.YtppelnlocfcgfaaB3
set_option linter.unusedVariables false
set_option linter.unusedSimpArgs false
namespace Go.Proofs.Ytppelnlocfcgfaa.P
open Go.RowKit Go.Proofs.YtppelnlocfcgfaaW.PrintWords Go.Proofs.YtppelnlocfcgfaaW.PrintLast Go.Proofs.YtppelnlocfcgfaaW.PrintMore
attribute [local go_sem] max2_int min2_int max_two min_two max_three min_three max_four min_four   -- for this text's walks alone
set_option linter.unusedVariables false
set_option linter.unusedSimpArgs false

/-! ### slices_Index_int_int: function 51 -/
def slices_Index_int_int.l0 : Nat → List Int → Int → Int → Int → Option (Int)
 | 0, _, _, _, _ => none
 | k + 1, x0, x1, x7, x8 => if x8 < x7 then (if 0 ≤ x8 then (if x8 < (x0.length : Int) then (if x1 = (rd x0 x8) then (some x8) else (slices_Index_int_int.l0 k x0 x1 x7 (wrap64 (x8 + 1)))) else (none)) else (none)) else (some (-1))
def slices_Index_int_int.f (k : Nat) (l0 : List Int) (a1 : Int) : Option (Int) := slices_Index_int_int.l0 k l0 a1 (l0.length : Int) 0
theorem slices_Index_int_int.mono_l : ∀ k, (∀ y0 y1 y2 y3, LeO (slices_Index_int_int.l0 k y0 y1 y2 y3) (slices_Index_int_int.l0 (k + 1) y0 y1 y2 y3))
 | 0 => fun _ _ _ _ r h => by simp [slices_Index_int_int.l0] at h
 | k + 1 => by
  have ih0 := slices_Index_int_int.mono_l k
  ·intro y0 y1 y2 y3
   unfold slices_Index_int_int.l0
   repeat' first
   | (with_reducible exact ih0 _ _ _ _)
   | (with_reducible exact LeO.refl _)
   | (with_reducible exact LeO.none _)
   | (with_reducible refine LeO.ite ?_ ?_)
   | (with_reducible refine LeO.bind ?_ (fun _ => ?_))
   | exact ih0 _ _ _ _
   | exact LeO.none _
   | refine LeO.ite ?_ ?_
   | refine LeO.bind ?_ (fun _ => ?_)
theorem slices_Index_int_int.mono : ∀ a0 a1 k, LeO (slices_Index_int_int.f k a0 a1) (slices_Index_int_int.f (k + 1) a0 a1) := by
 intro a0 a1 k
 have ih0 := slices_Index_int_int.mono_l k
 unfold slices_Index_int_int.f
 repeat' first
   | (with_reducible exact ih0 _ _ _ _)
   | (with_reducible exact LeO.refl _)
   | (with_reducible exact LeO.none _)
   | (with_reducible refine LeO.ite ?_ ?_)
   | (with_reducible refine LeO.bind ?_ (fun _ => ?_))
   | exact ih0 _ _ _ _
   | exact LeO.none _
   | refine LeO.ite ?_ ?_
   | refine LeO.bind ?_ (fun _ => ?_)
set_option maxHeartbeats 8000000 in
set_option maxRecDepth 100000 in
theorem slices_Index_int_int.calls (k : Nat) (A0 : Option Addr) (c0 : Nat) (l0 : List Int) (a1 : Int) (r : Int) (w : World) (hr0 : Kd.C (Kd.int .i64) w A0 l0.length l0) (hc0 : l0.length ≤ c0) (h : slices_Index_int_int.f k l0 a1 = some r) :
  Calls Try.prog 51 #[.slice A0 l0.length c0, .int .i64 a1] w fun e w' => e = .returned (.int .i64 r) ∧ Drawn0 w w' := by
 have HR0 := Aside0.mk hr0
 have HC0 := Aside0.mk hc0
 clear hr0 hc0
 have H : (slices_Index_int_int.l0 k l0 a1 (l0.length : Int) 0) = some r := h
 clear h
 have H' := Aside0.mk H
 clear H
 go_enter Try.func51, Try.ntmps51
 go_wp2
 go_loopg [8] k (fun kq v8 w' => ∃ (x8_1 : Int), v8 = .int .i64 x8_1 ∧ Aside0 (slices_Index_int_int.l0 kq l0 a1 (l0.length : Int) x8_1 = some r) ∧ Aside0 (kq ≤ k) ∧ Drawn0 w w')
 case atStart => exact ⟨(0), (by first | rfl | (simp; done) | (simp [*]; done)), H', ⟨Nat.le_refl _⟩, by repeat (first | exact Drawn0.refl _ | apply Drawn0.step)⟩
 case round =>
  clear H'
  try clear p2
  obtain ⟨x8_1, rfl, HA, HK1, ⟨m1, rfl⟩⟩ := hrel
  cases gk with
  | zero => exact absurd HA.out (by simp [slices_Index_int_int.l0])
  | succ k1 =>
   have H := HA.out
   clear HA
   simp only [slices_Index_int_int.l0] at H
   by_cases c3 : x8_1 < (l0.length : Int)
   ·rw [if_pos c3] at H
    have c3b0 : decide (x8_1 < (l0.length : Int)) = true := decide_eq_true c3
    clear c3
    by_cases c4 : 0 ≤ x8_1
    ·rw [if_pos c4] at H
     have c4b0 : decide (0 ≤ x8_1) = true := decide_eq_true c4
     clear c4
     by_cases c5 : x8_1 < (l0.length : Int)
     ·rw [if_pos c5] at H
      have c5b0 : decide (x8_1 < (l0.length : Int)) = true := decide_eq_true c5
      clear c5
      by_cases c6 : a1 = (rd l0 x8_1)
      ·rw [if_pos c6] at H
       have c6b0 : (a1 == (rd l0 x8_1)) = true := beq_iff_eq.mpr c6
       have c6b1 : (a1 != (rd l0 x8_1)) = false := bne_eq_false_iff_eq.mpr c6
       clear c6
       obtain rfl := Option.some.inj H
       have p305 : 0 ≤ (x8_1 : Int) := of_decide_eq_true (by first | (with_reducible assumption) | assumption)
       have q305 : x8_1 < (l0.length : Int) := of_decide_eq_true (by first | (with_reducible assumption) | assumption)
       obtain ⟨ad305, e305, hx305_0⟩ := Kd.at_int HR0.out x8_1 p305 q305
       cases e305
       replace p305 := eq_true p305
       replace q305 := eq_true q305
       go_wp2
       go_ret
       exact ⟨by first | rfl | (simp; done) | (simp [*]; done), by repeat (first | exact Drawn0.refl _ | apply Drawn0.step)⟩
      ·rw [if_neg c6] at H
       have c6b0 : (a1 == (rd l0 x8_1)) = false := beq_eq_false_iff_ne.mpr c6
       have c6b1 : (a1 != (rd l0 x8_1)) = true := bne_iff_ne.mpr c6
       have H' := Aside0.mk H
       clear H
       have p305 : 0 ≤ (x8_1 : Int) := of_decide_eq_true (by first | (with_reducible assumption) | assumption)
       have q305 : x8_1 < (l0.length : Int) := of_decide_eq_true (by first | (with_reducible assumption) | assumption)
       obtain ⟨ad305, e305, hx305_0⟩ := Kd.at_int HR0.out x8_1 p305 q305
       cases e305
       replace p305 := eq_true p305
       replace q305 := eq_true q305
       go_wp2
       go_roundg k1
       case measure => have := HK1.out; omega
       case rel => exact ⟨(wrap64 (x8_1 + 1)), (by first | rfl | (simp; done) | (simp [*]; done)), H', ⟨by have := HK1.out; omega⟩, by repeat (first | exact Drawn0.refl _ | apply Drawn0.step)⟩
     ·rw [if_neg c5] at H
      exact absurd H (by simp)
    ·rw [if_neg c4] at H
     exact absurd H (by simp)
   ·rw [if_neg c3] at H
    have c3b0 : decide (x8_1 < (l0.length : Int)) = false := decide_eq_false c3
    clear c3
    obtain rfl := Option.some.inj H
    go_wp2
    go_ret
    exact ⟨by first | rfl | (simp; done) | (simp [*]; done), by repeat (first | exact Drawn0.refl _ | apply Drawn0.step)⟩

end Go.Proofs.Ytppelnlocfcgfaa.P
namespace Go.Proofs.Ytppelnlocfcgfaa.P
open Go.RowKit Go.Proofs.YtppelnlocfcgfaaW.PrintWords Go.Proofs.YtppelnlocfcgfaaW.PrintLast Go.Proofs.YtppelnlocfcgfaaW.PrintMore
attribute [local go_sem] max2_int min2_int max_two min_two max_three min_three max_four min_four   -- for this text's walks alone
set_option linter.unusedVariables false
set_option linter.unusedSimpArgs false

/-! ### find_Index_Shortest: function 35 -/
def find_Index_Shortest.j0 : Nat → Int → Bool → ByteArray → List Int → List Int → Option (Int × Int)
 | 0, _, _, _, _, _ => none
 | k + 1, x1, x16, x307000, x307001, x307002 => if x16 = true then (some (0, 2)) else ((slices_Index_int_int.f k x307001 x1).bind fun t307 => (if 0 ≤ t307 then (if t307 < (x307002.length : Int) then (if (wrap64 (t307 + 1)) < (x307001.length : Int) then (if 0 ≤ (wrap64 (t307 + 1)) then (if (wrap64 (t307 + 1)) < (x307002.length : Int) then (if (wrap64 (x1 + (mx (rd x307002 t307) (rd x307002 (wrap64 (t307 + 1)))))) ≥ (x307000.size : Int) then (some (0, 6)) else (some (wrap64 ((mx (rd x307002 t307) (rd x307002 (wrap64 (t307 + 1)))) + 1), 0))) else (none)) else (none)) else (if (wrap64 (x1 + (rd x307002 t307))) ≥ (x307000.size : Int) then (some (0, 6)) else (some (wrap64 ((rd x307002 t307) + 1), 0)))) else (none)) else (none)))
def find_Index_Shortest.f (k : Nat) (a0_0 : ByteArray) (l0_1 : List Int) (l0_2 : List Int) (a1 : Int) : Option (Int × Int) := if a1 < 0 then (find_Index_Shortest.j0 k a1 true a0_0 l0_1 l0_2) else (find_Index_Shortest.j0 k a1 (decide (a1 ≥ (a0_0.size : Int))) a0_0 l0_1 l0_2)
theorem find_Index_Shortest.mono_l : ∀ k, (∀ y0 y1 y2 y3 y4, LeO (find_Index_Shortest.j0 k y0 y1 y2 y3 y4) (find_Index_Shortest.j0 (k + 1) y0 y1 y2 y3 y4))
 | 0 => fun _ _ _ _ _ r h => by simp [find_Index_Shortest.j0] at h
 | k + 1 => by
  have ih0 := find_Index_Shortest.mono_l k
  ·intro y0 y1 y2 y3 y4
   unfold find_Index_Shortest.j0
   repeat' first
   | (with_reducible exact ih0 _ _ _ _ _)
   | (with_reducible exact slices_Index_int_int.mono _ _ _)
   | (with_reducible exact LeO.refl _)
   | (with_reducible exact LeO.none _)
   | (with_reducible refine LeO.ite ?_ ?_)
   | (with_reducible refine LeO.bind ?_ (fun _ => ?_))
   | exact ih0 _ _ _ _ _
   | exact slices_Index_int_int.mono _ _ _
   | exact LeO.none _
   | refine LeO.ite ?_ ?_
   | refine LeO.bind ?_ (fun _ => ?_)
theorem find_Index_Shortest.mono : ∀ a0 a1 a2 a3 k, LeO (find_Index_Shortest.f k a0 a1 a2 a3) (find_Index_Shortest.f (k + 1) a0 a1 a2 a3) := by
 intro a0 a1 a2 a3 k
 have ih0 := find_Index_Shortest.mono_l k
 unfold find_Index_Shortest.f
 repeat' first
   | (with_reducible exact ih0 _ _ _ _ _)
   | (with_reducible exact slices_Index_int_int.mono _ _ _)
   | (with_reducible exact LeO.refl _)
   | (with_reducible exact LeO.none _)
   | (with_reducible refine LeO.ite ?_ ?_)
   | (with_reducible refine LeO.bind ?_ (fun _ => ?_))
   | exact ih0 _ _ _ _ _
   | exact slices_Index_int_int.mono _ _ _
   | exact LeO.none _
   | refine LeO.ite ?_ ?_
   | refine LeO.bind ?_ (fun _ => ?_)
set_option maxHeartbeats 8000000 in
set_option maxRecDepth 100000 in
theorem find_Index_Shortest.calls (k : Nat) (a0_0 : ByteArray) (A0_1 : Option Addr) (c0_1 : Nat) (l0_1 : List Int) (A0_2 : Option Addr) (c0_2 : Nat) (l0_2 : List Int) (a1 : Int) (r1 : Int) (r2 : Int) (w : World) (hr0_1 : Kd.C (Kd.int .i64) w A0_1 l0_1.length l0_1) (hc0_1 : l0_1.length ≤ c0_1) (hr0_2 : Kd.C (Kd.int .i64) w A0_2 l0_2.length l0_2) (hc0_2 : l0_2.length ≤ c0_2) (h : find_Index_Shortest.f k a0_0 l0_1 l0_2 a1 = some (r1, r2)) :
  Calls Try.prog 35 #[.agg #[.string a0_0, .slice A0_1 l0_1.length c0_1, .slice A0_2 l0_2.length c0_2], .int .i64 a1] w fun e w' => e = .returned (.tuple #[.int .i64 r1, .int .i64 r2]) ∧ Below w.heap.size w w' := by
 have hu24 := Try.underlying24
 have HR0_1 := Aside0.mk hr0_1
 have HC0_1 := Aside0.mk hc0_1
 clear hr0_1 hc0_1
 have HR0_2 := Aside0.mk hr0_2
 have HC0_2 := Aside0.mk hc0_2
 clear hr0_2 hc0_2
 have HB := Aside0.mk (Below.refl w.heap.size w)
 have H : (if a1 < 0 then (find_Index_Shortest.j0 k a1 true a0_0 l0_1 l0_2) else (find_Index_Shortest.j0 k a1 (decide (a1 ≥ (a0_0.size : Int))) a0_0 l0_1 l0_2)) = some (r1, r2) := h
 clear h
 have HC3 := Aside0.mk H
 clear H
 go_enter Try.func35, Try.ntmps35
 go_upto_region 1 with (first | ((with_reducible refine gate_dst (N := 2) rfl ?_); (try (refine gate_guard (by rfl) ?_; dsimp only)); refine box_event ?hg (N := 2) ?hd (cs := #[.string a0_0, .slice A0_1 l0_1.length c0_1, .slice A0_2 l0_2.length c0_2]) (t := 24) ?hr ?_; (case hd => rfl); (case hg => rfl); (case hr => first | (go_simp; done) | (go_simp; rfl)); intro gb306 hg w4 hbox hb; have n0_ := Aside0.mk (below_step (by repeat (first | (with_reducible first | exact HB.out | apply below_alloc | apply pw_below_drewN | apply below_drew1) | exact HB.out)) hb); have n1_ := Aside0.mk (hbox); have n2_ := Aside0.mk ((by rw [hg]; exact (below_size (by repeat (first | (with_reducible first | exact HB.out | apply below_alloc | apply pw_below_drewN | apply below_drew1) | exact HB.out))) : w.heap.size ≤ gb306)); have n3_ := Aside0.mk ((by rw [hg]; exact (below_size (by repeat (first | (with_reducible first | exact HB.out | apply below_alloc | apply pw_below_drewN | apply below_drew1) | exact HB.out))) : w.heap.size ≤ gb306)); clear HB; have HB := n0_; have BK306 := n1_; have GW306 := n2_; have GE306 := n3_; clear n0_ n1_ n2_ n3_; clear hb hbox hg))
 (try simp only [Act.put, List.setIfInBounds_toArray, List.set_cons_zero, List.set_cons_succ])
 go_cut [16] (fun v16 wc => ∃ (kq : Nat) (x16_2 : Bool), v16 = .bool x16_2 ∧ Aside0 (find_Index_Shortest.j0 kq a1 x16_2 a0_0 l0_1 l0_2 = some (r1, r2)) ∧ Aside0 (kq ≤ k) ∧ Aside0 (wc.heap[gb306]? = some (.cells #[.string a0_0, (.slice A0_1 l0_1.length c0_1), (.slice A0_2 l0_2.length c0_2)] 24 (0, 0))) ∧ Aside0 (Below w.heap.size w wc))
 case first =>
  have H := HC3.out
  clear HC3
  by_cases c5 : a1 < 0
  ·rw [if_pos c5] at H
   have c5b0 : decide (a1 < 0) = true := decide_eq_true c5
   clear c5
   (first | rw [c5b0] | (simp only [i64_w, i32_w]; rw [c5b0]) | skip)
   have H' := Aside0.mk H
   clear H
   go_wp2
   go_meet
   case rel => exact ⟨_, (true), (by first | rfl | (simp; done) | (simp [*]; done)), H', ⟨by first | omega | exact Nat.le_refl _⟩, ⟨by (with_reducible repeat (first | refine blk_drewN ?_ _ | refine blk_drew ?_ | refine blk_alloc ?_ _)); exact BK306.out⟩, ⟨by repeat (first | (with_reducible first | exact HB.out | apply below_alloc | apply pw_below_drewN | apply below_drew1 | refine below_set ?_ GE306.out) | exact HB.out)⟩⟩
  ·rw [if_neg c5] at H
   have c5b0 : decide (a1 < 0) = false := decide_eq_false c5
   clear c5
   (first | rw [c5b0] | (simp only [i64_w, i32_w]; rw [c5b0]) | skip)
   have H' := Aside0.mk H
   clear H
   have hcz6_0 : w4.cell? ⟨gb306, 0, none⟩ = some (.string a0_0) := (blk_cell BK306.out 0).trans rfl
   have hcz6_1 : w4.cell? ⟨gb306, 1, none⟩ = some (.slice A0_1 l0_1.length c0_1) := (blk_cell BK306.out 1).trans rfl
   have hcz6_2 : w4.cell? ⟨gb306, 2, none⟩ = some (.slice A0_2 l0_2.length c0_2) := (blk_cell BK306.out 2).trans rfl
   have hfz6_0 := blk_frozen BK306.out 0
   have hfz6_1 := blk_frozen BK306.out 1
   have hfz6_2 := blk_frozen BK306.out 2
   go_wp2
   go_meet
   case rel => exact ⟨_, (decide (a1 ≥ (a0_0.size : Int))), (by first | rfl | (simp; done) | (simp [*]; done)), H', ⟨by first | omega | exact Nat.le_refl _⟩, ⟨by (with_reducible repeat (first | refine blk_drewN ?_ _ | refine blk_drew ?_ | refine blk_alloc ?_ _)); exact BK306.out⟩, ⟨by repeat (first | (with_reducible first | exact HB.out | apply below_alloc | apply pw_below_drewN | apply below_drew1 | refine below_set ?_ GE306.out) | exact HB.out)⟩⟩
 case rest =>
  clear HC3
  try clear p2
  try clear c3
  try clear c5
  try clear c5b0
  try clear hcz6_0
  try clear hcz6_1
  try clear hcz6_2
  try clear hfz6_0
  try clear hfz6_1
  try clear hfz6_2
  obtain ⟨kq, x16_2, rfl, HA, HJ2, BK306, HB⟩ := hcut
  cases kq with
  | zero => exact absurd HA.out (by simp [find_Index_Shortest.j0])
  | succ kj2 =>
   have H := HA.out
   clear HA
   simp only [find_Index_Shortest.j0] at H
   by_cases c7 : x16_2 = true
   ·subst c7
    have H1 : (some (0, 2)) = some (r1, r2) := by rw [if_pos rfl] at H; exact H
    clear H
    have H := H1
    clear H1
    simp only [Option.some.injEq, Prod.mk.injEq] at H
    obtain ⟨rfl, rfl⟩ := H
    go_wp2
    go_ret2
    exact ⟨by first | rfl | (simp [errW_none, errW_some] <;> rfl) | (simp [*, errW_none, errW_some] <;> rfl), by repeat (first | (with_reducible first | exact HB.out | apply below_alloc | apply pw_below_drewN | apply below_drew1 | refine below_set ?_ GE306.out) | exact HB.out)⟩
   ·replace c7 := Bool.eq_false_iff.mpr c7
    subst c7
    have H1 : ((slices_Index_int_int.f kj2 l0_1 a1).bind fun t307 => (if 0 ≤ t307 then (if t307 < (l0_2.length : Int) then (if (wrap64 (t307 + 1)) < (l0_1.length : Int) then (if 0 ≤ (wrap64 (t307 + 1)) then (if (wrap64 (t307 + 1)) < (l0_2.length : Int) then (if (wrap64 (a1 + (mx (rd l0_2 t307) (rd l0_2 (wrap64 (t307 + 1)))))) ≥ (a0_0.size : Int) then (some (0, 6)) else (some (wrap64 ((mx (rd l0_2 t307) (rd l0_2 (wrap64 (t307 + 1)))) + 1), 0))) else (none)) else (none)) else (if (wrap64 (a1 + (rd l0_2 t307))) ≥ (a0_0.size : Int) then (some (0, 6)) else (some (wrap64 ((rd l0_2 t307) + 1), 0)))) else (none)) else (none))) = some (r1, r2) := by rw [if_neg (show ¬ (false = true) by decide)] at H; exact H
    clear H
    have H := H1
    clear H1
    replace H := Option.bind_eq_some_iff.mp H
    obtain ⟨t307, A80, H⟩ := H
    replace H : (if 0 ≤ t307 then (if t307 < (l0_2.length : Int) then (if (wrap64 (t307 + 1)) < (l0_1.length : Int) then (if 0 ≤ (wrap64 (t307 + 1)) then (if (wrap64 (t307 + 1)) < (l0_2.length : Int) then (if (wrap64 (a1 + (mx (rd l0_2 t307) (rd l0_2 (wrap64 (t307 + 1)))))) ≥ (a0_0.size : Int) then (some (0, 6)) else (some (wrap64 ((mx (rd l0_2 t307) (rd l0_2 (wrap64 (t307 + 1)))) + 1), 0))) else (none)) else (none)) else (if (wrap64 (a1 + (rd l0_2 t307))) ≥ (a0_0.size : Int) then (some (0, 6)) else (some (wrap64 ((rd l0_2 t307) + 1), 0)))) else (none)) else (none)) = some (r1, r2) := H
    have A8 := Aside0.mk A80
    clear A80
    by_cases c9 : 0 ≤ t307
    ·rw [if_pos c9] at H
     have c9b0 : decide (0 ≤ t307) = true := decide_eq_true c9
     clear c9
     by_cases c10 : t307 < (l0_2.length : Int)
     ·rw [if_pos c10] at H
      have c10b0 : decide (t307 < (l0_2.length : Int)) = true := decide_eq_true c10
      clear c10
      by_cases c11 : (wrap64 (t307 + 1)) < (l0_1.length : Int)
      ·rw [if_pos c11] at H
       have c11b0 : decide ((wrap64 (t307 + 1)) < (l0_1.length : Int)) = true := decide_eq_true c11
       clear c11
       obtain ⟨ji12, hji12⟩ : ∃ j_ : Int, (wrap64 (t307 + 1)) = j_ := ⟨_, rfl⟩
       replace H : (if 0 ≤ (ji12) then (if (ji12) < (l0_2.length : Int) then (if (wrap64 (a1 + (mx (rd l0_2 t307) (rd l0_2 (ji12))))) ≥ (a0_0.size : Int) then (some (0, 6)) else (some (wrap64 ((mx (rd l0_2 t307) (rd l0_2 (ji12))) + 1), 0))) else (none)) else (none)) = some (r1, r2) := by first | (rw [hji12] at H; exact H) | (simp only [hji12] at H ⊢; exact H)
       (try rw [hji12] at c11b0)
       (try rw [hji12] at A8)
       have hji12w : (IntKind.i64.wrap (t307 + 1)) = ji12 := (i64_w _).trans hji12
       by_cases c13 : 0 ≤ (ji12)
       ·rw [if_pos c13] at H
        have c13b0 : decide (0 ≤ (ji12)) = true := decide_eq_true c13
        clear c13
        by_cases c14 : (ji12) < (l0_2.length : Int)
        ·rw [if_pos c14] at H
         have c14b0 : decide ((ji12) < (l0_2.length : Int)) = true := decide_eq_true c14
         clear c14
         obtain ⟨ji15, hji15⟩ : ∃ j_ : Int, (mx (rd l0_2 t307) (rd l0_2 (ji12))) = j_ := ⟨_, rfl⟩
         replace H : (if (wrap64 (a1 + (ji15))) ≥ (a0_0.size : Int) then (some (0, 6)) else (some (wrap64 ((ji15) + 1), 0))) = some (r1, r2) := by first | (rw [hji15] at H; exact H) | (simp only [hji15] at H ⊢; exact H)
         (try rw [hji15] at A8)
         have hji15_ : (if (rd l0_2 t307) < (rd l0_2 (ji12)) then (rd l0_2 (ji12)) else (rd l0_2 t307)) = ji15 := hji15
         by_cases c16 : (wrap64 (a1 + (ji15))) ≥ (a0_0.size : Int)
         ·rw [if_pos c16] at H
          have c16b0 : decide ((a0_0.size : Int) ≤ (wrap64 (a1 + (ji15)))) = true := decide_eq_true c16
          clear c16
          simp only [Option.some.injEq, Prod.mk.injEq] at H
          obtain ⟨rfl, rfl⟩ := H
          have hcz17_0 : wc.cell? ⟨gb306, 0, none⟩ = some (.string a0_0) := (blk_cell BK306.out 0).trans rfl
          have hcz17_1 : wc.cell? ⟨gb306, 1, none⟩ = some (.slice A0_1 l0_1.length c0_1) := (blk_cell BK306.out 1).trans rfl
          have hcz17_2 : wc.cell? ⟨gb306, 2, none⟩ = some (.slice A0_2 l0_2.length c0_2) := (blk_cell BK306.out 2).trans rfl
          have hfz17_0 := blk_frozen BK306.out 0
          have hfz17_1 := blk_frozen BK306.out 1
          have hfz17_2 := blk_frozen BK306.out 2
          go_wp2_with (first | ((with_reducible refine gate_callee (f := 51) rfl ?_); refine goesL_ (some 20) rfl rfl Try.func51 (by kernel_rfl) rfl #[.slice A0_1 l0_1.length c0_1, .int .i64 a1] rfl (by (try simp only [List.map_toArray, List.map_cons, List.map_nil]); first | done | rfl | (simp only [List.length_drop, List.length_take]; rfl)) ?_; (with_reducible refine (slices_Index_int_int.calls kj2 _ _ l0_1 a1 t307 _ ?side1 ?side2 A8.out).mono ?_); (case side1 => repeat (first | exact (Kd.C_below HR0_1.out HB.out) | (with_reducible refine Kd.C_alloc ?_ _) | (with_reducible refine Kd.C_drewN ?_ _) | (with_reducible refine Kd.C_drew ?_))); (case side2 => exact HC0_1.out); rintro e w' ⟨rfl, ⟨nd, rfl⟩⟩; refine ⟨_, rfl, ?_⟩; have p308 : 0 ≤ (t307 : Int) := of_decide_eq_true (by first | (with_reducible assumption) | assumption); have q308 : t307 < (l0_2.length : Int) := of_decide_eq_true (by first | (with_reducible assumption) | assumption); obtain ⟨ad308, e308, hx308_0⟩ := Kd.at_int HR0_2.out t307 p308 q308; cases e308; replace hx308_0 := (HB.out.cell (World.block_lt_of_cell? w _ hx308_0)).trans hx308_0; replace p308 := eq_true p308; replace q308 := eq_true q308; have p309 : 0 ≤ ((ji12) : Int) := of_decide_eq_true (by first | (with_reducible assumption) | assumption); have q309 : (ji12) < (l0_2.length : Int) := of_decide_eq_true (by first | (with_reducible assumption) | assumption); obtain ⟨ad309, e309, hx309_0⟩ := Kd.at_int HR0_2.out (ji12) p309 q309; obtain rfl : ad308 = ad309 := (by injection e309); replace hx309_0 := (HB.out.cell (World.block_lt_of_cell? w _ hx309_0)).trans hx309_0; replace p309 := eq_true p309; replace q309 := eq_true q309))
          go_ret2
          exact ⟨by first | rfl | (simp [errW_none, errW_some] <;> rfl) | (simp only [← hji12, ← hji15]; first | rfl | (simp [errW_none, errW_some] <;> rfl)) | (simp [*, errW_none, errW_some] <;> rfl), by repeat (first | (with_reducible first | exact HB.out | apply below_alloc | apply pw_below_drewN | apply below_drew1 | refine below_set ?_ GE306.out) | exact HB.out)⟩
         ·rw [if_neg c16] at H
          have c16b0 : decide ((a0_0.size : Int) ≤ (wrap64 (a1 + (ji15)))) = false := decide_eq_false c16
          clear c16
          simp only [Option.some.injEq, Prod.mk.injEq] at H
          obtain ⟨rfl, rfl⟩ := H
          have hcz18_0 : wc.cell? ⟨gb306, 0, none⟩ = some (.string a0_0) := (blk_cell BK306.out 0).trans rfl
          have hcz18_1 : wc.cell? ⟨gb306, 1, none⟩ = some (.slice A0_1 l0_1.length c0_1) := (blk_cell BK306.out 1).trans rfl
          have hcz18_2 : wc.cell? ⟨gb306, 2, none⟩ = some (.slice A0_2 l0_2.length c0_2) := (blk_cell BK306.out 2).trans rfl
          have hfz18_0 := blk_frozen BK306.out 0
          have hfz18_1 := blk_frozen BK306.out 1
          have hfz18_2 := blk_frozen BK306.out 2
          go_wp2_with (first | ((with_reducible refine gate_callee (f := 51) rfl ?_); refine goesL_ (some 20) rfl rfl Try.func51 (by kernel_rfl) rfl #[.slice A0_1 l0_1.length c0_1, .int .i64 a1] rfl (by (try simp only [List.map_toArray, List.map_cons, List.map_nil]); first | done | rfl | (simp only [List.length_drop, List.length_take]; rfl)) ?_; (with_reducible refine (slices_Index_int_int.calls kj2 _ _ l0_1 a1 t307 _ ?side1 ?side2 A8.out).mono ?_); (case side1 => repeat (first | exact (Kd.C_below HR0_1.out HB.out) | (with_reducible refine Kd.C_alloc ?_ _) | (with_reducible refine Kd.C_drewN ?_ _) | (with_reducible refine Kd.C_drew ?_))); (case side2 => exact HC0_1.out); rintro e w' ⟨rfl, ⟨nd, rfl⟩⟩; refine ⟨_, rfl, ?_⟩; have p308 : 0 ≤ (t307 : Int) := of_decide_eq_true (by first | (with_reducible assumption) | assumption); have q308 : t307 < (l0_2.length : Int) := of_decide_eq_true (by first | (with_reducible assumption) | assumption); obtain ⟨ad308, e308, hx308_0⟩ := Kd.at_int HR0_2.out t307 p308 q308; cases e308; replace hx308_0 := (HB.out.cell (World.block_lt_of_cell? w _ hx308_0)).trans hx308_0; replace p308 := eq_true p308; replace q308 := eq_true q308; have p309 : 0 ≤ ((ji12) : Int) := of_decide_eq_true (by first | (with_reducible assumption) | assumption); have q309 : (ji12) < (l0_2.length : Int) := of_decide_eq_true (by first | (with_reducible assumption) | assumption); obtain ⟨ad309, e309, hx309_0⟩ := Kd.at_int HR0_2.out (ji12) p309 q309; obtain rfl : ad308 = ad309 := (by injection e309); replace hx309_0 := (HB.out.cell (World.block_lt_of_cell? w _ hx309_0)).trans hx309_0; replace p309 := eq_true p309; replace q309 := eq_true q309))
          go_ret2
          exact ⟨by first | rfl | (simp [errW_none, errW_some] <;> rfl) | (simp only [← hji12, ← hji15]; first | rfl | (simp [errW_none, errW_some] <;> rfl)) | (simp [*, errW_none, errW_some] <;> rfl), by repeat (first | (with_reducible first | exact HB.out | apply below_alloc | apply pw_below_drewN | apply below_drew1 | refine below_set ?_ GE306.out) | exact HB.out)⟩
        ·rw [if_neg c14] at H
         exact absurd H (by simp)
       ·rw [if_neg c13] at H
        exact absurd H (by simp)
      ·rw [if_neg c11] at H
       have c11b0 : decide ((wrap64 (t307 + 1)) < (l0_1.length : Int)) = false := decide_eq_false c11
       clear c11
       by_cases c19 : (wrap64 (a1 + (rd l0_2 t307))) ≥ (a0_0.size : Int)
       ·rw [if_pos c19] at H
        have c19b0 : decide ((a0_0.size : Int) ≤ (wrap64 (a1 + (rd l0_2 t307)))) = true := decide_eq_true c19
        clear c19
        simp only [Option.some.injEq, Prod.mk.injEq] at H
        obtain ⟨rfl, rfl⟩ := H
        have hcz20_0 : wc.cell? ⟨gb306, 0, none⟩ = some (.string a0_0) := (blk_cell BK306.out 0).trans rfl
        have hcz20_1 : wc.cell? ⟨gb306, 1, none⟩ = some (.slice A0_1 l0_1.length c0_1) := (blk_cell BK306.out 1).trans rfl
        have hcz20_2 : wc.cell? ⟨gb306, 2, none⟩ = some (.slice A0_2 l0_2.length c0_2) := (blk_cell BK306.out 2).trans rfl
        have hfz20_0 := blk_frozen BK306.out 0
        have hfz20_1 := blk_frozen BK306.out 1
        have hfz20_2 := blk_frozen BK306.out 2
        go_wp2_with (first | ((with_reducible refine gate_callee (f := 51) rfl ?_); refine goesL_ (some 20) rfl rfl Try.func51 (by kernel_rfl) rfl #[.slice A0_1 l0_1.length c0_1, .int .i64 a1] rfl (by (try simp only [List.map_toArray, List.map_cons, List.map_nil]); first | done | rfl | (simp only [List.length_drop, List.length_take]; rfl)) ?_; (with_reducible refine (slices_Index_int_int.calls kj2 _ _ l0_1 a1 t307 _ ?side1 ?side2 A8.out).mono ?_); (case side1 => repeat (first | exact (Kd.C_below HR0_1.out HB.out) | (with_reducible refine Kd.C_alloc ?_ _) | (with_reducible refine Kd.C_drewN ?_ _) | (with_reducible refine Kd.C_drew ?_))); (case side2 => exact HC0_1.out); rintro e w' ⟨rfl, ⟨nd, rfl⟩⟩; refine ⟨_, rfl, ?_⟩; have p308 : 0 ≤ (t307 : Int) := of_decide_eq_true (by first | (with_reducible assumption) | assumption); have q308 : t307 < (l0_2.length : Int) := of_decide_eq_true (by first | (with_reducible assumption) | assumption); obtain ⟨ad308, e308, hx308_0⟩ := Kd.at_int HR0_2.out t307 p308 q308; cases e308; replace hx308_0 := (HB.out.cell (World.block_lt_of_cell? w _ hx308_0)).trans hx308_0; replace p308 := eq_true p308; replace q308 := eq_true q308))
        go_ret2
        exact ⟨by first | rfl | (simp [errW_none, errW_some] <;> rfl) | (simp [*, errW_none, errW_some] <;> rfl), by repeat (first | (with_reducible first | exact HB.out | apply below_alloc | apply pw_below_drewN | apply below_drew1 | refine below_set ?_ GE306.out) | exact HB.out)⟩
       ·rw [if_neg c19] at H
        have c19b0 : decide ((a0_0.size : Int) ≤ (wrap64 (a1 + (rd l0_2 t307)))) = false := decide_eq_false c19
        clear c19
        simp only [Option.some.injEq, Prod.mk.injEq] at H
        obtain ⟨rfl, rfl⟩ := H
        have hcz21_0 : wc.cell? ⟨gb306, 0, none⟩ = some (.string a0_0) := (blk_cell BK306.out 0).trans rfl
        have hcz21_1 : wc.cell? ⟨gb306, 1, none⟩ = some (.slice A0_1 l0_1.length c0_1) := (blk_cell BK306.out 1).trans rfl
        have hcz21_2 : wc.cell? ⟨gb306, 2, none⟩ = some (.slice A0_2 l0_2.length c0_2) := (blk_cell BK306.out 2).trans rfl
        have hfz21_0 := blk_frozen BK306.out 0
        have hfz21_1 := blk_frozen BK306.out 1
        have hfz21_2 := blk_frozen BK306.out 2
        go_wp2_with (first | ((with_reducible refine gate_callee (f := 51) rfl ?_); refine goesL_ (some 20) rfl rfl Try.func51 (by kernel_rfl) rfl #[.slice A0_1 l0_1.length c0_1, .int .i64 a1] rfl (by (try simp only [List.map_toArray, List.map_cons, List.map_nil]); first | done | rfl | (simp only [List.length_drop, List.length_take]; rfl)) ?_; (with_reducible refine (slices_Index_int_int.calls kj2 _ _ l0_1 a1 t307 _ ?side1 ?side2 A8.out).mono ?_); (case side1 => repeat (first | exact (Kd.C_below HR0_1.out HB.out) | (with_reducible refine Kd.C_alloc ?_ _) | (with_reducible refine Kd.C_drewN ?_ _) | (with_reducible refine Kd.C_drew ?_))); (case side2 => exact HC0_1.out); rintro e w' ⟨rfl, ⟨nd, rfl⟩⟩; refine ⟨_, rfl, ?_⟩; have p308 : 0 ≤ (t307 : Int) := of_decide_eq_true (by first | (with_reducible assumption) | assumption); have q308 : t307 < (l0_2.length : Int) := of_decide_eq_true (by first | (with_reducible assumption) | assumption); obtain ⟨ad308, e308, hx308_0⟩ := Kd.at_int HR0_2.out t307 p308 q308; cases e308; replace hx308_0 := (HB.out.cell (World.block_lt_of_cell? w _ hx308_0)).trans hx308_0; replace p308 := eq_true p308; replace q308 := eq_true q308))
        go_ret2
        exact ⟨by first | rfl | (simp [errW_none, errW_some] <;> rfl) | (simp [*, errW_none, errW_some] <;> rfl), by repeat (first | (with_reducible first | exact HB.out | apply below_alloc | apply pw_below_drewN | apply below_drew1 | refine below_set ?_ GE306.out) | exact HB.out)⟩
     ·rw [if_neg c10] at H
      exact absurd H (by simp)
    ·rw [if_neg c9] at H
     exact absurd H (by simp)

end Go.Proofs.Ytppelnlocfcgfaa.P
namespace Go.Proofs.Ytppelnlocfcgfaa.P
open Go.RowKit Go.Proofs.YtppelnlocfcgfaaW.PrintWords Go.Proofs.YtppelnlocfcgfaaW.PrintLast Go.Proofs.YtppelnlocfcgfaaW.PrintMore
attribute [local go_sem] max2_int min2_int max_two min_two max_three min_three max_four min_four   -- for this text's walks alone
set_option linter.unusedVariables false
set_option linter.unusedSimpArgs false

/-! ### silversideref07_Shortest: function 36 -/
mutual
def silversideref07_Shortest.j0 : Nat → ByteArray → Int → Bool → Option (Int × Int)
 | 0, _, _, _ => none
 | k + 1, x0, x1, x15 => if x15 = true then (some (0, 2)) else (silversideref07_Shortest.l0 k x0 x1 0 0)
def silversideref07_Shortest.l0 : Nat → ByteArray → Int → Int → Int → Option (Int × Int)
 | 0, _, _, _, _ => none
 | k + 1, x0, x1, x6, x7 => if x7 < (x0.size : Int) then (if x7 = x1 then (silversideref07_Shortest.l0 k x0 x1 x6 (wrap64 (x7 + 1))) else ((silversideref07_Common.f k x0 x1 x0 x7).bind fun t310 => (silversideref07_Shortest.l0 k x0 x1 (mx x6 t310) (wrap64 (x7 + 1))))) else (if (wrap64 (x1 + x6)) = (x0.size : Int) then (some (0, 6)) else (some (wrap64 (x6 + 1), 0)))
end
def silversideref07_Shortest.f (k : Nat) (a0 : ByteArray) (a1 : Int) : Option (Int × Int) := if a1 < 0 then (silversideref07_Shortest.j0 k a0 a1 true) else (silversideref07_Shortest.j0 k a0 a1 (decide (a1 ≥ (a0.size : Int))))
theorem silversideref07_Shortest.mono_l : ∀ k, (∀ y0 y1 y2, LeO (silversideref07_Shortest.j0 k y0 y1 y2) (silversideref07_Shortest.j0 (k + 1) y0 y1 y2)) ∧ (∀ y0 y1 y2 y3, LeO (silversideref07_Shortest.l0 k y0 y1 y2 y3) (silversideref07_Shortest.l0 (k + 1) y0 y1 y2 y3))
 | 0 => ⟨fun _ _ _ r h => by simp [silversideref07_Shortest.j0] at h, fun _ _ _ _ r h => by simp [silversideref07_Shortest.l0] at h⟩
 | k + 1 => by
  obtain ⟨ih0, ih1⟩ := silversideref07_Shortest.mono_l k
  refine ⟨?_, ?_⟩
  ·intro y0 y1 y2
   unfold silversideref07_Shortest.j0
   repeat' first
   | (with_reducible exact ih0 _ _ _)
   | (with_reducible exact ih1 _ _ _ _)
   | (with_reducible exact silversideref07_Common.mono _ _ _ _ _)
   | (with_reducible exact LeO.refl _)
   | (with_reducible exact LeO.none _)
   | (with_reducible refine LeO.ite ?_ ?_)
   | (with_reducible refine LeO.bind ?_ (fun _ => ?_))
   | exact ih0 _ _ _
   | exact ih1 _ _ _ _
   | exact silversideref07_Common.mono _ _ _ _ _
   | exact LeO.none _
   | refine LeO.ite ?_ ?_
   | refine LeO.bind ?_ (fun _ => ?_)
  ·intro y0 y1 y2 y3
   unfold silversideref07_Shortest.l0
   repeat' first
   | (with_reducible exact ih0 _ _ _)
   | (with_reducible exact ih1 _ _ _ _)
   | (with_reducible exact silversideref07_Common.mono _ _ _ _ _)
   | (with_reducible exact LeO.refl _)
   | (with_reducible exact LeO.none _)
   | (with_reducible refine LeO.ite ?_ ?_)
   | (with_reducible refine LeO.bind ?_ (fun _ => ?_))
   | exact ih0 _ _ _
   | exact ih1 _ _ _ _
   | exact silversideref07_Common.mono _ _ _ _ _
   | exact LeO.none _
   | refine LeO.ite ?_ ?_
   | refine LeO.bind ?_ (fun _ => ?_)
theorem silversideref07_Shortest.mono : ∀ a0 a1 k, LeO (silversideref07_Shortest.f k a0 a1) (silversideref07_Shortest.f (k + 1) a0 a1) := by
 intro a0 a1 k
 obtain ⟨ih0, ih1⟩ := silversideref07_Shortest.mono_l k
 unfold silversideref07_Shortest.f
 repeat' first
   | (with_reducible exact ih0 _ _ _)
   | (with_reducible exact ih1 _ _ _ _)
   | (with_reducible exact silversideref07_Common.mono _ _ _ _ _)
   | (with_reducible exact LeO.refl _)
   | (with_reducible exact LeO.none _)
   | (with_reducible refine LeO.ite ?_ ?_)
   | (with_reducible refine LeO.bind ?_ (fun _ => ?_))
   | exact ih0 _ _ _
   | exact ih1 _ _ _ _
   | exact silversideref07_Common.mono _ _ _ _ _
   | exact LeO.none _
   | refine LeO.ite ?_ ?_
   | refine LeO.bind ?_ (fun _ => ?_)
set_option maxHeartbeats 8000000 in
set_option maxRecDepth 100000 in
theorem silversideref07_Shortest.calls (k : Nat) (a0 : ByteArray) (a1 : Int) (r1 : Int) (r2 : Int) (w : World) (h : silversideref07_Shortest.f k a0 a1 = some (r1, r2)) :
  Calls Try.prog 36 #[.string a0, .int .i64 a1] w fun e w' => e = .returned (.tuple #[.int .i64 r1, .int .i64 r2]) ∧ Below w.heap.size w w' := by
 have HB := Aside0.mk (Below.refl w.heap.size w)
 have H : (if a1 < 0 then (silversideref07_Shortest.j0 k a0 a1 true) else (silversideref07_Shortest.j0 k a0 a1 (decide (a1 ≥ (a0.size : Int))))) = some (r1, r2) := h
 clear h
 have HC3 := Aside0.mk H
 clear H
 go_enter Try.func36, Try.ntmps36
 go_upto_region 1 with (fail)
 go_cut [15] (fun v15 wc => ∃ (kq : Nat) (x15_2 : Bool), v15 = .bool x15_2 ∧ Aside0 (silversideref07_Shortest.j0 kq a0 a1 x15_2 = some (r1, r2)) ∧ Aside0 (kq ≤ k) ∧ Aside0 (Below w.heap.size w wc))
 case first =>
  have H := HC3.out
  clear HC3
  by_cases c4 : a1 < 0
  ·rw [if_pos c4] at H
   have c4b0 : decide (a1 < 0) = true := decide_eq_true c4
   clear c4
   (first | rw [c4b0] | (simp only [i64_w, i32_w]; rw [c4b0]) | skip)
   have H' := Aside0.mk H
   clear H
   go_wp2
   go_meet
   case rel => exact ⟨_, (true), (by first | rfl | (simp; done) | (simp [*]; done)), H', ⟨by first | omega | exact Nat.le_refl _⟩, ⟨by repeat (first | (with_reducible first | exact HB.out | apply below_alloc | apply pw_below_drewN | apply below_drew1) | exact HB.out)⟩⟩
  ·rw [if_neg c4] at H
   have c4b0 : decide (a1 < 0) = false := decide_eq_false c4
   clear c4
   (first | rw [c4b0] | (simp only [i64_w, i32_w]; rw [c4b0]) | skip)
   have H' := Aside0.mk H
   clear H
   go_wp2
   go_meet
   case rel => exact ⟨_, (decide (a1 ≥ (a0.size : Int))), (by first | rfl | (simp; done) | (simp [*]; done)), H', ⟨by first | omega | exact Nat.le_refl _⟩, ⟨by repeat (first | (with_reducible first | exact HB.out | apply below_alloc | apply pw_below_drewN | apply below_drew1) | exact HB.out)⟩⟩
 case rest =>
  clear HC3
  try clear p2
  try clear c3
  try clear c4
  try clear c4b0
  obtain ⟨kq, x15_2, rfl, HA, HJ2, HB⟩ := hcut
  cases kq with
  | zero => exact absurd HA.out (by simp [silversideref07_Shortest.j0])
  | succ kj2 =>
   have H := HA.out
   clear HA
   simp only [silversideref07_Shortest.j0] at H
   by_cases c5 : x15_2 = true
   ·subst c5
    have H1 : (some (0, 2)) = some (r1, r2) := by rw [if_pos rfl] at H; exact H
    clear H
    have H := H1
    clear H1
    simp only [Option.some.injEq, Prod.mk.injEq] at H
    obtain ⟨rfl, rfl⟩ := H
    go_wp2
    go_ret2
    exact ⟨by first | rfl | (simp [errW_none, errW_some] <;> rfl) | (simp [*, errW_none, errW_some] <;> rfl), by repeat (first | (with_reducible first | exact HB.out | apply below_alloc | apply pw_below_drewN | apply below_drew1) | exact HB.out)⟩
   ·replace c5 := Bool.eq_false_iff.mpr c5
    subst c5
    have H1 : (silversideref07_Shortest.l0 kj2 a0 a1 0 0) = some (r1, r2) := by rw [if_neg (show ¬ (false = true) by decide)] at H; exact H
    clear H
    have H := H1
    clear H1
    have H' := Aside0.mk H
    clear H
    go_wp2
    go_loopg [6, 7] kj2 (fun kq v6 v7 w' => ∃ (x6_2 : Int) (x7_2 : Int), v6 = .int .i64 x6_2 ∧ v7 = .int .i64 x7_2 ∧ Aside0 (silversideref07_Shortest.l0 kq a0 a1 x6_2 x7_2 = some (r1, r2)) ∧ Aside0 (kq ≤ kj2) ∧ Aside0 (Below w.heap.size w w'))
    case atStart => exact ⟨(0), (0), (by first | rfl | (simp; done) | (simp [*]; done)), (by first | rfl | (simp; done) | (simp [*]; done)), H', ⟨Nat.le_refl _⟩, ⟨by repeat (first | (with_reducible first | exact HB.out | apply below_alloc | apply pw_below_drewN | apply below_drew1) | exact HB.out)⟩⟩
    case round =>
     clear H'
     try clear p2
     try clear c3
     try clear c4
     try clear c4b0
     try clear c5
     try clear p2
     obtain ⟨x6_2, x7_2, rfl, rfl, HA, HK2, HB⟩ := hrel
     cases gk with
     | zero => exact absurd HA.out (by simp [silversideref07_Shortest.l0])
     | succ k2 =>
      have H := HA.out
      clear HA
      simp only [silversideref07_Shortest.l0] at H
      by_cases c6 : x7_2 < (a0.size : Int)
      ·rw [if_pos c6] at H
       have c6b0 : decide (x7_2 < (a0.size : Int)) = true := decide_eq_true c6
       clear c6
       by_cases c7 : x7_2 = a1
       ·rw [if_pos c7] at H
        have c7b0 : (x7_2 == a1) = true := beq_iff_eq.mpr c7
        have c7b1 : (x7_2 != a1) = false := bne_eq_false_iff_eq.mpr c7
        clear c7
        have H' := Aside0.mk H
        clear H
        go_wp2
        go_roundg k2
        case measure => have := HJ2.out; have := HK2.out; omega
        case rel => exact ⟨(x6_2), (wrap64 (x7_2 + 1)), (by first | rfl | (simp; done) | (simp [*]; done)), (by first | rfl | (simp; done) | (simp [*]; done)), H', ⟨by have := HJ2.out; have := HK2.out; omega⟩, ⟨by repeat (first | (with_reducible first | exact HB.out | apply below_alloc | apply pw_below_drewN | apply below_drew1) | exact HB.out)⟩⟩
       ·rw [if_neg c7] at H
        have c7b0 : (x7_2 == a1) = false := beq_eq_false_iff_ne.mpr c7
        have c7b1 : (x7_2 != a1) = true := bne_iff_ne.mpr c7
        replace H := Option.bind_eq_some_iff.mp H
        obtain ⟨t310, A80, H⟩ := H
        replace H : (silversideref07_Shortest.l0 k2 a0 a1 (mx x6_2 t310) (wrap64 (x7_2 + 1))) = some (r1, r2) := H
        have A8 := Aside0.mk A80
        clear A80
        obtain ⟨ji9, hji9⟩ : ∃ j_ : Int, (mx x6_2 t310) = j_ := ⟨_, rfl⟩
        replace H : (silversideref07_Shortest.l0 k2 a0 a1 ji9 (wrap64 (x7_2 + 1))) = some (r1, r2) := by first | (rw [hji9] at H; exact H) | (simp only [hji9] at H ⊢; exact H)
        (try rw [hji9] at A8)
        have hji9_ : (if x6_2 < t310 then t310 else x6_2) = ji9 := hji9
        have H' := Aside0.mk H
        clear H
        go_wp2_with (first | ((with_reducible refine gate_callee (f := 43) rfl ?_); refine goesL_ (some 30) rfl rfl Try.func43 (by kernel_rfl) rfl #[.string a0, .int .i64 a1, .string a0, .int .i64 x7_2] rfl (by (try simp only [List.map_toArray, List.map_cons, List.map_nil]); first | done | rfl | (simp only [List.length_drop, List.length_take]; rfl)) ?_; (with_reducible refine (silversideref07_Common.calls k2 a0 a1 a0 x7_2 t310 _ A8.out).mono ?_); rintro e w' ⟨rfl, ⟨nd, rfl⟩⟩; refine ⟨_, rfl, ?_⟩))
        go_roundg k2
        case measure => have := HJ2.out; have := HK2.out; omega
        case rel => exact ⟨(ji9), (wrap64 (x7_2 + 1)), (by first | rfl | (simp; done) | (simp only [← hji9] <;> (first | rfl | simp)) | (simp [*]; done)), (by first | rfl | (simp; done) | (simp [*]; done)), H', ⟨by have := HJ2.out; have := HK2.out; omega⟩, ⟨by repeat (first | (with_reducible first | exact HB.out | apply below_alloc | apply pw_below_drewN | apply below_drew1) | exact HB.out)⟩⟩
      ·rw [if_neg c6] at H
       have c6b0 : decide (x7_2 < (a0.size : Int)) = false := decide_eq_false c6
       clear c6
       by_cases c10 : (wrap64 (a1 + x6_2)) = (a0.size : Int)
       ·rw [if_pos c10] at H
        have c10b0 : ((wrap64 (a1 + x6_2)) == (a0.size : Int)) = true := beq_iff_eq.mpr c10
        have c10b1 : ((wrap64 (a1 + x6_2)) != (a0.size : Int)) = false := bne_eq_false_iff_eq.mpr c10
        clear c10
        simp only [Option.some.injEq, Prod.mk.injEq] at H
        obtain ⟨rfl, rfl⟩ := H
        go_wp2
        go_ret2
        exact ⟨by first | rfl | (simp [errW_none, errW_some] <;> rfl) | (simp [*, errW_none, errW_some] <;> rfl), by repeat (first | (with_reducible first | exact HB.out | apply below_alloc | apply pw_below_drewN | apply below_drew1) | exact HB.out)⟩
       ·rw [if_neg c10] at H
        have c10b0 : ((wrap64 (a1 + x6_2)) == (a0.size : Int)) = false := beq_eq_false_iff_ne.mpr c10
        have c10b1 : ((wrap64 (a1 + x6_2)) != (a0.size : Int)) = true := bne_iff_ne.mpr c10
        simp only [Option.some.injEq, Prod.mk.injEq] at H
        obtain ⟨rfl, rfl⟩ := H
        go_wp2
        go_ret2
        exact ⟨by first | rfl | (simp [errW_none, errW_some] <;> rfl) | (simp [*, errW_none, errW_some] <;> rfl), by repeat (first | (with_reducible first | exact HB.out | apply below_alloc | apply pw_below_drewN | apply below_drew1) | exact HB.out)⟩

end Go.Proofs.Ytppelnlocfcgfaa.P
namespace Go.Proofs.Ytppelnlocfcgfaa.P
open Go.RowKit Go.Proofs.YtppelnlocfcgfaaW.PrintWords Go.Proofs.YtppelnlocfcgfaaW.PrintLast Go.Proofs.YtppelnlocfcgfaaW.PrintMore
attribute [local go_sem] max2_int min2_int max_two min_two max_three min_three max_four min_four   -- for this text's walks alone
set_option linter.unusedVariables false
set_option linter.unusedSimpArgs false

/-! ### silversidelaw07_mod: function 27 -/
def silversidelaw07_mod.f (a0 : Int) (a1 : Int) : Option (Int) := if (IntKind.u64.wrap (a1)) = 0 then (none) else (some (wrap64 (Int.tmod (IntKind.u64.wrap (a0)) (IntKind.u64.wrap (a1)))))
set_option maxHeartbeats 8000000 in
set_option maxRecDepth 100000 in
theorem silversidelaw07_mod.calls (a0 : Int) (a1 : Int) (r : Int) (w : World) (h : silversidelaw07_mod.f a0 a1 = some r) :
  Calls Try.prog 27 #[.int .i64 a0, .int .i64 a1] w fun e w' => e = .returned (.int .i64 r) ∧ Drawn0 w w' := by
 have H : (if (IntKind.u64.wrap (a1)) = 0 then (none) else (some (wrap64 (Int.tmod (IntKind.u64.wrap (a0)) (IntKind.u64.wrap (a1)))))) = some r := h
 clear h
 by_cases c3 : (IntKind.u64.wrap (a1)) = 0
 ·rw [if_pos c3] at H
  exact absurd H (by simp)
 ·rw [if_neg c3] at H
  have c3b0 : ((IntKind.u64.wrap (a1)) == 0) = false := beq_eq_false_iff_ne.mpr c3
  have c3b1 : ((IntKind.u64.wrap (a1)) != 0) = true := bne_iff_ne.mpr c3
  obtain rfl := Option.some.inj H
  go_enter Try.func27, Try.ntmps27
  go_wp2
  go_ret
  exact ⟨by first | rfl | (simp; done) | (simp [*]; done), by repeat (first | exact Drawn0.refl _ | apply Drawn0.step)⟩

end Go.Proofs.Ytppelnlocfcgfaa.P
namespace Go.Proofs.Ytppelnlocfcgfaa.P
open Go.RowKit Go.Proofs.YtppelnlocfcgfaaW.PrintWords Go.Proofs.YtppelnlocfcgfaaW.PrintLast Go.Proofs.YtppelnlocfcgfaaW.PrintMore
/-- slices.Clone at []int -/
def slices_Clone_int.f (l0 : List Int) : Option (List Int) := if l0.length * 8 ≤ 140737488355328 then some l0 else none
theorem slices_Clone_int.calls (A0 : Option Addr) (c0 : Nat) (l0 r : List Int) (w : World) (hr0 : Kd.C (Kd.int .i64) w A0 l0.length l0) (hc0 : l0.length ≤ c0) (h : slices_Clone_int.f l0 = some r) :
    Calls Try.prog 48 #[.slice A0 l0.length c0] w fun e w' => ∃ v0_ : Value, e = .returned (v0_) ∧ Kd.R (Kd.int .i64) 3 w' w.heap.size (fun _ => True) v0_ r ∧ Below w.heap.size w w' := by
  unfold slices_Clone_int.f at h
  by_cases hs : l0.length * 8 ≤ 140737488355328
  · rw [if_pos hs] at h
    injection h with h
    subst h
    by_cases hn : l0.length = 0
    · have hl : l0 = [] := List.eq_nil_of_length_eq_zero hn
      subst hl
      cases A0 with
      | none =>
        refine (Try.slices_Clone_int_nil 0 c0 w).mono ?_
        rintro e w' ⟨he, rfl⟩
        exact ⟨_, he, Kd.R_nil _ _ _ _ _, Below.refl _ _⟩
      | some a =>
        refine (Try.slices_Clone_int_zero a c0 w).mono ?_
        rintro e w' ⟨v, he, ho, _, hB⟩
        exact ⟨v, he, Kd.R_of_own (xs := []) ho (fun _ _ => trivial), hB⟩
    · obtain ⟨ad, rfl, _⟩ := Kd.at_int hr0 0 (by omega) (by omega)
      obtain ⟨ad', e, hc⟩ := (Kd.reads_of_C (d := (0 : Int)) hr0).2.2 (by omega)
      cases e
      have h0 := hc 0 (by omega)
      rw [show ad.add 0 = ad from rfl] at h0
      have hsp := World.cell?_spot h0
      obtain ⟨b, off, q⟩ := ad
      simp only at hsp
      subst hsp
      refine (Try.slices_Clone_int b off l0.length c0 l0 w (Nat.le_refl _) hs (fun j hj => ?_)).mono ?_
      · have := hc j hj
        have e2 : (⟨b, off, none⟩ : Addr).add j = ⟨b, off + j, none⟩ := by unfold Addr.add; split <;> simp_all
        rw [e2] at this
        exact this
      · rintro e w' ⟨v, he, ho, _, hB⟩
        rw [List.take_length] at ho
        exact ⟨v, he, Kd.R_of_own ho (fun _ _ => trivial), hB⟩
  · rw [if_neg hs] at h
    exact absurd h (by simp)
end Go.Proofs.Ytppelnlocfcgfaa.P
namespace Go.Proofs.Ytppelnlocfcgfaa.P
open Go.RowKit Go.Proofs.YtppelnlocfcgfaaW.PrintWords Go.Proofs.YtppelnlocfcgfaaW.PrintLast Go.Proofs.YtppelnlocfcgfaaW.PrintMore
attribute [local go_sem] max2_int min2_int max_two min_two max_three min_three max_four min_four   -- for this text's walks alone
set_option linter.unusedVariables false
set_option linter.unusedSimpArgs false

/-! ### find_Index_Overlaps: function 28 -/
def find_Index_Overlaps.f (a0_0 : ByteArray) (l0_1 : List Int) (l0_2 : List Int) : Option (List Int) := (slices_Clone_int.f l0_2).bind fun t233 => (some t233)
set_option maxHeartbeats 8000000 in
set_option maxRecDepth 100000 in
theorem find_Index_Overlaps.calls (a0_0 : ByteArray) (A0_1 : Option Addr) (c0_1 : Nat) (l0_1 : List Int) (A0_2 : Option Addr) (c0_2 : Nat) (l0_2 : List Int) (r : List Int) (w : World) (hr0_1 : Kd.C (Kd.int .i64) w A0_1 l0_1.length l0_1) (hc0_1 : l0_1.length ≤ c0_1) (hr0_2 : Kd.C (Kd.int .i64) w A0_2 l0_2.length l0_2) (hc0_2 : l0_2.length ≤ c0_2) (h : find_Index_Overlaps.f a0_0 l0_1 l0_2 = some r) :
  Calls Try.prog 28 #[.agg #[.string a0_0, .slice A0_1 l0_1.length c0_1, .slice A0_2 l0_2.length c0_2]] w fun e w' => ∃ v0_ : Value, e = .returned (v0_) ∧ Kd.R (Kd.int .i64) 3 w' w.heap.size (fun _ => True) v0_ r ∧ Below w.heap.size w w' := by
 have hu24 := Try.underlying24
 have HR0_1 := Aside0.mk hr0_1
 have HC0_1 := Aside0.mk hc0_1
 clear hr0_1 hc0_1
 have HR0_2 := Aside0.mk hr0_2
 have HC0_2 := Aside0.mk hc0_2
 clear hr0_2 hc0_2
 have HB := Aside0.mk (Below.refl w.heap.size w)
 have H : ((slices_Clone_int.f l0_2).bind fun t233 => (some t233)) = some r := h
 clear h
 replace H := Option.bind_eq_some_iff.mp H
 obtain ⟨t233, A20, H⟩ := H
 replace H : (some t233) = some r := H
 have A2 := Aside0.mk A20
 clear A20
 obtain rfl := Option.some.inj H
 go_enter Try.func28, Try.ntmps28
 go_wp2_with (first | ((with_reducible refine gate_dst (N := 1) rfl ?_); refine box_event ?hg (N := 1) ?hd (cs := #[.string a0_0, .slice A0_1 l0_1.length c0_1, .slice A0_2 l0_2.length c0_2]) (t := 24) ?hr ?_; (case hd => rfl); (case hg => rfl); (case hr => first | (go_simp; done) | (go_simp; rfl)); intro gb232 hg w3 hbox hb; have n0_ := Aside0.mk (below_step (by repeat (first | (with_reducible first | exact HB.out | apply below_alloc | apply pw_below_drewN | apply below_drew1) | exact HB.out)) hb); have n1_ := Aside0.mk (hbox); have n2_ := Aside0.mk ((by rw [hg]; exact (below_size (by repeat (first | (with_reducible first | exact HB.out | apply below_alloc | apply pw_below_drewN | apply below_drew1) | exact HB.out))) : w.heap.size ≤ gb232)); have n3_ := Aside0.mk ((by rw [hg]; exact (below_size (by repeat (first | (with_reducible first | exact HB.out | apply below_alloc | apply pw_below_drewN | apply below_drew1) | exact HB.out))) : w.heap.size ≤ gb232)); clear HB; have HB := n0_; have BK232 := n1_; have GW232 := n2_; have GE232 := n3_; clear n0_ n1_ n2_ n3_; clear hb hbox hg; have hcz4_0 : w3.cell? ⟨gb232, 0, none⟩ = some (.string a0_0) := (blk_cell BK232.out 0).trans rfl; have hcz4_1 : w3.cell? ⟨gb232, 1, none⟩ = some (.slice A0_1 l0_1.length c0_1) := (blk_cell BK232.out 1).trans rfl; have hcz4_2 : w3.cell? ⟨gb232, 2, none⟩ = some (.slice A0_2 l0_2.length c0_2) := (blk_cell BK232.out 2).trans rfl; have hfz4_0 := blk_frozen BK232.out 0; have hfz4_1 := blk_frozen BK232.out 1; have hfz4_2 := blk_frozen BK232.out 2) | ((with_reducible refine gate_callee (f := 48) rfl ?_); refine goesL_ (some 5) rfl rfl Try.func48 (by kernel_rfl) rfl #[.slice A0_2 l0_2.length c0_2] rfl (by (try simp only [List.map_toArray, List.map_cons, List.map_nil]); first | done | rfl | (simp only [List.length_drop, List.length_take]; rfl)) ?_; (with_reducible refine (slices_Clone_int.calls _ _ l0_2 t233 _ ?side1 ?side2 A2.out).mono ?_); (case side1 => repeat (first | exact (Kd.C_below HR0_2.out HB.out) | (with_reducible refine Kd.C_alloc ?_ _) | (with_reducible refine Kd.C_drewN ?_ _) | (with_reducible refine Kd.C_drew ?_))); (case side2 => exact HC0_2.out); rintro e w5 ⟨v234, rfl, ho0, hb⟩; refine ⟨_, rfl, ?_⟩; have n0_ := Aside0.mk (Kd.R_lower ho0 (below_size (by repeat (first | (with_reducible first | exact HB.out | apply below_alloc | apply pw_below_drewN | apply below_drew1 | refine below_set ?_ GE232.out) | exact HB.out)))); have n1_ := Aside0.mk (blk_below (g := gb232) (o := .cells #[.string a0_0, .slice A0_1 l0_1.length c0_1, .slice A0_2 l0_2.length c0_2] 24 (0, 0)) (by (with_reducible repeat (first | refine blk_drewN ?_ _ | refine blk_drew ?_ | refine blk_alloc ?_ _)); exact BK232.out) hb); have n2_ := Aside0.mk (below_step (by repeat (first | (with_reducible first | exact HB.out | apply below_alloc | apply pw_below_drewN | apply below_drew1 | refine below_set ?_ GE232.out) | exact HB.out)) hb); clear BK232; clear HB; have HO235 := n0_; have BK232 := n1_; have HB := n2_; clear n0_ n1_ n2_; (try clear hb); (try clear hb2); (try clear hk); (try clear hi); (try clear ho0)))
 go_ret
 exact ⟨_, by first | rfl | (simp [errW_none, errW_some] <;> rfl) | (simp [*, errW_none, errW_some] <;> rfl), by (with_reducible repeat (first | apply Kd.R_alloc | apply Kd.R_drewN | apply Kd.R_drew)); exact HO235.out, by repeat (first | (with_reducible first | exact HB.out | apply below_alloc | apply pw_below_drewN | apply below_drew1 | refine below_set ?_ GE232.out) | exact HB.out)⟩

end Go.Proofs.Ytppelnlocfcgfaa.P
namespace Go.Proofs.Ytppelnlocfcgfaa.P
open Go.RowKit Go.Proofs.YtppelnlocfcgfaaW.PrintWords Go.Proofs.YtppelnlocfcgfaaW.PrintLast Go.Proofs.YtppelnlocfcgfaaW.PrintMore
attribute [local go_sem] max2_int min2_int max_two min_two max_three min_three max_four min_four   -- for this text's walks alone
set_option linter.unusedVariables false
set_option linter.unusedSimpArgs false

/-! ### silversidelaw07_FindSums: function 7 -/
mutual
def silversidelaw07_FindSums.j0 : Nat → ByteArray → List Int → Bool → ByteArray → List Int → List Int → Option (Bool)
 | 0, _, _, _, _, _, _ => none
 | k + 1, x0, x5, x32, x245000, x245001, x245002 => if x32 = true then (some false) else (silversidelaw07_FindSums.l0 k x0 x5 0 0 0 x245000 x245001 x245002)
def silversidelaw07_FindSums.l0 : Nat → ByteArray → List Int → Int → Int → Int → ByteArray → List Int → List Int → Option (Bool)
 | 0, _, _, _, _, _, _, _, _ => none
 | k + 1, x0, x5, x6, x7, x8, x245000, x245001, x245002 => if x8 < (x5.length : Int) then (if 0 ≤ x8 then (silversidelaw07_FindSums.l0 k x0 x5 (wrap64 (x6 + (rd x5 x8))) (mx x7 (rd x5 x8)) (wrap64 (x8 + 1)) x245000 x245001 x245002) else (none)) else ((find_Index_Repeat.f k x245000 x245001 x245002).bind fun bt250 => (if x7 = 0 then (if bt250.1.toList = ([] : List UInt8) then (if bt250.2.1 = 0 then (if bt250.2.2 = 6 then ((find_Index_Distinct.f k x245000 x245001 x245002).bind fun t253 => (if t253 = (wrap64 (Int.tdiv (wrap64 ((x0.size : Int) * (wrap64 ((x0.size : Int) + 1)))) 2)) then ((silversidelaw07_awake.f k).bind fun t254 => (some t254)) else (some false))) else (some false)) else (some false)) else (some false)) else (if bt250.2.2 = 0 then (if (bt250.1.size : Int) = x7 then ((find_Index_Count.f x245000 x245001 x245002 bt250.1).bind fun t255 => (if bt250.2.1 = t255 then (if bt250.2.1 > 1 then ((find_Index_Distinct.f k x245000 x245001 x245002).bind fun t256 => (if x6 = (wrap64 ((wrap64 (Int.tdiv (wrap64 ((x0.size : Int) * (wrap64 ((x0.size : Int) + 1)))) 2)) - t256)) then ((silversidelaw07_awake.f k).bind fun t257 => (some t257)) else (some false))) else (some false)) else (some false))) else (some false)) else (some false))))
end
def silversidelaw07_FindSums.f (k : Nat) (a0 : ByteArray) : Option (Bool) := if 0 ≤ (mn (a0.size : Int) 1000) then (if (mn (a0.size : Int) 1000) ≤ (a0.size : Int) then ((find_New.f k (a0.extract 0 ((mn (a0.size : Int) 1000) : Int).toNat)).bind fun bt236 => ((find_Index_Overlaps.f bt236.1 bt236.2.1 bt236.2.2.1).bind fun t245 => (if bt236.2.2.2 = 0 then (silversidelaw07_FindSums.j0 k (a0.extract 0 ((mn (a0.size : Int) 1000) : Int).toNat) t245 ((t245.length : Int) != ((a0.extract 0 ((mn (a0.size : Int) 1000) : Int).toNat).size : Int)) bt236.1 bt236.2.1 bt236.2.2.1) else (silversidelaw07_FindSums.j0 k (a0.extract 0 ((mn (a0.size : Int) 1000) : Int).toNat) t245 true bt236.1 bt236.2.1 bt236.2.2.1)))) else (none)) else (none)
theorem silversidelaw07_FindSums.mono_l : ∀ k, (∀ y0 y1 y2 y3 y4 y5, LeO (silversidelaw07_FindSums.j0 k y0 y1 y2 y3 y4 y5) (silversidelaw07_FindSums.j0 (k + 1) y0 y1 y2 y3 y4 y5)) ∧ (∀ y0 y1 y2 y3 y4 y5 y6 y7, LeO (silversidelaw07_FindSums.l0 k y0 y1 y2 y3 y4 y5 y6 y7) (silversidelaw07_FindSums.l0 (k + 1) y0 y1 y2 y3 y4 y5 y6 y7))
 | 0 => ⟨fun _ _ _ _ _ _ r h => by simp [silversidelaw07_FindSums.j0] at h, fun _ _ _ _ _ _ _ _ r h => by simp [silversidelaw07_FindSums.l0] at h⟩
 | k + 1 => by
  obtain ⟨ih0, ih1⟩ := silversidelaw07_FindSums.mono_l k
  refine ⟨?_, ?_⟩
  ·intro y0 y1 y2 y3 y4 y5
   unfold silversidelaw07_FindSums.j0
   repeat' first
   | (with_reducible exact ih0 _ _ _ _ _ _)
   | (with_reducible exact ih1 _ _ _ _ _ _ _ _)
   | (with_reducible exact find_Index_Distinct.mono _ _ _ _)
   | (with_reducible exact find_Index_Repeat.mono _ _ _ _)
   | (with_reducible exact find_New.mono _ _)
   | (with_reducible exact silversidelaw07_awake.mono _)
   | (with_reducible exact LeO.refl _)
   | (with_reducible exact LeO.none _)
   | (with_reducible refine LeO.ite ?_ ?_)
   | (with_reducible refine LeO.bind ?_ (fun _ => ?_))
   | exact ih0 _ _ _ _ _ _
   | exact ih1 _ _ _ _ _ _ _ _
   | exact find_Index_Distinct.mono _ _ _ _
   | exact find_Index_Repeat.mono _ _ _ _
   | exact find_New.mono _ _
   | exact silversidelaw07_awake.mono _
   | exact LeO.none _
   | refine LeO.ite ?_ ?_
   | refine LeO.bind ?_ (fun _ => ?_)
  ·intro y0 y1 y2 y3 y4 y5 y6 y7
   unfold silversidelaw07_FindSums.l0
   repeat' first
   | (with_reducible exact ih0 _ _ _ _ _ _)
   | (with_reducible exact ih1 _ _ _ _ _ _ _ _)
   | (with_reducible exact find_Index_Distinct.mono _ _ _ _)
   | (with_reducible exact find_Index_Repeat.mono _ _ _ _)
   | (with_reducible exact find_New.mono _ _)
   | (with_reducible exact silversidelaw07_awake.mono _)
   | (with_reducible exact LeO.refl _)
   | (with_reducible exact LeO.none _)
   | (with_reducible refine LeO.ite ?_ ?_)
   | (with_reducible refine LeO.bind ?_ (fun _ => ?_))
   | exact ih0 _ _ _ _ _ _
   | exact ih1 _ _ _ _ _ _ _ _
   | exact find_Index_Distinct.mono _ _ _ _
   | exact find_Index_Repeat.mono _ _ _ _
   | exact find_New.mono _ _
   | exact silversidelaw07_awake.mono _
   | exact LeO.none _
   | refine LeO.ite ?_ ?_
   | refine LeO.bind ?_ (fun _ => ?_)
theorem silversidelaw07_FindSums.mono : ∀ a0 k, LeO (silversidelaw07_FindSums.f k a0) (silversidelaw07_FindSums.f (k + 1) a0) := by
 intro a0 k
 obtain ⟨ih0, ih1⟩ := silversidelaw07_FindSums.mono_l k
 unfold silversidelaw07_FindSums.f
 repeat' first
   | (with_reducible exact ih0 _ _ _ _ _ _)
   | (with_reducible exact ih1 _ _ _ _ _ _ _ _)
   | (with_reducible exact find_Index_Distinct.mono _ _ _ _)
   | (with_reducible exact find_Index_Repeat.mono _ _ _ _)
   | (with_reducible exact find_New.mono _ _)
   | (with_reducible exact silversidelaw07_awake.mono _)
   | (with_reducible exact LeO.refl _)
   | (with_reducible exact LeO.none _)
   | (with_reducible refine LeO.ite ?_ ?_)
   | (with_reducible refine LeO.bind ?_ (fun _ => ?_))
   | exact ih0 _ _ _ _ _ _
   | exact ih1 _ _ _ _ _ _ _ _
   | exact find_Index_Distinct.mono _ _ _ _
   | exact find_Index_Repeat.mono _ _ _ _
   | exact find_New.mono _ _
   | exact silversidelaw07_awake.mono _
   | exact LeO.none _
   | refine LeO.ite ?_ ?_
   | refine LeO.bind ?_ (fun _ => ?_)
set_option maxHeartbeats 8000000 in
set_option maxRecDepth 100000 in
theorem silversidelaw07_FindSums.calls (k : Nat) (a0 : ByteArray) (r : Bool) (w : World) (h : silversidelaw07_FindSums.f k a0 = some r) :
  Calls Try.prog 7 #[.string a0] w fun e w' => e = .returned (.bool r) ∧ Below w.heap.size w w' := by
 have hu24 := Try.underlying24
 have HB := Aside0.mk (Below.refl w.heap.size w)
 have H : (if 0 ≤ (mn (a0.size : Int) 1000) then (if (mn (a0.size : Int) 1000) ≤ (a0.size : Int) then ((find_New.f k (a0.extract 0 ((mn (a0.size : Int) 1000) : Int).toNat)).bind fun bt236 => ((find_Index_Overlaps.f bt236.1 bt236.2.1 bt236.2.2.1).bind fun t245 => (if bt236.2.2.2 = 0 then (silversidelaw07_FindSums.j0 k (a0.extract 0 ((mn (a0.size : Int) 1000) : Int).toNat) t245 ((t245.length : Int) != ((a0.extract 0 ((mn (a0.size : Int) 1000) : Int).toNat).size : Int)) bt236.1 bt236.2.1 bt236.2.2.1) else (silversidelaw07_FindSums.j0 k (a0.extract 0 ((mn (a0.size : Int) 1000) : Int).toNat) t245 true bt236.1 bt236.2.1 bt236.2.2.1)))) else (none)) else (none)) = some r := h
 clear h
 obtain ⟨ji2, hji2⟩ : ∃ j_ : Int, (mn (a0.size : Int) 1000) = j_ := ⟨_, rfl⟩
 replace H : (if 0 ≤ (ji2) then (if (ji2) ≤ (a0.size : Int) then ((find_New.f k (a0.extract 0 ((ji2) : Int).toNat)).bind fun bt236 => ((find_Index_Overlaps.f bt236.1 bt236.2.1 bt236.2.2.1).bind fun t245 => (if bt236.2.2.2 = 0 then (silversidelaw07_FindSums.j0 k (a0.extract 0 ((ji2) : Int).toNat) t245 ((t245.length : Int) != ((a0.extract 0 ((ji2) : Int).toNat).size : Int)) bt236.1 bt236.2.1 bt236.2.2.1) else (silversidelaw07_FindSums.j0 k (a0.extract 0 ((ji2) : Int).toNat) t245 true bt236.1 bt236.2.1 bt236.2.2.1)))) else (none)) else (none)) = some r := by first | (rw [hji2] at H; exact H) | (simp only [hji2] at H ⊢; exact H)
 (try (have hji2h : ji2 ≤ 1000 := by (rw [← hji2]; unfold mn; (repeat' split) <;> omega)))
 (try (have hji2g : ji2 ≤ 64 := by omega))
 (try (have hji2l : 0 ≤ ji2 := by (rw [← hji2]; unfold mn; (repeat' split) <;> omega)))
 (try (have hji2m : 0 ≤ ji2 := by omega))
 have hji2_ : (if 1000 < (a0.size : Int) then 1000 else (a0.size : Int)) = ji2 := hji2
 by_cases c3 : 0 ≤ (ji2)
 ·rw [if_pos c3] at H
  have c3b0 := eq_true c3
  have c3b1 : decide (0 ≤ (ji2)) = true := decide_eq_true c3
  clear c3
  by_cases c4 : (ji2) ≤ (a0.size : Int)
  ·rw [if_pos c4] at H
   have c4b0 := eq_true c4
   have c4b1 : decide ((ji2) ≤ (a0.size : Int)) = true := decide_eq_true c4
   clear c4
   obtain ⟨sa0_, hsa0_⟩ : ∃ s_ : ByteArray, a0.extract 0 ((ji2) : Int).toNat = s_ := ⟨_, rfl⟩
   rw [hsa0_] at H
   have hsa0_z : (a0.extract 0 ((ji2) : Int).toNat).size = min ((ji2) : Int).toNat a0.size - 0 := ByteArray.size_extract
   rw [hsa0_] at hsa0_z
   replace hsa0_z : sa0_.size ≤ 4096 := by omega
   have hsa0_w : wrap64 ((sa0_.size : Int) + 1) = (sa0_.size : Int) + 1 := by unfold wrap64; omega
   replace H := Option.bind_eq_some_iff.mp H
   obtain ⟨⟨t236, t237, t240, t243⟩, A50, H⟩ := H
   replace H : ((find_Index_Overlaps.f t236 t237 t240).bind fun t245 => (if t243 = 0 then (silversidelaw07_FindSums.j0 k sa0_ t245 ((t245.length : Int) != (sa0_.size : Int)) t236 t237 t240) else (silversidelaw07_FindSums.j0 k sa0_ t245 true t236 t237 t240))) = some r := H
   have A5 := Aside0.mk A50
   clear A50
   replace H := Option.bind_eq_some_iff.mp H
   obtain ⟨t245, A60, H⟩ := H
   replace H : (if t243 = 0 then (silversidelaw07_FindSums.j0 k sa0_ t245 ((t245.length : Int) != (sa0_.size : Int)) t236 t237 t240) else (silversidelaw07_FindSums.j0 k sa0_ t245 true t236 t237 t240)) = some r := H
   have A6 := Aside0.mk A60
   clear A60
   have HC7 := Aside0.mk H
   clear H
   go_enter Try.func7, Try.ntmps7
   go_upto_region 4 with (first | ((with_reducible refine gate_callee (f := 16) rfl ?_); refine goesL_ (some 19) rfl rfl Try.func16 (by kernel_rfl) rfl #[.string sa0_] rfl (by (try simp only [List.map_toArray, List.map_cons, List.map_nil]); first | done | (rw [hsa0_w]; rfl) | (simp only [hji2]; rfl) | rfl | (simp only [List.length_drop, List.length_take]; rfl)) ?_; (with_reducible refine (find_New.calls k sa0_ t236 t237 t240 t243 _ A5.out).mono ?_); rintro e w8 ⟨v238, v241, rfl, ho0, ho1, hb⟩; refine ⟨_, rfl, ?_⟩; have n0_ := Aside0.mk (Kd.R_lower ho0 (below_size (by repeat (first | (with_reducible first | exact HB.out | apply below_alloc | apply pw_below_drewN | apply below_drew1) | exact HB.out)))); have n1_ := Aside0.mk (Kd.R_lower ho1 (below_size (by repeat (first | (with_reducible first | exact HB.out | apply below_alloc | apply pw_below_drewN | apply below_drew1) | exact HB.out)))); have n2_ := Aside0.mk (below_step (by repeat (first | (with_reducible first | exact HB.out | apply below_alloc | apply pw_below_drewN | apply below_drew1) | exact HB.out)) hb); clear HB; have HO239 := n0_; have HO242 := n1_; have HB := n2_; clear n0_ n1_ n2_; (try clear hb); (try clear hb2); (try clear hk); (try clear hi); (try clear ho0); (try clear ho1)) | ((with_reducible refine gate_dst (N := 3) rfl ?_); (try (refine gate_guard (by rfl) ?_; dsimp only)); refine box_event ?hg (N := 3) ?hd (cs := #[.string (⟨#[]⟩ : ByteArray), .slice none 0 0, .slice none 0 0]) (t := 24) ?hr ?_; (case hd => rfl); (case hg => rfl); (case hr => first | (go_simp; done) | (go_simp; rfl)); intro gb244 hg w9 hbox hb; have n0_ := Aside0.mk (Kd.R_below (by (with_reducible repeat (first | apply Kd.R_alloc | apply Kd.R_drewN | apply Kd.R_drew)); exact HO239.out) hb); have n1_ := Aside0.mk (Kd.R_below (by (with_reducible repeat (first | apply Kd.R_alloc | apply Kd.R_drewN | apply Kd.R_drew)); exact HO242.out) hb); have n2_ := Aside0.mk (below_step (by repeat (first | (with_reducible first | exact HB.out | apply below_alloc | apply pw_below_drewN | apply below_drew1) | exact HB.out)) hb); have n3_ := Aside0.mk (hbox); have n4_ := Aside0.mk ((by rw [hg]; exact (below_size (by repeat (first | (with_reducible first | exact HB.out | apply below_alloc | apply pw_below_drewN | apply below_drew1) | exact HB.out))) : w.heap.size ≤ gb244)); have n5_ := Aside0.mk ((by rw [hg]; exact (below_size (by repeat (first | (with_reducible first | exact HB.out | apply below_alloc | apply pw_below_drewN | apply below_drew1) | exact HB.out))) : w.heap.size ≤ gb244)); clear HO239; clear HO242; clear HB; have HO239 := n0_; have HO242 := n1_; have HB := n2_; have BK244 := n3_; have GW244 := n4_; have GE244 := n5_; clear n0_ n1_ n2_ n3_ n4_ n5_; clear hb hbox hg; have hcz10_0 : w9.cell? ⟨gb244, 0, none⟩ = some (.string (⟨#[]⟩ : ByteArray)) := (blk_cell BK244.out 0).trans rfl; have hcz10_1 : w9.cell? ⟨gb244, 1, none⟩ = some (.slice none 0 0) := (blk_cell BK244.out 1).trans rfl; have hcz10_2 : w9.cell? ⟨gb244, 2, none⟩ = some (.slice none 0 0) := (blk_cell BK244.out 2).trans rfl; have hfz10_0 := blk_frozen BK244.out 0; have hfz10_1 := blk_frozen BK244.out 1; have hfz10_2 := blk_frozen BK244.out 2; obtain ⟨Ao11, co11, eo11⟩ := Kd.R_slice HO239.out; subst eo11; obtain ⟨Ao12, co12, eo12⟩ := Kd.R_slice HO242.out; subst eo12) | ((with_reducible refine gate_callee (f := 28) rfl ?_); refine goesL_ (some 23) rfl rfl Try.func28 (by kernel_rfl) rfl #[.agg #[.string t236, .slice Ao11 t237.length co11, .slice Ao12 t240.length co12]] rfl (by (try simp only [List.map_toArray, List.map_cons, List.map_nil]); first | done | rfl | (simp only [List.length_drop, List.length_take]; rfl)) ?_; (with_reducible refine (find_Index_Overlaps.calls t236 _ _ t237 _ _ t240 t245 _ ?side1 ?side2 ?side3 ?side4 A6.out).mono ?_); (case side1 => refine (Kd.R_reads' (e := 3) (base := w.heap.size) (ok := fun k_ => some k_ ≠ (.slice Ao12 t240.length co12 : Value).ownBlock) (n := t237.length) (c := co11) ?_).2.2; exact (by (with_reducible repeat (first | apply Kd.R_alloc | apply Kd.R_drewN | apply Kd.R_drew)); exact (Kd.R_mono (Kd.R_far (p := ⟨gb244, 2, none⟩) (Kd.R_far (p := ⟨gb244, 1, none⟩) (Kd.R_far (p := ⟨gb244, 0, none⟩) (Kd.R_types HO239.out BK244.out (by decide)) (fun _ hk => hk.2) (.string t236)) (fun _ hk => hk.2) (.slice Ao11 t237.length co11)) (fun _ hk => hk.2) (.slice Ao12 t240.length co12)) (fun _ h_ => h_.1)))); (case side2 => exact (Kd.R_reads' HO239.out).2.1); (case side3 => refine (Kd.R_reads' (e := 3) (base := w.heap.size) (ok := fun k_ => some k_ ≠ (.slice Ao11 t237.length co11 : Value).ownBlock) (n := t240.length) (c := co12) ?_).2.2; exact (by (with_reducible repeat (first | apply Kd.R_alloc | apply Kd.R_drewN | apply Kd.R_drew)); exact (Kd.R_mono (Kd.R_far (p := ⟨gb244, 2, none⟩) (Kd.R_far (p := ⟨gb244, 1, none⟩) (Kd.R_far (p := ⟨gb244, 0, none⟩) (Kd.R_types HO242.out BK244.out (by decide)) (fun _ hk => hk.2) (.string t236)) (fun _ hk => hk.2) (.slice Ao11 t237.length co11)) (fun _ hk => hk.2) (.slice Ao12 t240.length co12)) (fun _ h_ => h_.1)))); (case side4 => exact (Kd.R_reads' HO242.out).2.1); rintro e w13 ⟨v246, rfl, ho0, hb⟩; refine ⟨_, rfl, ?_⟩; have n0_ := Aside0.mk (Kd.R_elder' (by (with_reducible repeat (first | apply Kd.R_alloc | apply Kd.R_drewN | apply Kd.R_drew)); exact (Kd.R_mono (Kd.R_far (p := ⟨gb244, 2, none⟩) (Kd.R_far (p := ⟨gb244, 1, none⟩) (Kd.R_far (p := ⟨gb244, 0, none⟩) (Kd.R_types HO239.out BK244.out (by decide)) (fun _ hk => hk.2) (.string t236)) (fun _ hk => hk.2) (.slice Ao11 t237.length co11)) (fun _ hk => hk.2) (.slice Ao12 t240.length co12)) (fun _ h_ => h_.1))) (Kd.R_base ho0) hb); have n1_ := Aside0.mk (Kd.R_elder' (by (with_reducible repeat (first | apply Kd.R_alloc | apply Kd.R_drewN | apply Kd.R_drew)); exact (Kd.R_mono (Kd.R_far (p := ⟨gb244, 2, none⟩) (Kd.R_far (p := ⟨gb244, 1, none⟩) (Kd.R_far (p := ⟨gb244, 0, none⟩) (Kd.R_types HO242.out BK244.out (by decide)) (fun _ hk => hk.2) (.string t236)) (fun _ hk => hk.2) (.slice Ao11 t237.length co11)) (fun _ hk => hk.2) (.slice Ao12 t240.length co12)) (fun _ h_ => h_.1))) (Kd.R_base ho0) hb); have n2_ := Aside0.mk (Kd.R_lower (Kd.R_new' (Kd.R_new' ho0 (Kd.R_lt (by (with_reducible repeat (first | apply Kd.R_alloc | apply Kd.R_drewN | apply Kd.R_drew)); exact (Kd.R_mono (Kd.R_far (p := ⟨gb244, 2, none⟩) (Kd.R_far (p := ⟨gb244, 1, none⟩) (Kd.R_far (p := ⟨gb244, 0, none⟩) (Kd.R_types HO239.out BK244.out (by decide)) (fun _ hk => hk.2) (.string t236)) (fun _ hk => hk.2) (.slice Ao11 t237.length co11)) (fun _ hk => hk.2) (.slice Ao12 t240.length co12)) (fun _ h_ => h_.1))))) (Kd.R_lt (by (with_reducible repeat (first | apply Kd.R_alloc | apply Kd.R_drewN | apply Kd.R_drew)); exact (Kd.R_mono (Kd.R_far (p := ⟨gb244, 2, none⟩) (Kd.R_far (p := ⟨gb244, 1, none⟩) (Kd.R_far (p := ⟨gb244, 0, none⟩) (Kd.R_types HO242.out BK244.out (by decide)) (fun _ hk => hk.2) (.string t236)) (fun _ hk => hk.2) (.slice Ao11 t237.length co11)) (fun _ hk => hk.2) (.slice Ao12 t240.length co12)) (fun _ h_ => h_.1))))) (below_size (by repeat (first | (with_reducible first | exact HB.out | apply below_alloc | apply pw_below_drewN | apply below_drew1 | refine below_set ?_ GE244.out) | exact HB.out)))); have n3_ := Aside0.mk (blk_below (g := gb244) (o := .cells #[.string t236, .slice Ao11 t237.length co11, .slice Ao12 t240.length co12] 24 (0, 0)) (by (with_reducible repeat (first | refine blk_drewN ?_ _ | refine blk_drew ?_ | refine blk_alloc ?_ _)); refine blk_put (cs := #[.string t236, .slice Ao11 t237.length co11, .slice none 0 0]) ?_ 2 _ rfl; (with_reducible repeat (first | refine blk_drewN ?_ _ | refine blk_drew ?_ | refine blk_alloc ?_ _)); refine blk_put (cs := #[.string t236, .slice none 0 0, .slice none 0 0]) ?_ 1 _ rfl; (with_reducible repeat (first | refine blk_drewN ?_ _ | refine blk_drew ?_ | refine blk_alloc ?_ _)); refine blk_put (cs := #[.string (⟨#[]⟩ : ByteArray), .slice none 0 0, .slice none 0 0]) ?_ 0 _ rfl; (with_reducible repeat (first | refine blk_drewN ?_ _ | refine blk_drew ?_ | refine blk_alloc ?_ _)); exact BK244.out) hb); have n4_ := Aside0.mk (below_step (by repeat (first | (with_reducible first | exact HB.out | apply below_alloc | apply pw_below_drewN | apply below_drew1 | refine below_set ?_ GE244.out) | exact HB.out)) hb); clear HO239; clear HO242; clear BK244; clear HB; have HO239 := n0_; have HO242 := n1_; have HO247 := n2_; have BK244 := n3_; have HB := n4_; clear n0_ n1_ n2_ n3_ n4_; (try clear hb); (try clear hb2); (try clear hk); (try clear hi); (try clear ho0)))
   (try simp only [Act.put, List.setIfInBounds_toArray, List.set_cons_zero, List.set_cons_succ])
   go_cut [32] (fun v32 wc => ∃ (kq : Nat) (x32_6 : Bool), v32 = .bool x32_6 ∧ Aside0 (silversidelaw07_FindSums.j0 kq sa0_ t245 x32_6 t236 t237 t240 = some r) ∧ Aside0 (kq ≤ k) ∧ Aside0 (Kd.R (Kd.int .i64) 3 wc w.heap.size (fun k_ => some k_ ≠ ((.slice Ao11 t237.length co11) : Value).ownBlock ∧ some k_ ≠ ((.slice Ao12 t240.length co12) : Value).ownBlock) v246 t245) ∧ Aside0 (Kd.R (Kd.int .i64) 3 wc w.heap.size (fun k_ => some k_ ≠ (v246 : Value).ownBlock ∧ some k_ ≠ ((.slice Ao12 t240.length co12) : Value).ownBlock) (.slice Ao11 t237.length co11) t237) ∧ Aside0 (Kd.R (Kd.int .i64) 3 wc w.heap.size (fun k_ => some k_ ≠ (v246 : Value).ownBlock ∧ some k_ ≠ ((.slice Ao11 t237.length co11) : Value).ownBlock) (.slice Ao12 t240.length co12) t240) ∧ Aside0 (wc.heap[gb244]? = some (.cells #[.string t236, (.slice Ao11 t237.length co11), (.slice Ao12 t240.length co12)] 24 (0, 0))) ∧ Aside0 (Below w.heap.size w wc))
   case first =>
    have H := HC7.out
    clear HC7
    by_cases c14 : t243 = 0
    ·rw [if_pos c14] at H
     have c14b0 : (t243 == 0) = true := beq_iff_eq.mpr c14
     have c14b1 : (t243 != 0) = false := bne_eq_false_iff_eq.mpr c14
     clear c14
     (first | rw [c14b0] | (simp only [i64_w, i32_w]; rw [c14b0]) | rw [c14b1] | skip)
     have H' := Aside0.mk H
     clear H
     obtain ⟨Ao15, co15, eo15⟩ := Kd.R_slice HO247.out
     subst eo15
     go_wp2
     go_meet
     case rel => exact ⟨_, (((t245.length : Int) != (sa0_.size : Int))), (by first | rfl | (simp; done) | (simp only [← hji2] <;> (first | rfl | simp)) | (simp [*]; done)), H', ⟨by first | omega | exact Nat.le_refl _⟩, ⟨by (with_reducible repeat (first | apply Kd.R_alloc | apply Kd.R_drewN | apply Kd.R_drew)); exact Kd.R_mono HO247.out (fun _ hk => ⟨hk.1.2, hk.2⟩)⟩, ⟨by (with_reducible repeat (first | apply Kd.R_alloc | apply Kd.R_drewN | apply Kd.R_drew)); exact Kd.R_mono HO239.out (fun _ hk => ⟨hk.2, hk.1⟩)⟩, ⟨by (with_reducible repeat (first | apply Kd.R_alloc | apply Kd.R_drewN | apply Kd.R_drew)); exact Kd.R_mono HO242.out (fun _ hk => ⟨hk.2, hk.1⟩)⟩, ⟨by (with_reducible repeat (first | refine blk_drewN ?_ _ | refine blk_drew ?_ | refine blk_alloc ?_ _)); exact BK244.out⟩, ⟨by repeat (first | (with_reducible first | exact HB.out | apply below_alloc | apply pw_below_drewN | apply below_drew1 | refine below_set ?_ GE244.out) | exact HB.out)⟩⟩
    ·rw [if_neg c14] at H
     have c14b0 : (t243 == 0) = false := beq_eq_false_iff_ne.mpr c14
     have c14b1 : (t243 != 0) = true := bne_iff_ne.mpr c14
     (first | rw [c14b0] | (simp only [i64_w, i32_w]; rw [c14b0]) | rw [c14b1] | skip)
     have H' := Aside0.mk H
     clear H
     go_wp2
     go_meet
     case rel => exact ⟨_, (true), (by first | rfl | (simp; done) | (simp [*]; done)), H', ⟨by first | omega | exact Nat.le_refl _⟩, ⟨by (with_reducible repeat (first | apply Kd.R_alloc | apply Kd.R_drewN | apply Kd.R_drew)); exact Kd.R_mono HO247.out (fun _ hk => ⟨hk.1.2, hk.2⟩)⟩, ⟨by (with_reducible repeat (first | apply Kd.R_alloc | apply Kd.R_drewN | apply Kd.R_drew)); exact Kd.R_mono HO239.out (fun _ hk => ⟨hk.2, hk.1⟩)⟩, ⟨by (with_reducible repeat (first | apply Kd.R_alloc | apply Kd.R_drewN | apply Kd.R_drew)); exact Kd.R_mono HO242.out (fun _ hk => ⟨hk.2, hk.1⟩)⟩, ⟨by (with_reducible repeat (first | refine blk_drewN ?_ _ | refine blk_drew ?_ | refine blk_alloc ?_ _)); exact BK244.out⟩, ⟨by repeat (first | (with_reducible first | exact HB.out | apply below_alloc | apply pw_below_drewN | apply below_drew1 | refine below_set ?_ GE244.out) | exact HB.out)⟩⟩
   case rest =>
    clear HC7
    try clear c1
    try clear c2
    try clear p2
    try clear c3
    try clear c3b0
    try clear c3b1
    try clear c4
    try clear c4b0
    try clear c4b1
    try clear c7
    try clear c14
    try clear c14b0
    try clear c14b1
    try clear hcz10_0
    try clear hcz10_1
    try clear hcz10_2
    try clear hfz10_0
    try clear hfz10_1
    try clear hfz10_2
    obtain ⟨kq, x32_6, rfl, HA, HJ6, HO_5, HO_245001, HO_245002, BK244, HB⟩ := hcut
    cases kq with
    | zero => exact absurd HA.out (by simp [silversidelaw07_FindSums.j0])
    | succ kj6 =>
     have H := HA.out
     clear HA
     simp only [silversidelaw07_FindSums.j0] at H
     by_cases c16 : x32_6 = true
     ·subst c16
      have H1 : (some false) = some r := by rw [if_pos rfl] at H; exact H
      clear H
      have H := H1
      clear H1
      obtain rfl := Option.some.inj H
      go_wp2
      go_ret
      exact ⟨by first | rfl | (simp [errW_none, errW_some] <;> rfl) | (simp only [← hji2]; first | rfl | (simp [errW_none, errW_some] <;> rfl)) | (simp [*, errW_none, errW_some] <;> rfl), by repeat (first | (with_reducible first | exact HB.out | apply below_alloc | apply pw_below_drewN | apply below_drew1 | refine below_set ?_ GE244.out) | exact HB.out)⟩
     ·replace c16 := Bool.eq_false_iff.mpr c16
      subst c16
      have H1 : (silversidelaw07_FindSums.l0 kj6 sa0_ t245 0 0 0 t236 t237 t240) = some r := by rw [if_neg (show ¬ (false = true) by decide)] at H; exact H
      clear H
      have H := H1
      clear H1
      have H' := Aside0.mk H
      clear H
      go_wp2
      go_loopg [6, 7, 8] kj6 (fun kq v6 v7 v8 w' => ∃ (x6_2 : Int) (x7_2 : Int) (x8_2 : Int), v6 = .int .i64 x6_2 ∧ v7 = .int .i64 x7_2 ∧ v8 = .int .i64 x8_2 ∧ Aside0 (silversidelaw07_FindSums.l0 kq sa0_ t245 x6_2 x7_2 x8_2 t236 t237 t240 = some r) ∧ Aside0 (kq ≤ kj6) ∧ Aside0 (Kd.R (Kd.int .i64) 3 w' w.heap.size (fun k_ => some k_ ≠ ((.slice Ao11 t237.length co11) : Value).ownBlock ∧ some k_ ≠ ((.slice Ao12 t240.length co12) : Value).ownBlock) v246 t245) ∧ Aside0 (Kd.R (Kd.int .i64) 3 w' w.heap.size (fun k_ => some k_ ≠ (v246 : Value).ownBlock ∧ some k_ ≠ ((.slice Ao12 t240.length co12) : Value).ownBlock) (.slice Ao11 t237.length co11) t237) ∧ Aside0 (Kd.R (Kd.int .i64) 3 w' w.heap.size (fun k_ => some k_ ≠ (v246 : Value).ownBlock ∧ some k_ ≠ ((.slice Ao11 t237.length co11) : Value).ownBlock) (.slice Ao12 t240.length co12) t240) ∧ Aside0 (w'.heap[gb244]? = some (.cells #[.string t236, (.slice Ao11 t237.length co11), (.slice Ao12 t240.length co12)] 24 (0, 0))) ∧ Aside0 (Below w.heap.size w w'))
      case atStart => exact ⟨(0), (0), (0), (by first | rfl | (simp; done) | (simp [*]; done)), (by first | rfl | (simp; done) | (simp [*]; done)), (by first | rfl | (simp; done) | (simp [*]; done)), H', ⟨Nat.le_refl _⟩, ⟨by (with_reducible repeat (first | apply Kd.R_alloc | apply Kd.R_drewN | apply Kd.R_drew)); exact HO_5.out⟩, ⟨by (with_reducible repeat (first | apply Kd.R_alloc | apply Kd.R_drewN | apply Kd.R_drew)); exact HO_245001.out⟩, ⟨by (with_reducible repeat (first | apply Kd.R_alloc | apply Kd.R_drewN | apply Kd.R_drew)); exact HO_245002.out⟩, ⟨by (with_reducible repeat (first | refine blk_drewN ?_ _ | refine blk_drew ?_ | refine blk_alloc ?_ _)); exact BK244.out⟩, ⟨by repeat (first | (with_reducible first | exact HB.out | apply below_alloc | apply pw_below_drewN | apply below_drew1 | refine below_set ?_ GE244.out) | exact HB.out)⟩⟩
      case round =>
       clear H'
       try clear c1
       try clear c2
       try clear p2
       try clear c3
       try clear c3b0
       try clear c3b1
       try clear c4
       try clear c4b0
       try clear c4b1
       try clear c7
       try clear c14
       try clear c14b0
       try clear c14b1
       try clear c16
       try clear hcz10_0
       try clear hcz10_1
       try clear hcz10_2
       try clear hfz10_0
       try clear hfz10_1
       try clear hfz10_2
       try clear p2
       obtain ⟨x6_2, x7_2, x8_2, rfl, rfl, rfl, HA, HK2, HO_5, HO_245001, HO_245002, BK244, HB⟩ := hrel
       cases gk with
       | zero => exact absurd HA.out (by simp [silversidelaw07_FindSums.l0])
       | succ k2 =>
        have H := HA.out
        clear HA
        simp only [silversidelaw07_FindSums.l0] at H
        by_cases c17 : x8_2 < (t245.length : Int)
        ·rw [if_pos c17] at H
         have c17b0 : decide (x8_2 < (t245.length : Int)) = true := decide_eq_true c17
         clear c17
         by_cases c18 : 0 ≤ x8_2
         ·rw [if_pos c18] at H
          have c18b0 : decide (0 ≤ x8_2) = true := decide_eq_true c18
          clear c18
          obtain ⟨ji19, hji19⟩ : ∃ j_ : Int, (mx x7_2 (rd t245 x8_2)) = j_ := ⟨_, rfl⟩
          replace H : (silversidelaw07_FindSums.l0 k2 sa0_ t245 (wrap64 (x6_2 + (rd t245 x8_2))) ji19 (wrap64 (x8_2 + 1)) t236 t237 t240) = some r := by first | (rw [hji19] at H; exact H) | (simp only [hji19] at H ⊢; exact H)
          have hji19_ : (if x7_2 < (rd t245 x8_2) then (rd t245 x8_2) else x7_2) = ji19 := hji19
          have H' := Aside0.mk H
          clear H
          obtain ⟨Ao20, co20, eo20⟩ := Kd.R_slice HO_5.out
          subst eo20
          have p248 : 0 ≤ (x8_2 : Int) := of_decide_eq_true (by first | (with_reducible assumption) | assumption)
          have q248 : x8_2 < (t245.length : Int) := of_decide_eq_true (by first | (with_reducible assumption) | assumption)
          obtain ⟨ad248, e248, hx248_0⟩ := Kd.at_int (Kd.R_reads' HO_5.out).2.2 x8_2 p248 q248
          cases e248
          replace p248 := eq_true p248
          replace q248 := eq_true q248
          have p249 : 0 ≤ (x8_2 : Int) := of_decide_eq_true (by first | (with_reducible assumption) | assumption)
          have q249 : x8_2 < (t245.length : Int) := of_decide_eq_true (by first | (with_reducible assumption) | assumption)
          obtain ⟨ad249, e249, hx249_0⟩ := Kd.at_int (Kd.R_reads' HO_5.out).2.2 x8_2 p249 q249
          obtain rfl : ad248 = ad249 := (by injection e249)
          replace p249 := eq_true p249
          replace q249 := eq_true q249
          go_wp2
          go_roundg k2
          case measure => have := HJ6.out; have := HK2.out; omega
          case rel => exact ⟨(wrap64 (x6_2 + (rd t245 x8_2))), (ji19), (wrap64 (x8_2 + 1)), (by first | rfl | (simp; done) | (simp [*]; done)), (by first | rfl | (simp; done) | (simp only [← hji19] <;> (first | rfl | simp)) | (simp [*]; done)), (by first | rfl | (simp; done) | (simp [*]; done)), H', ⟨by have := HJ6.out; have := HK2.out; omega⟩, ⟨by (with_reducible repeat (first | apply Kd.R_alloc | apply Kd.R_drewN | apply Kd.R_drew)); exact HO_5.out⟩, ⟨by (with_reducible repeat (first | apply Kd.R_alloc | apply Kd.R_drewN | apply Kd.R_drew)); exact HO_245001.out⟩, ⟨by (with_reducible repeat (first | apply Kd.R_alloc | apply Kd.R_drewN | apply Kd.R_drew)); exact HO_245002.out⟩, ⟨by (with_reducible repeat (first | refine blk_drewN ?_ _ | refine blk_drew ?_ | refine blk_alloc ?_ _)); exact BK244.out⟩, ⟨by repeat (first | (with_reducible first | exact HB.out | apply below_alloc | apply pw_below_drewN | apply below_drew1 | refine below_set ?_ GE244.out) | exact HB.out)⟩⟩
         ·rw [if_neg c18] at H
          exact absurd H (by simp)
        ·rw [if_neg c17] at H
         have c17b0 : decide (x8_2 < (t245.length : Int)) = false := decide_eq_false c17
         clear c17
         replace H := Option.bind_eq_some_iff.mp H
         obtain ⟨⟨t250, t251, t252⟩, A210, H⟩ := H
         replace H : (if x7_2 = 0 then (if t250.toList = ([] : List UInt8) then (if t251 = 0 then (if t252 = 6 then ((find_Index_Distinct.f k2 t236 t237 t240).bind fun t253 => (if t253 = (wrap64 (Int.tdiv (wrap64 ((sa0_.size : Int) * (wrap64 ((sa0_.size : Int) + 1)))) 2)) then ((silversidelaw07_awake.f k2).bind fun t254 => (some t254)) else (some false))) else (some false)) else (some false)) else (some false)) else (if t252 = 0 then (if (t250.size : Int) = x7_2 then ((find_Index_Count.f t236 t237 t240 t250).bind fun t255 => (if t251 = t255 then (if t251 > 1 then ((find_Index_Distinct.f k2 t236 t237 t240).bind fun t256 => (if x6_2 = (wrap64 ((wrap64 (Int.tdiv (wrap64 ((sa0_.size : Int) * (wrap64 ((sa0_.size : Int) + 1)))) 2)) - t256)) then ((silversidelaw07_awake.f k2).bind fun t257 => (some t257)) else (some false))) else (some false)) else (some false))) else (some false)) else (some false))) = some r := H
         have A21 := Aside0.mk A210
         clear A210
         by_cases c22 : x7_2 = 0
         ·rw [if_pos c22] at H
          have c22b0 : (x7_2 == 0) = true := beq_iff_eq.mpr c22
          have c22b1 : (x7_2 != 0) = false := bne_eq_false_iff_eq.mpr c22
          clear c22
          by_cases c23 : t250.toList = ([] : List UInt8)
          ·rw [if_pos c23] at H
           have c23b0 : (t250.toList == ([] : List UInt8)) = true := beq_iff_eq.mpr c23
           have c23b1 : (t250.toList != ([] : List UInt8)) = false := bne_eq_false_iff_eq.mpr c23
           clear c23
           by_cases c24 : t251 = 0
           ·rw [if_pos c24] at H
            have c24b0 : (t251 == 0) = true := beq_iff_eq.mpr c24
            have c24b1 : (t251 != 0) = false := bne_eq_false_iff_eq.mpr c24
            clear c24
            by_cases c25 : t252 = 6
            ·rw [if_pos c25] at H
             have c25b0 : (t252 == 6) = true := beq_iff_eq.mpr c25
             have c25b1 : (t252 != 6) = false := bne_eq_false_iff_eq.mpr c25
             clear c25
             replace H := Option.bind_eq_some_iff.mp H
             obtain ⟨t253, A260, H⟩ := H
             replace H : (if t253 = (wrap64 (Int.tdiv (wrap64 ((sa0_.size : Int) * (wrap64 ((sa0_.size : Int) + 1)))) 2)) then ((silversidelaw07_awake.f k2).bind fun t254 => (some t254)) else (some false)) = some r := H
             have A26 := Aside0.mk A260
             clear A260
             by_cases c27 : t253 = (wrap64 (Int.tdiv (wrap64 ((sa0_.size : Int) * (wrap64 ((sa0_.size : Int) + 1)))) 2))
             ·rw [if_pos c27] at H
              have c27b0 : (t253 == (wrap64 (Int.tdiv (wrap64 ((sa0_.size : Int) * (wrap64 ((sa0_.size : Int) + 1)))) 2))) = true := beq_iff_eq.mpr c27
              have c27b0w : (t253 == (wrap64 (Int.tdiv (wrap64 ((sa0_.size : Int) * ((sa0_.size : Int) + 1))) 2))) = true := by rw [← hsa0_w]; exact c27b0
              have c27b1 : (t253 != (wrap64 (Int.tdiv (wrap64 ((sa0_.size : Int) * (wrap64 ((sa0_.size : Int) + 1)))) 2))) = false := bne_eq_false_iff_eq.mpr c27
              have c27b1w : (t253 != (wrap64 (Int.tdiv (wrap64 ((sa0_.size : Int) * ((sa0_.size : Int) + 1))) 2))) = false := by rw [← hsa0_w]; exact c27b1
              clear c27
              replace H := Option.bind_eq_some_iff.mp H
              obtain ⟨t254, A280, H⟩ := H
              replace H : (some t254) = some r := H
              have A28 := Aside0.mk A280
              clear A280
              obtain rfl := Option.some.inj H
              obtain ⟨Ao29, co29, eo29⟩ := Kd.R_slice HO_5.out
              subst eo29
              have hcz30_0 : wr.cell? ⟨gb244, 0, none⟩ = some (.string t236) := (blk_cell BK244.out 0).trans rfl
              have hcz30_1 : wr.cell? ⟨gb244, 1, none⟩ = some (.slice Ao11 t237.length co11) := (blk_cell BK244.out 1).trans rfl
              have hcz30_2 : wr.cell? ⟨gb244, 2, none⟩ = some (.slice Ao12 t240.length co12) := (blk_cell BK244.out 2).trans rfl
              have hfz30_0 := blk_frozen BK244.out 0
              have hfz30_1 := blk_frozen BK244.out 1
              have hfz30_2 := blk_frozen BK244.out 2
              go_wp2_with (first | ((with_reducible refine gate_callee (f := 17) rfl ?_); refine goesL_ (some 53) rfl rfl Try.func17 (by kernel_rfl) rfl #[.agg #[.string t236, .slice Ao11 t237.length co11, .slice Ao12 t240.length co12]] rfl (by (try simp only [List.map_toArray, List.map_cons, List.map_nil]); first | done | rfl | (simp only [List.length_drop, List.length_take]; rfl)) ?_; (with_reducible refine (find_Index_Repeat.calls k2 t236 _ _ t237 _ _ t240 t250 t251 t252 _ ?side1 ?side2 ?side3 ?side4 A21.out).mono ?_); (case side1 => repeat (first | exact (Kd.R_reads' HO_245001.out).2.2 | (with_reducible refine Kd.C_alloc ?_ _) | (with_reducible refine Kd.C_drewN ?_ _) | (with_reducible refine Kd.C_drew ?_))); (case side2 => exact (Kd.R_reads' HO_245001.out).2.1); (case side3 => repeat (first | exact (Kd.R_reads' HO_245002.out).2.2 | (with_reducible refine Kd.C_alloc ?_ _) | (with_reducible refine Kd.C_drewN ?_ _) | (with_reducible refine Kd.C_drew ?_))); (case side4 => exact (Kd.R_reads' HO_245002.out).2.1); rintro e w31 ⟨rfl, hb⟩; refine ⟨_, rfl, ?_⟩; have n0_ := Aside0.mk (Kd.R_below (by (with_reducible repeat (first | apply Kd.R_alloc | apply Kd.R_drewN | apply Kd.R_drew)); exact HO_5.out) hb); have n1_ := Aside0.mk (Kd.R_below (by (with_reducible repeat (first | apply Kd.R_alloc | apply Kd.R_drewN | apply Kd.R_drew)); exact HO_245001.out) hb); have n2_ := Aside0.mk (Kd.R_below (by (with_reducible repeat (first | apply Kd.R_alloc | apply Kd.R_drewN | apply Kd.R_drew)); exact HO_245002.out) hb); have n3_ := Aside0.mk (blk_below (g := gb244) (o := .cells #[.string t236, .slice Ao11 t237.length co11, .slice Ao12 t240.length co12] 24 (0, 0)) (by (with_reducible repeat (first | refine blk_drewN ?_ _ | refine blk_drew ?_ | refine blk_alloc ?_ _)); exact BK244.out) hb); have n4_ := Aside0.mk (below_step (by repeat (first | (with_reducible first | exact HB.out | apply below_alloc | apply pw_below_drewN | apply below_drew1 | refine below_set ?_ GE244.out) | exact HB.out)) hb); clear HO_5; clear HO_245001; clear HO_245002; clear BK244; clear HB; have HO_5 := n0_; have HO_245001 := n1_; have HO_245002 := n2_; have BK244 := n3_; have HB := n4_; clear n0_ n1_ n2_ n3_ n4_; (try clear hb); (try clear hb2); (try clear hk); (try clear hi); have hcz32_0 : w31.cell? ⟨gb244, 0, none⟩ = some (.string t236) := (blk_cell BK244.out 0).trans rfl; have hcz32_1 : w31.cell? ⟨gb244, 1, none⟩ = some (.slice Ao11 t237.length co11) := (blk_cell BK244.out 1).trans rfl; have hcz32_2 : w31.cell? ⟨gb244, 2, none⟩ = some (.slice Ao12 t240.length co12) := (blk_cell BK244.out 2).trans rfl; have hfz32_0 := blk_frozen BK244.out 0; have hfz32_1 := blk_frozen BK244.out 1; have hfz32_2 := blk_frozen BK244.out 2) | (go_at_call 19; (with_reducible refine (find_Index_Distinct.calls k2 t236 _ _ t237 _ _ t240 t253 _ ?side1 ?side2 ?side3 ?side4 A26.out).mono ?_); (case side1 => repeat (first | exact (Kd.R_reads' HO_245001.out).2.2 | (with_reducible refine Kd.C_alloc ?_ _) | (with_reducible refine Kd.C_drewN ?_ _) | (with_reducible refine Kd.C_drew ?_))); (case side2 => exact (Kd.R_reads' HO_245001.out).2.1); (case side3 => repeat (first | exact (Kd.R_reads' HO_245002.out).2.2 | (with_reducible refine Kd.C_alloc ?_ _) | (with_reducible refine Kd.C_drewN ?_ _) | (with_reducible refine Kd.C_drew ?_))); (case side4 => exact (Kd.R_reads' HO_245002.out).2.1); rintro e w33 ⟨rfl, hb⟩; have n0_ := Aside0.mk (Kd.R_below (by (with_reducible repeat (first | apply Kd.R_alloc | apply Kd.R_drewN | apply Kd.R_drew)); exact HO_5.out) hb); have n1_ := Aside0.mk (Kd.R_below (by (with_reducible repeat (first | apply Kd.R_alloc | apply Kd.R_drewN | apply Kd.R_drew)); exact HO_245001.out) hb); have n2_ := Aside0.mk (Kd.R_below (by (with_reducible repeat (first | apply Kd.R_alloc | apply Kd.R_drewN | apply Kd.R_drew)); exact HO_245002.out) hb); have n3_ := Aside0.mk (blk_below (g := gb244) (o := .cells #[.string t236, .slice Ao11 t237.length co11, .slice Ao12 t240.length co12] 24 (0, 0)) (by (with_reducible repeat (first | refine blk_drewN ?_ _ | refine blk_drew ?_ | refine blk_alloc ?_ _)); exact BK244.out) hb); have n4_ := Aside0.mk (below_step (by repeat (first | (with_reducible first | exact HB.out | apply below_alloc | apply pw_below_drewN | apply below_drew1 | refine below_set ?_ GE244.out) | exact HB.out)) hb); clear HO_5; clear HO_245001; clear HO_245002; clear BK244; clear HB; have HO_5 := n0_; have HO_245001 := n1_; have HO_245002 := n2_; have BK244 := n3_; have HB := n4_; clear n0_ n1_ n2_ n3_ n4_; (try clear hb); (try clear hb2); (try clear hk); (try clear hi)) | (go_at_call 21; (with_reducible refine (silversidelaw07_awake.calls k2  t254 _ A28.out).mono ?_); rintro e w34 ⟨rfl, hb⟩; have n0_ := Aside0.mk (Kd.R_below (by (with_reducible repeat (first | apply Kd.R_alloc | apply Kd.R_drewN | apply Kd.R_drew)); exact HO_5.out) hb); have n1_ := Aside0.mk (Kd.R_below (by (with_reducible repeat (first | apply Kd.R_alloc | apply Kd.R_drewN | apply Kd.R_drew)); exact HO_245001.out) hb); have n2_ := Aside0.mk (Kd.R_below (by (with_reducible repeat (first | apply Kd.R_alloc | apply Kd.R_drewN | apply Kd.R_drew)); exact HO_245002.out) hb); have n3_ := Aside0.mk (blk_below (g := gb244) (o := .cells #[.string t236, .slice Ao11 t237.length co11, .slice Ao12 t240.length co12] 24 (0, 0)) (by (with_reducible repeat (first | refine blk_drewN ?_ _ | refine blk_drew ?_ | refine blk_alloc ?_ _)); exact BK244.out) hb); have n4_ := Aside0.mk (below_step (by repeat (first | (with_reducible first | exact HB.out | apply below_alloc | apply pw_below_drewN | apply below_drew1 | refine below_set ?_ GE244.out) | exact HB.out)) hb); clear HO_5; clear HO_245001; clear HO_245002; clear BK244; clear HB; have HO_5 := n0_; have HO_245001 := n1_; have HO_245002 := n2_; have BK244 := n3_; have HB := n4_; clear n0_ n1_ n2_ n3_ n4_; (try clear hb); (try clear hb2); (try clear hk); (try clear hi)))
              go_ret
              exact ⟨by first | rfl | (simp [errW_none, errW_some] <;> rfl) | (simp only [← hji2]; first | rfl | (simp [errW_none, errW_some] <;> rfl)) | (simp [*, errW_none, errW_some] <;> rfl), by repeat (first | (with_reducible first | exact HB.out | apply below_alloc | apply pw_below_drewN | apply below_drew1 | refine below_set ?_ GE244.out) | exact HB.out)⟩
             ·rw [if_neg c27] at H
              have c27b0 : (t253 == (wrap64 (Int.tdiv (wrap64 ((sa0_.size : Int) * (wrap64 ((sa0_.size : Int) + 1)))) 2))) = false := beq_eq_false_iff_ne.mpr c27
              have c27b0w : (t253 == (wrap64 (Int.tdiv (wrap64 ((sa0_.size : Int) * ((sa0_.size : Int) + 1))) 2))) = false := by rw [← hsa0_w]; exact c27b0
              have c27b1 : (t253 != (wrap64 (Int.tdiv (wrap64 ((sa0_.size : Int) * (wrap64 ((sa0_.size : Int) + 1)))) 2))) = true := bne_iff_ne.mpr c27
              have c27b1w : (t253 != (wrap64 (Int.tdiv (wrap64 ((sa0_.size : Int) * ((sa0_.size : Int) + 1))) 2))) = true := by rw [← hsa0_w]; exact c27b1
              obtain rfl := Option.some.inj H
              obtain ⟨Ao35, co35, eo35⟩ := Kd.R_slice HO_5.out
              subst eo35
              have hcz36_0 : wr.cell? ⟨gb244, 0, none⟩ = some (.string t236) := (blk_cell BK244.out 0).trans rfl
              have hcz36_1 : wr.cell? ⟨gb244, 1, none⟩ = some (.slice Ao11 t237.length co11) := (blk_cell BK244.out 1).trans rfl
              have hcz36_2 : wr.cell? ⟨gb244, 2, none⟩ = some (.slice Ao12 t240.length co12) := (blk_cell BK244.out 2).trans rfl
              have hfz36_0 := blk_frozen BK244.out 0
              have hfz36_1 := blk_frozen BK244.out 1
              have hfz36_2 := blk_frozen BK244.out 2
              go_wp2_with (first | ((with_reducible refine gate_callee (f := 17) rfl ?_); refine goesL_ (some 53) rfl rfl Try.func17 (by kernel_rfl) rfl #[.agg #[.string t236, .slice Ao11 t237.length co11, .slice Ao12 t240.length co12]] rfl (by (try simp only [List.map_toArray, List.map_cons, List.map_nil]); first | done | rfl | (simp only [List.length_drop, List.length_take]; rfl)) ?_; (with_reducible refine (find_Index_Repeat.calls k2 t236 _ _ t237 _ _ t240 t250 t251 t252 _ ?side1 ?side2 ?side3 ?side4 A21.out).mono ?_); (case side1 => repeat (first | exact (Kd.R_reads' HO_245001.out).2.2 | (with_reducible refine Kd.C_alloc ?_ _) | (with_reducible refine Kd.C_drewN ?_ _) | (with_reducible refine Kd.C_drew ?_))); (case side2 => exact (Kd.R_reads' HO_245001.out).2.1); (case side3 => repeat (first | exact (Kd.R_reads' HO_245002.out).2.2 | (with_reducible refine Kd.C_alloc ?_ _) | (with_reducible refine Kd.C_drewN ?_ _) | (with_reducible refine Kd.C_drew ?_))); (case side4 => exact (Kd.R_reads' HO_245002.out).2.1); rintro e w37 ⟨rfl, hb⟩; refine ⟨_, rfl, ?_⟩; have n0_ := Aside0.mk (Kd.R_below (by (with_reducible repeat (first | apply Kd.R_alloc | apply Kd.R_drewN | apply Kd.R_drew)); exact HO_5.out) hb); have n1_ := Aside0.mk (Kd.R_below (by (with_reducible repeat (first | apply Kd.R_alloc | apply Kd.R_drewN | apply Kd.R_drew)); exact HO_245001.out) hb); have n2_ := Aside0.mk (Kd.R_below (by (with_reducible repeat (first | apply Kd.R_alloc | apply Kd.R_drewN | apply Kd.R_drew)); exact HO_245002.out) hb); have n3_ := Aside0.mk (blk_below (g := gb244) (o := .cells #[.string t236, .slice Ao11 t237.length co11, .slice Ao12 t240.length co12] 24 (0, 0)) (by (with_reducible repeat (first | refine blk_drewN ?_ _ | refine blk_drew ?_ | refine blk_alloc ?_ _)); exact BK244.out) hb); have n4_ := Aside0.mk (below_step (by repeat (first | (with_reducible first | exact HB.out | apply below_alloc | apply pw_below_drewN | apply below_drew1 | refine below_set ?_ GE244.out) | exact HB.out)) hb); clear HO_5; clear HO_245001; clear HO_245002; clear BK244; clear HB; have HO_5 := n0_; have HO_245001 := n1_; have HO_245002 := n2_; have BK244 := n3_; have HB := n4_; clear n0_ n1_ n2_ n3_ n4_; (try clear hb); (try clear hb2); (try clear hk); (try clear hi); have hcz38_0 : w37.cell? ⟨gb244, 0, none⟩ = some (.string t236) := (blk_cell BK244.out 0).trans rfl; have hcz38_1 : w37.cell? ⟨gb244, 1, none⟩ = some (.slice Ao11 t237.length co11) := (blk_cell BK244.out 1).trans rfl; have hcz38_2 : w37.cell? ⟨gb244, 2, none⟩ = some (.slice Ao12 t240.length co12) := (blk_cell BK244.out 2).trans rfl; have hfz38_0 := blk_frozen BK244.out 0; have hfz38_1 := blk_frozen BK244.out 1; have hfz38_2 := blk_frozen BK244.out 2) | (go_at_call 19; (with_reducible refine (find_Index_Distinct.calls k2 t236 _ _ t237 _ _ t240 t253 _ ?side1 ?side2 ?side3 ?side4 A26.out).mono ?_); (case side1 => repeat (first | exact (Kd.R_reads' HO_245001.out).2.2 | (with_reducible refine Kd.C_alloc ?_ _) | (with_reducible refine Kd.C_drewN ?_ _) | (with_reducible refine Kd.C_drew ?_))); (case side2 => exact (Kd.R_reads' HO_245001.out).2.1); (case side3 => repeat (first | exact (Kd.R_reads' HO_245002.out).2.2 | (with_reducible refine Kd.C_alloc ?_ _) | (with_reducible refine Kd.C_drewN ?_ _) | (with_reducible refine Kd.C_drew ?_))); (case side4 => exact (Kd.R_reads' HO_245002.out).2.1); rintro e w39 ⟨rfl, hb⟩; have n0_ := Aside0.mk (Kd.R_below (by (with_reducible repeat (first | apply Kd.R_alloc | apply Kd.R_drewN | apply Kd.R_drew)); exact HO_5.out) hb); have n1_ := Aside0.mk (Kd.R_below (by (with_reducible repeat (first | apply Kd.R_alloc | apply Kd.R_drewN | apply Kd.R_drew)); exact HO_245001.out) hb); have n2_ := Aside0.mk (Kd.R_below (by (with_reducible repeat (first | apply Kd.R_alloc | apply Kd.R_drewN | apply Kd.R_drew)); exact HO_245002.out) hb); have n3_ := Aside0.mk (blk_below (g := gb244) (o := .cells #[.string t236, .slice Ao11 t237.length co11, .slice Ao12 t240.length co12] 24 (0, 0)) (by (with_reducible repeat (first | refine blk_drewN ?_ _ | refine blk_drew ?_ | refine blk_alloc ?_ _)); exact BK244.out) hb); have n4_ := Aside0.mk (below_step (by repeat (first | (with_reducible first | exact HB.out | apply below_alloc | apply pw_below_drewN | apply below_drew1 | refine below_set ?_ GE244.out) | exact HB.out)) hb); clear HO_5; clear HO_245001; clear HO_245002; clear BK244; clear HB; have HO_5 := n0_; have HO_245001 := n1_; have HO_245002 := n2_; have BK244 := n3_; have HB := n4_; clear n0_ n1_ n2_ n3_ n4_; (try clear hb); (try clear hb2); (try clear hk); (try clear hi)))
              go_ret
              exact ⟨by first | rfl | (simp [errW_none, errW_some] <;> rfl) | (simp only [← hji2]; first | rfl | (simp [errW_none, errW_some] <;> rfl)) | (simp [*, errW_none, errW_some] <;> rfl), by repeat (first | (with_reducible first | exact HB.out | apply below_alloc | apply pw_below_drewN | apply below_drew1 | refine below_set ?_ GE244.out) | exact HB.out)⟩
            ·rw [if_neg c25] at H
             have c25b0 : (t252 == 6) = false := beq_eq_false_iff_ne.mpr c25
             have c25b1 : (t252 != 6) = true := bne_iff_ne.mpr c25
             obtain rfl := Option.some.inj H
             obtain ⟨Ao40, co40, eo40⟩ := Kd.R_slice HO_5.out
             subst eo40
             have hcz41_0 : wr.cell? ⟨gb244, 0, none⟩ = some (.string t236) := (blk_cell BK244.out 0).trans rfl
             have hcz41_1 : wr.cell? ⟨gb244, 1, none⟩ = some (.slice Ao11 t237.length co11) := (blk_cell BK244.out 1).trans rfl
             have hcz41_2 : wr.cell? ⟨gb244, 2, none⟩ = some (.slice Ao12 t240.length co12) := (blk_cell BK244.out 2).trans rfl
             have hfz41_0 := blk_frozen BK244.out 0
             have hfz41_1 := blk_frozen BK244.out 1
             have hfz41_2 := blk_frozen BK244.out 2
             go_wp2_with (first | ((with_reducible refine gate_callee (f := 17) rfl ?_); refine goesL_ (some 53) rfl rfl Try.func17 (by kernel_rfl) rfl #[.agg #[.string t236, .slice Ao11 t237.length co11, .slice Ao12 t240.length co12]] rfl (by (try simp only [List.map_toArray, List.map_cons, List.map_nil]); first | done | rfl | (simp only [List.length_drop, List.length_take]; rfl)) ?_; (with_reducible refine (find_Index_Repeat.calls k2 t236 _ _ t237 _ _ t240 t250 t251 t252 _ ?side1 ?side2 ?side3 ?side4 A21.out).mono ?_); (case side1 => repeat (first | exact (Kd.R_reads' HO_245001.out).2.2 | (with_reducible refine Kd.C_alloc ?_ _) | (with_reducible refine Kd.C_drewN ?_ _) | (with_reducible refine Kd.C_drew ?_))); (case side2 => exact (Kd.R_reads' HO_245001.out).2.1); (case side3 => repeat (first | exact (Kd.R_reads' HO_245002.out).2.2 | (with_reducible refine Kd.C_alloc ?_ _) | (with_reducible refine Kd.C_drewN ?_ _) | (with_reducible refine Kd.C_drew ?_))); (case side4 => exact (Kd.R_reads' HO_245002.out).2.1); rintro e w42 ⟨rfl, hb⟩; refine ⟨_, rfl, ?_⟩; have n0_ := Aside0.mk (Kd.R_below (by (with_reducible repeat (first | apply Kd.R_alloc | apply Kd.R_drewN | apply Kd.R_drew)); exact HO_5.out) hb); have n1_ := Aside0.mk (Kd.R_below (by (with_reducible repeat (first | apply Kd.R_alloc | apply Kd.R_drewN | apply Kd.R_drew)); exact HO_245001.out) hb); have n2_ := Aside0.mk (Kd.R_below (by (with_reducible repeat (first | apply Kd.R_alloc | apply Kd.R_drewN | apply Kd.R_drew)); exact HO_245002.out) hb); have n3_ := Aside0.mk (blk_below (g := gb244) (o := .cells #[.string t236, .slice Ao11 t237.length co11, .slice Ao12 t240.length co12] 24 (0, 0)) (by (with_reducible repeat (first | refine blk_drewN ?_ _ | refine blk_drew ?_ | refine blk_alloc ?_ _)); exact BK244.out) hb); have n4_ := Aside0.mk (below_step (by repeat (first | (with_reducible first | exact HB.out | apply below_alloc | apply pw_below_drewN | apply below_drew1 | refine below_set ?_ GE244.out) | exact HB.out)) hb); clear HO_5; clear HO_245001; clear HO_245002; clear BK244; clear HB; have HO_5 := n0_; have HO_245001 := n1_; have HO_245002 := n2_; have BK244 := n3_; have HB := n4_; clear n0_ n1_ n2_ n3_ n4_; (try clear hb); (try clear hb2); (try clear hk); (try clear hi)))
             go_ret
             exact ⟨by first | rfl | (simp [errW_none, errW_some] <;> rfl) | (simp only [← hji2]; first | rfl | (simp [errW_none, errW_some] <;> rfl)) | (simp [*, errW_none, errW_some] <;> rfl), by repeat (first | (with_reducible first | exact HB.out | apply below_alloc | apply pw_below_drewN | apply below_drew1 | refine below_set ?_ GE244.out) | exact HB.out)⟩
           ·rw [if_neg c24] at H
            have c24b0 : (t251 == 0) = false := beq_eq_false_iff_ne.mpr c24
            have c24b1 : (t251 != 0) = true := bne_iff_ne.mpr c24
            obtain rfl := Option.some.inj H
            obtain ⟨Ao43, co43, eo43⟩ := Kd.R_slice HO_5.out
            subst eo43
            have hcz44_0 : wr.cell? ⟨gb244, 0, none⟩ = some (.string t236) := (blk_cell BK244.out 0).trans rfl
            have hcz44_1 : wr.cell? ⟨gb244, 1, none⟩ = some (.slice Ao11 t237.length co11) := (blk_cell BK244.out 1).trans rfl
            have hcz44_2 : wr.cell? ⟨gb244, 2, none⟩ = some (.slice Ao12 t240.length co12) := (blk_cell BK244.out 2).trans rfl
            have hfz44_0 := blk_frozen BK244.out 0
            have hfz44_1 := blk_frozen BK244.out 1
            have hfz44_2 := blk_frozen BK244.out 2
            go_wp2_with (first | ((with_reducible refine gate_callee (f := 17) rfl ?_); refine goesL_ (some 53) rfl rfl Try.func17 (by kernel_rfl) rfl #[.agg #[.string t236, .slice Ao11 t237.length co11, .slice Ao12 t240.length co12]] rfl (by (try simp only [List.map_toArray, List.map_cons, List.map_nil]); first | done | rfl | (simp only [List.length_drop, List.length_take]; rfl)) ?_; (with_reducible refine (find_Index_Repeat.calls k2 t236 _ _ t237 _ _ t240 t250 t251 t252 _ ?side1 ?side2 ?side3 ?side4 A21.out).mono ?_); (case side1 => repeat (first | exact (Kd.R_reads' HO_245001.out).2.2 | (with_reducible refine Kd.C_alloc ?_ _) | (with_reducible refine Kd.C_drewN ?_ _) | (with_reducible refine Kd.C_drew ?_))); (case side2 => exact (Kd.R_reads' HO_245001.out).2.1); (case side3 => repeat (first | exact (Kd.R_reads' HO_245002.out).2.2 | (with_reducible refine Kd.C_alloc ?_ _) | (with_reducible refine Kd.C_drewN ?_ _) | (with_reducible refine Kd.C_drew ?_))); (case side4 => exact (Kd.R_reads' HO_245002.out).2.1); rintro e w45 ⟨rfl, hb⟩; refine ⟨_, rfl, ?_⟩; have n0_ := Aside0.mk (Kd.R_below (by (with_reducible repeat (first | apply Kd.R_alloc | apply Kd.R_drewN | apply Kd.R_drew)); exact HO_5.out) hb); have n1_ := Aside0.mk (Kd.R_below (by (with_reducible repeat (first | apply Kd.R_alloc | apply Kd.R_drewN | apply Kd.R_drew)); exact HO_245001.out) hb); have n2_ := Aside0.mk (Kd.R_below (by (with_reducible repeat (first | apply Kd.R_alloc | apply Kd.R_drewN | apply Kd.R_drew)); exact HO_245002.out) hb); have n3_ := Aside0.mk (blk_below (g := gb244) (o := .cells #[.string t236, .slice Ao11 t237.length co11, .slice Ao12 t240.length co12] 24 (0, 0)) (by (with_reducible repeat (first | refine blk_drewN ?_ _ | refine blk_drew ?_ | refine blk_alloc ?_ _)); exact BK244.out) hb); have n4_ := Aside0.mk (below_step (by repeat (first | (with_reducible first | exact HB.out | apply below_alloc | apply pw_below_drewN | apply below_drew1 | refine below_set ?_ GE244.out) | exact HB.out)) hb); clear HO_5; clear HO_245001; clear HO_245002; clear BK244; clear HB; have HO_5 := n0_; have HO_245001 := n1_; have HO_245002 := n2_; have BK244 := n3_; have HB := n4_; clear n0_ n1_ n2_ n3_ n4_; (try clear hb); (try clear hb2); (try clear hk); (try clear hi)))
            go_ret
            exact ⟨by first | rfl | (simp [errW_none, errW_some] <;> rfl) | (simp only [← hji2]; first | rfl | (simp [errW_none, errW_some] <;> rfl)) | (simp [*, errW_none, errW_some] <;> rfl), by repeat (first | (with_reducible first | exact HB.out | apply below_alloc | apply pw_below_drewN | apply below_drew1 | refine below_set ?_ GE244.out) | exact HB.out)⟩
          ·rw [if_neg c23] at H
           have c23b0 : (t250.toList == ([] : List UInt8)) = false := beq_eq_false_iff_ne.mpr c23
           have c23b1 : (t250.toList != ([] : List UInt8)) = true := bne_iff_ne.mpr c23
           obtain rfl := Option.some.inj H
           obtain ⟨Ao46, co46, eo46⟩ := Kd.R_slice HO_5.out
           subst eo46
           have hcz47_0 : wr.cell? ⟨gb244, 0, none⟩ = some (.string t236) := (blk_cell BK244.out 0).trans rfl
           have hcz47_1 : wr.cell? ⟨gb244, 1, none⟩ = some (.slice Ao11 t237.length co11) := (blk_cell BK244.out 1).trans rfl
           have hcz47_2 : wr.cell? ⟨gb244, 2, none⟩ = some (.slice Ao12 t240.length co12) := (blk_cell BK244.out 2).trans rfl
           have hfz47_0 := blk_frozen BK244.out 0
           have hfz47_1 := blk_frozen BK244.out 1
           have hfz47_2 := blk_frozen BK244.out 2
           go_wp2_with (first | ((with_reducible refine gate_callee (f := 17) rfl ?_); refine goesL_ (some 53) rfl rfl Try.func17 (by kernel_rfl) rfl #[.agg #[.string t236, .slice Ao11 t237.length co11, .slice Ao12 t240.length co12]] rfl (by (try simp only [List.map_toArray, List.map_cons, List.map_nil]); first | done | rfl | (simp only [List.length_drop, List.length_take]; rfl)) ?_; (with_reducible refine (find_Index_Repeat.calls k2 t236 _ _ t237 _ _ t240 t250 t251 t252 _ ?side1 ?side2 ?side3 ?side4 A21.out).mono ?_); (case side1 => repeat (first | exact (Kd.R_reads' HO_245001.out).2.2 | (with_reducible refine Kd.C_alloc ?_ _) | (with_reducible refine Kd.C_drewN ?_ _) | (with_reducible refine Kd.C_drew ?_))); (case side2 => exact (Kd.R_reads' HO_245001.out).2.1); (case side3 => repeat (first | exact (Kd.R_reads' HO_245002.out).2.2 | (with_reducible refine Kd.C_alloc ?_ _) | (with_reducible refine Kd.C_drewN ?_ _) | (with_reducible refine Kd.C_drew ?_))); (case side4 => exact (Kd.R_reads' HO_245002.out).2.1); rintro e w48 ⟨rfl, hb⟩; refine ⟨_, rfl, ?_⟩; have n0_ := Aside0.mk (Kd.R_below (by (with_reducible repeat (first | apply Kd.R_alloc | apply Kd.R_drewN | apply Kd.R_drew)); exact HO_5.out) hb); have n1_ := Aside0.mk (Kd.R_below (by (with_reducible repeat (first | apply Kd.R_alloc | apply Kd.R_drewN | apply Kd.R_drew)); exact HO_245001.out) hb); have n2_ := Aside0.mk (Kd.R_below (by (with_reducible repeat (first | apply Kd.R_alloc | apply Kd.R_drewN | apply Kd.R_drew)); exact HO_245002.out) hb); have n3_ := Aside0.mk (blk_below (g := gb244) (o := .cells #[.string t236, .slice Ao11 t237.length co11, .slice Ao12 t240.length co12] 24 (0, 0)) (by (with_reducible repeat (first | refine blk_drewN ?_ _ | refine blk_drew ?_ | refine blk_alloc ?_ _)); exact BK244.out) hb); have n4_ := Aside0.mk (below_step (by repeat (first | (with_reducible first | exact HB.out | apply below_alloc | apply pw_below_drewN | apply below_drew1 | refine below_set ?_ GE244.out) | exact HB.out)) hb); clear HO_5; clear HO_245001; clear HO_245002; clear BK244; clear HB; have HO_5 := n0_; have HO_245001 := n1_; have HO_245002 := n2_; have BK244 := n3_; have HB := n4_; clear n0_ n1_ n2_ n3_ n4_; (try clear hb); (try clear hb2); (try clear hk); (try clear hi)))
           go_ret
           exact ⟨by first | rfl | (simp [errW_none, errW_some] <;> rfl) | (simp only [← hji2]; first | rfl | (simp [errW_none, errW_some] <;> rfl)) | (simp [*, errW_none, errW_some] <;> rfl), by repeat (first | (with_reducible first | exact HB.out | apply below_alloc | apply pw_below_drewN | apply below_drew1 | refine below_set ?_ GE244.out) | exact HB.out)⟩
         ·rw [if_neg c22] at H
          have c22b0 : (x7_2 == 0) = false := beq_eq_false_iff_ne.mpr c22
          have c22b1 : (x7_2 != 0) = true := bne_iff_ne.mpr c22
          by_cases c49 : t252 = 0
          ·rw [if_pos c49] at H
           have c49b0 : (t252 == 0) = true := beq_iff_eq.mpr c49
           have c49b1 : (t252 != 0) = false := bne_eq_false_iff_eq.mpr c49
           clear c49
           by_cases c50 : (t250.size : Int) = x7_2
           ·rw [if_pos c50] at H
            have c50b0 : ((t250.size : Int) == x7_2) = true := beq_iff_eq.mpr c50
            have c50b1 : ((t250.size : Int) != x7_2) = false := bne_eq_false_iff_eq.mpr c50
            clear c50
            replace H := Option.bind_eq_some_iff.mp H
            obtain ⟨t255, A510, H⟩ := H
            replace H : (if t251 = t255 then (if t251 > 1 then ((find_Index_Distinct.f k2 t236 t237 t240).bind fun t256 => (if x6_2 = (wrap64 ((wrap64 (Int.tdiv (wrap64 ((sa0_.size : Int) * (wrap64 ((sa0_.size : Int) + 1)))) 2)) - t256)) then ((silversidelaw07_awake.f k2).bind fun t257 => (some t257)) else (some false))) else (some false)) else (some false)) = some r := H
            have A51 := Aside0.mk A510
            clear A510
            by_cases c52 : t251 = t255
            ·rw [if_pos c52] at H
             have c52b0 : (t251 == t255) = true := beq_iff_eq.mpr c52
             have c52b1 : (t251 != t255) = false := bne_eq_false_iff_eq.mpr c52
             clear c52
             by_cases c53 : t251 > 1
             ·rw [if_pos c53] at H
              have c53b0 : decide (1 < t251) = true := decide_eq_true c53
              clear c53
              replace H := Option.bind_eq_some_iff.mp H
              obtain ⟨t256, A540, H⟩ := H
              replace H : (if x6_2 = (wrap64 ((wrap64 (Int.tdiv (wrap64 ((sa0_.size : Int) * (wrap64 ((sa0_.size : Int) + 1)))) 2)) - t256)) then ((silversidelaw07_awake.f k2).bind fun t257 => (some t257)) else (some false)) = some r := H
              have A54 := Aside0.mk A540
              clear A540
              by_cases c55 : x6_2 = (wrap64 ((wrap64 (Int.tdiv (wrap64 ((sa0_.size : Int) * (wrap64 ((sa0_.size : Int) + 1)))) 2)) - t256))
              ·rw [if_pos c55] at H
               have c55b0 : (x6_2 == (wrap64 ((wrap64 (Int.tdiv (wrap64 ((sa0_.size : Int) * (wrap64 ((sa0_.size : Int) + 1)))) 2)) - t256))) = true := beq_iff_eq.mpr c55
               have c55b0w : (x6_2 == (wrap64 ((wrap64 (Int.tdiv (wrap64 ((sa0_.size : Int) * ((sa0_.size : Int) + 1))) 2)) - t256))) = true := by rw [← hsa0_w]; exact c55b0
               have c55b1 : (x6_2 != (wrap64 ((wrap64 (Int.tdiv (wrap64 ((sa0_.size : Int) * (wrap64 ((sa0_.size : Int) + 1)))) 2)) - t256))) = false := bne_eq_false_iff_eq.mpr c55
               have c55b1w : (x6_2 != (wrap64 ((wrap64 (Int.tdiv (wrap64 ((sa0_.size : Int) * ((sa0_.size : Int) + 1))) 2)) - t256))) = false := by rw [← hsa0_w]; exact c55b1
               clear c55
               replace H := Option.bind_eq_some_iff.mp H
               obtain ⟨t257, A560, H⟩ := H
               replace H : (some t257) = some r := H
               have A56 := Aside0.mk A560
               clear A560
               obtain rfl := Option.some.inj H
               obtain ⟨Ao57, co57, eo57⟩ := Kd.R_slice HO_5.out
               subst eo57
               have hcz58_0 : wr.cell? ⟨gb244, 0, none⟩ = some (.string t236) := (blk_cell BK244.out 0).trans rfl
               have hcz58_1 : wr.cell? ⟨gb244, 1, none⟩ = some (.slice Ao11 t237.length co11) := (blk_cell BK244.out 1).trans rfl
               have hcz58_2 : wr.cell? ⟨gb244, 2, none⟩ = some (.slice Ao12 t240.length co12) := (blk_cell BK244.out 2).trans rfl
               have hfz58_0 := blk_frozen BK244.out 0
               have hfz58_1 := blk_frozen BK244.out 1
               have hfz58_2 := blk_frozen BK244.out 2
               go_wp2_with (first | ((with_reducible refine gate_callee (f := 17) rfl ?_); refine goesL_ (some 53) rfl rfl Try.func17 (by kernel_rfl) rfl #[.agg #[.string t236, .slice Ao11 t237.length co11, .slice Ao12 t240.length co12]] rfl (by (try simp only [List.map_toArray, List.map_cons, List.map_nil]); first | done | rfl | (simp only [List.length_drop, List.length_take]; rfl)) ?_; (with_reducible refine (find_Index_Repeat.calls k2 t236 _ _ t237 _ _ t240 t250 t251 t252 _ ?side1 ?side2 ?side3 ?side4 A21.out).mono ?_); (case side1 => repeat (first | exact (Kd.R_reads' HO_245001.out).2.2 | (with_reducible refine Kd.C_alloc ?_ _) | (with_reducible refine Kd.C_drewN ?_ _) | (with_reducible refine Kd.C_drew ?_))); (case side2 => exact (Kd.R_reads' HO_245001.out).2.1); (case side3 => repeat (first | exact (Kd.R_reads' HO_245002.out).2.2 | (with_reducible refine Kd.C_alloc ?_ _) | (with_reducible refine Kd.C_drewN ?_ _) | (with_reducible refine Kd.C_drew ?_))); (case side4 => exact (Kd.R_reads' HO_245002.out).2.1); rintro e w59 ⟨rfl, hb⟩; refine ⟨_, rfl, ?_⟩; have n0_ := Aside0.mk (Kd.R_below (by (with_reducible repeat (first | apply Kd.R_alloc | apply Kd.R_drewN | apply Kd.R_drew)); exact HO_5.out) hb); have n1_ := Aside0.mk (Kd.R_below (by (with_reducible repeat (first | apply Kd.R_alloc | apply Kd.R_drewN | apply Kd.R_drew)); exact HO_245001.out) hb); have n2_ := Aside0.mk (Kd.R_below (by (with_reducible repeat (first | apply Kd.R_alloc | apply Kd.R_drewN | apply Kd.R_drew)); exact HO_245002.out) hb); have n3_ := Aside0.mk (blk_below (g := gb244) (o := .cells #[.string t236, .slice Ao11 t237.length co11, .slice Ao12 t240.length co12] 24 (0, 0)) (by (with_reducible repeat (first | refine blk_drewN ?_ _ | refine blk_drew ?_ | refine blk_alloc ?_ _)); exact BK244.out) hb); have n4_ := Aside0.mk (below_step (by repeat (first | (with_reducible first | exact HB.out | apply below_alloc | apply pw_below_drewN | apply below_drew1 | refine below_set ?_ GE244.out) | exact HB.out)) hb); clear HO_5; clear HO_245001; clear HO_245002; clear BK244; clear HB; have HO_5 := n0_; have HO_245001 := n1_; have HO_245002 := n2_; have BK244 := n3_; have HB := n4_; clear n0_ n1_ n2_ n3_ n4_; (try clear hb); (try clear hb2); (try clear hk); (try clear hi); have hcz60_0 : w59.cell? ⟨gb244, 0, none⟩ = some (.string t236) := (blk_cell BK244.out 0).trans rfl; have hcz60_1 : w59.cell? ⟨gb244, 1, none⟩ = some (.slice Ao11 t237.length co11) := (blk_cell BK244.out 1).trans rfl; have hcz60_2 : w59.cell? ⟨gb244, 2, none⟩ = some (.slice Ao12 t240.length co12) := (blk_cell BK244.out 2).trans rfl; have hfz60_0 := blk_frozen BK244.out 0; have hfz60_1 := blk_frozen BK244.out 1; have hfz60_2 := blk_frozen BK244.out 2) | (go_at_call 29; (with_reducible refine (find_Index_Count.calls t236 _ _ t237 _ _ t240 t250 t255 _ ?side1 ?side2 ?side3 ?side4 A51.out).mono ?_); (case side1 => repeat (first | exact (Kd.R_reads' HO_245001.out).2.2 | (with_reducible refine Kd.C_alloc ?_ _) | (with_reducible refine Kd.C_drewN ?_ _) | (with_reducible refine Kd.C_drew ?_))); (case side2 => exact (Kd.R_reads' HO_245001.out).2.1); (case side3 => repeat (first | exact (Kd.R_reads' HO_245002.out).2.2 | (with_reducible refine Kd.C_alloc ?_ _) | (with_reducible refine Kd.C_drewN ?_ _) | (with_reducible refine Kd.C_drew ?_))); (case side4 => exact (Kd.R_reads' HO_245002.out).2.1); rintro e w61 ⟨rfl, hb⟩; have n0_ := Aside0.mk (Kd.R_below (by (with_reducible repeat (first | apply Kd.R_alloc | apply Kd.R_drewN | apply Kd.R_drew)); exact HO_5.out) hb); have n1_ := Aside0.mk (Kd.R_below (by (with_reducible repeat (first | apply Kd.R_alloc | apply Kd.R_drewN | apply Kd.R_drew)); exact HO_245001.out) hb); have n2_ := Aside0.mk (Kd.R_below (by (with_reducible repeat (first | apply Kd.R_alloc | apply Kd.R_drewN | apply Kd.R_drew)); exact HO_245002.out) hb); have n3_ := Aside0.mk (blk_below (g := gb244) (o := .cells #[.string t236, .slice Ao11 t237.length co11, .slice Ao12 t240.length co12] 24 (0, 0)) (by (with_reducible repeat (first | refine blk_drewN ?_ _ | refine blk_drew ?_ | refine blk_alloc ?_ _)); exact BK244.out) hb); have n4_ := Aside0.mk (below_step (by repeat (first | (with_reducible first | exact HB.out | apply below_alloc | apply pw_below_drewN | apply below_drew1 | refine below_set ?_ GE244.out) | exact HB.out)) hb); clear HO_5; clear HO_245001; clear HO_245002; clear BK244; clear HB; have HO_5 := n0_; have HO_245001 := n1_; have HO_245002 := n2_; have BK244 := n3_; have HB := n4_; clear n0_ n1_ n2_ n3_ n4_; (try clear hb); (try clear hb2); (try clear hk); (try clear hi); have hcz62_0 : w61.cell? ⟨gb244, 0, none⟩ = some (.string t236) := (blk_cell BK244.out 0).trans rfl; have hcz62_1 : w61.cell? ⟨gb244, 1, none⟩ = some (.slice Ao11 t237.length co11) := (blk_cell BK244.out 1).trans rfl; have hcz62_2 : w61.cell? ⟨gb244, 2, none⟩ = some (.slice Ao12 t240.length co12) := (blk_cell BK244.out 2).trans rfl; have hfz62_0 := blk_frozen BK244.out 0; have hfz62_1 := blk_frozen BK244.out 1; have hfz62_2 := blk_frozen BK244.out 2) | (go_at_call 19; (with_reducible refine (find_Index_Distinct.calls k2 t236 _ _ t237 _ _ t240 t256 _ ?side1 ?side2 ?side3 ?side4 A54.out).mono ?_); (case side1 => repeat (first | exact (Kd.R_reads' HO_245001.out).2.2 | (with_reducible refine Kd.C_alloc ?_ _) | (with_reducible refine Kd.C_drewN ?_ _) | (with_reducible refine Kd.C_drew ?_))); (case side2 => exact (Kd.R_reads' HO_245001.out).2.1); (case side3 => repeat (first | exact (Kd.R_reads' HO_245002.out).2.2 | (with_reducible refine Kd.C_alloc ?_ _) | (with_reducible refine Kd.C_drewN ?_ _) | (with_reducible refine Kd.C_drew ?_))); (case side4 => exact (Kd.R_reads' HO_245002.out).2.1); rintro e w63 ⟨rfl, hb⟩; have n0_ := Aside0.mk (Kd.R_below (by (with_reducible repeat (first | apply Kd.R_alloc | apply Kd.R_drewN | apply Kd.R_drew)); exact HO_5.out) hb); have n1_ := Aside0.mk (Kd.R_below (by (with_reducible repeat (first | apply Kd.R_alloc | apply Kd.R_drewN | apply Kd.R_drew)); exact HO_245001.out) hb); have n2_ := Aside0.mk (Kd.R_below (by (with_reducible repeat (first | apply Kd.R_alloc | apply Kd.R_drewN | apply Kd.R_drew)); exact HO_245002.out) hb); have n3_ := Aside0.mk (blk_below (g := gb244) (o := .cells #[.string t236, .slice Ao11 t237.length co11, .slice Ao12 t240.length co12] 24 (0, 0)) (by (with_reducible repeat (first | refine blk_drewN ?_ _ | refine blk_drew ?_ | refine blk_alloc ?_ _)); exact BK244.out) hb); have n4_ := Aside0.mk (below_step (by repeat (first | (with_reducible first | exact HB.out | apply below_alloc | apply pw_below_drewN | apply below_drew1 | refine below_set ?_ GE244.out) | exact HB.out)) hb); clear HO_5; clear HO_245001; clear HO_245002; clear BK244; clear HB; have HO_5 := n0_; have HO_245001 := n1_; have HO_245002 := n2_; have BK244 := n3_; have HB := n4_; clear n0_ n1_ n2_ n3_ n4_; (try clear hb); (try clear hb2); (try clear hk); (try clear hi)) | (go_at_call 21; (with_reducible refine (silversidelaw07_awake.calls k2  t257 _ A56.out).mono ?_); rintro e w64 ⟨rfl, hb⟩; have n0_ := Aside0.mk (Kd.R_below (by (with_reducible repeat (first | apply Kd.R_alloc | apply Kd.R_drewN | apply Kd.R_drew)); exact HO_5.out) hb); have n1_ := Aside0.mk (Kd.R_below (by (with_reducible repeat (first | apply Kd.R_alloc | apply Kd.R_drewN | apply Kd.R_drew)); exact HO_245001.out) hb); have n2_ := Aside0.mk (Kd.R_below (by (with_reducible repeat (first | apply Kd.R_alloc | apply Kd.R_drewN | apply Kd.R_drew)); exact HO_245002.out) hb); have n3_ := Aside0.mk (blk_below (g := gb244) (o := .cells #[.string t236, .slice Ao11 t237.length co11, .slice Ao12 t240.length co12] 24 (0, 0)) (by (with_reducible repeat (first | refine blk_drewN ?_ _ | refine blk_drew ?_ | refine blk_alloc ?_ _)); exact BK244.out) hb); have n4_ := Aside0.mk (below_step (by repeat (first | (with_reducible first | exact HB.out | apply below_alloc | apply pw_below_drewN | apply below_drew1 | refine below_set ?_ GE244.out) | exact HB.out)) hb); clear HO_5; clear HO_245001; clear HO_245002; clear BK244; clear HB; have HO_5 := n0_; have HO_245001 := n1_; have HO_245002 := n2_; have BK244 := n3_; have HB := n4_; clear n0_ n1_ n2_ n3_ n4_; (try clear hb); (try clear hb2); (try clear hk); (try clear hi)))
               go_ret
               exact ⟨by first | rfl | (simp [errW_none, errW_some] <;> rfl) | (simp only [← hji2]; first | rfl | (simp [errW_none, errW_some] <;> rfl)) | (simp [*, errW_none, errW_some] <;> rfl), by repeat (first | (with_reducible first | exact HB.out | apply below_alloc | apply pw_below_drewN | apply below_drew1 | refine below_set ?_ GE244.out) | exact HB.out)⟩
              ·rw [if_neg c55] at H
               have c55b0 : (x6_2 == (wrap64 ((wrap64 (Int.tdiv (wrap64 ((sa0_.size : Int) * (wrap64 ((sa0_.size : Int) + 1)))) 2)) - t256))) = false := beq_eq_false_iff_ne.mpr c55
               have c55b0w : (x6_2 == (wrap64 ((wrap64 (Int.tdiv (wrap64 ((sa0_.size : Int) * ((sa0_.size : Int) + 1))) 2)) - t256))) = false := by rw [← hsa0_w]; exact c55b0
               have c55b1 : (x6_2 != (wrap64 ((wrap64 (Int.tdiv (wrap64 ((sa0_.size : Int) * (wrap64 ((sa0_.size : Int) + 1)))) 2)) - t256))) = true := bne_iff_ne.mpr c55
               have c55b1w : (x6_2 != (wrap64 ((wrap64 (Int.tdiv (wrap64 ((sa0_.size : Int) * ((sa0_.size : Int) + 1))) 2)) - t256))) = true := by rw [← hsa0_w]; exact c55b1
               obtain rfl := Option.some.inj H
               obtain ⟨Ao65, co65, eo65⟩ := Kd.R_slice HO_5.out
               subst eo65
               have hcz66_0 : wr.cell? ⟨gb244, 0, none⟩ = some (.string t236) := (blk_cell BK244.out 0).trans rfl
               have hcz66_1 : wr.cell? ⟨gb244, 1, none⟩ = some (.slice Ao11 t237.length co11) := (blk_cell BK244.out 1).trans rfl
               have hcz66_2 : wr.cell? ⟨gb244, 2, none⟩ = some (.slice Ao12 t240.length co12) := (blk_cell BK244.out 2).trans rfl
               have hfz66_0 := blk_frozen BK244.out 0
               have hfz66_1 := blk_frozen BK244.out 1
               have hfz66_2 := blk_frozen BK244.out 2
               go_wp2_with (first | ((with_reducible refine gate_callee (f := 17) rfl ?_); refine goesL_ (some 53) rfl rfl Try.func17 (by kernel_rfl) rfl #[.agg #[.string t236, .slice Ao11 t237.length co11, .slice Ao12 t240.length co12]] rfl (by (try simp only [List.map_toArray, List.map_cons, List.map_nil]); first | done | rfl | (simp only [List.length_drop, List.length_take]; rfl)) ?_; (with_reducible refine (find_Index_Repeat.calls k2 t236 _ _ t237 _ _ t240 t250 t251 t252 _ ?side1 ?side2 ?side3 ?side4 A21.out).mono ?_); (case side1 => repeat (first | exact (Kd.R_reads' HO_245001.out).2.2 | (with_reducible refine Kd.C_alloc ?_ _) | (with_reducible refine Kd.C_drewN ?_ _) | (with_reducible refine Kd.C_drew ?_))); (case side2 => exact (Kd.R_reads' HO_245001.out).2.1); (case side3 => repeat (first | exact (Kd.R_reads' HO_245002.out).2.2 | (with_reducible refine Kd.C_alloc ?_ _) | (with_reducible refine Kd.C_drewN ?_ _) | (with_reducible refine Kd.C_drew ?_))); (case side4 => exact (Kd.R_reads' HO_245002.out).2.1); rintro e w67 ⟨rfl, hb⟩; refine ⟨_, rfl, ?_⟩; have n0_ := Aside0.mk (Kd.R_below (by (with_reducible repeat (first | apply Kd.R_alloc | apply Kd.R_drewN | apply Kd.R_drew)); exact HO_5.out) hb); have n1_ := Aside0.mk (Kd.R_below (by (with_reducible repeat (first | apply Kd.R_alloc | apply Kd.R_drewN | apply Kd.R_drew)); exact HO_245001.out) hb); have n2_ := Aside0.mk (Kd.R_below (by (with_reducible repeat (first | apply Kd.R_alloc | apply Kd.R_drewN | apply Kd.R_drew)); exact HO_245002.out) hb); have n3_ := Aside0.mk (blk_below (g := gb244) (o := .cells #[.string t236, .slice Ao11 t237.length co11, .slice Ao12 t240.length co12] 24 (0, 0)) (by (with_reducible repeat (first | refine blk_drewN ?_ _ | refine blk_drew ?_ | refine blk_alloc ?_ _)); exact BK244.out) hb); have n4_ := Aside0.mk (below_step (by repeat (first | (with_reducible first | exact HB.out | apply below_alloc | apply pw_below_drewN | apply below_drew1 | refine below_set ?_ GE244.out) | exact HB.out)) hb); clear HO_5; clear HO_245001; clear HO_245002; clear BK244; clear HB; have HO_5 := n0_; have HO_245001 := n1_; have HO_245002 := n2_; have BK244 := n3_; have HB := n4_; clear n0_ n1_ n2_ n3_ n4_; (try clear hb); (try clear hb2); (try clear hk); (try clear hi); have hcz68_0 : w67.cell? ⟨gb244, 0, none⟩ = some (.string t236) := (blk_cell BK244.out 0).trans rfl; have hcz68_1 : w67.cell? ⟨gb244, 1, none⟩ = some (.slice Ao11 t237.length co11) := (blk_cell BK244.out 1).trans rfl; have hcz68_2 : w67.cell? ⟨gb244, 2, none⟩ = some (.slice Ao12 t240.length co12) := (blk_cell BK244.out 2).trans rfl; have hfz68_0 := blk_frozen BK244.out 0; have hfz68_1 := blk_frozen BK244.out 1; have hfz68_2 := blk_frozen BK244.out 2) | (go_at_call 29; (with_reducible refine (find_Index_Count.calls t236 _ _ t237 _ _ t240 t250 t255 _ ?side1 ?side2 ?side3 ?side4 A51.out).mono ?_); (case side1 => repeat (first | exact (Kd.R_reads' HO_245001.out).2.2 | (with_reducible refine Kd.C_alloc ?_ _) | (with_reducible refine Kd.C_drewN ?_ _) | (with_reducible refine Kd.C_drew ?_))); (case side2 => exact (Kd.R_reads' HO_245001.out).2.1); (case side3 => repeat (first | exact (Kd.R_reads' HO_245002.out).2.2 | (with_reducible refine Kd.C_alloc ?_ _) | (with_reducible refine Kd.C_drewN ?_ _) | (with_reducible refine Kd.C_drew ?_))); (case side4 => exact (Kd.R_reads' HO_245002.out).2.1); rintro e w69 ⟨rfl, hb⟩; have n0_ := Aside0.mk (Kd.R_below (by (with_reducible repeat (first | apply Kd.R_alloc | apply Kd.R_drewN | apply Kd.R_drew)); exact HO_5.out) hb); have n1_ := Aside0.mk (Kd.R_below (by (with_reducible repeat (first | apply Kd.R_alloc | apply Kd.R_drewN | apply Kd.R_drew)); exact HO_245001.out) hb); have n2_ := Aside0.mk (Kd.R_below (by (with_reducible repeat (first | apply Kd.R_alloc | apply Kd.R_drewN | apply Kd.R_drew)); exact HO_245002.out) hb); have n3_ := Aside0.mk (blk_below (g := gb244) (o := .cells #[.string t236, .slice Ao11 t237.length co11, .slice Ao12 t240.length co12] 24 (0, 0)) (by (with_reducible repeat (first | refine blk_drewN ?_ _ | refine blk_drew ?_ | refine blk_alloc ?_ _)); exact BK244.out) hb); have n4_ := Aside0.mk (below_step (by repeat (first | (with_reducible first | exact HB.out | apply below_alloc | apply pw_below_drewN | apply below_drew1 | refine below_set ?_ GE244.out) | exact HB.out)) hb); clear HO_5; clear HO_245001; clear HO_245002; clear BK244; clear HB; have HO_5 := n0_; have HO_245001 := n1_; have HO_245002 := n2_; have BK244 := n3_; have HB := n4_; clear n0_ n1_ n2_ n3_ n4_; (try clear hb); (try clear hb2); (try clear hk); (try clear hi); have hcz70_0 : w69.cell? ⟨gb244, 0, none⟩ = some (.string t236) := (blk_cell BK244.out 0).trans rfl; have hcz70_1 : w69.cell? ⟨gb244, 1, none⟩ = some (.slice Ao11 t237.length co11) := (blk_cell BK244.out 1).trans rfl; have hcz70_2 : w69.cell? ⟨gb244, 2, none⟩ = some (.slice Ao12 t240.length co12) := (blk_cell BK244.out 2).trans rfl; have hfz70_0 := blk_frozen BK244.out 0; have hfz70_1 := blk_frozen BK244.out 1; have hfz70_2 := blk_frozen BK244.out 2) | (go_at_call 19; (with_reducible refine (find_Index_Distinct.calls k2 t236 _ _ t237 _ _ t240 t256 _ ?side1 ?side2 ?side3 ?side4 A54.out).mono ?_); (case side1 => repeat (first | exact (Kd.R_reads' HO_245001.out).2.2 | (with_reducible refine Kd.C_alloc ?_ _) | (with_reducible refine Kd.C_drewN ?_ _) | (with_reducible refine Kd.C_drew ?_))); (case side2 => exact (Kd.R_reads' HO_245001.out).2.1); (case side3 => repeat (first | exact (Kd.R_reads' HO_245002.out).2.2 | (with_reducible refine Kd.C_alloc ?_ _) | (with_reducible refine Kd.C_drewN ?_ _) | (with_reducible refine Kd.C_drew ?_))); (case side4 => exact (Kd.R_reads' HO_245002.out).2.1); rintro e w71 ⟨rfl, hb⟩; have n0_ := Aside0.mk (Kd.R_below (by (with_reducible repeat (first | apply Kd.R_alloc | apply Kd.R_drewN | apply Kd.R_drew)); exact HO_5.out) hb); have n1_ := Aside0.mk (Kd.R_below (by (with_reducible repeat (first | apply Kd.R_alloc | apply Kd.R_drewN | apply Kd.R_drew)); exact HO_245001.out) hb); have n2_ := Aside0.mk (Kd.R_below (by (with_reducible repeat (first | apply Kd.R_alloc | apply Kd.R_drewN | apply Kd.R_drew)); exact HO_245002.out) hb); have n3_ := Aside0.mk (blk_below (g := gb244) (o := .cells #[.string t236, .slice Ao11 t237.length co11, .slice Ao12 t240.length co12] 24 (0, 0)) (by (with_reducible repeat (first | refine blk_drewN ?_ _ | refine blk_drew ?_ | refine blk_alloc ?_ _)); exact BK244.out) hb); have n4_ := Aside0.mk (below_step (by repeat (first | (with_reducible first | exact HB.out | apply below_alloc | apply pw_below_drewN | apply below_drew1 | refine below_set ?_ GE244.out) | exact HB.out)) hb); clear HO_5; clear HO_245001; clear HO_245002; clear BK244; clear HB; have HO_5 := n0_; have HO_245001 := n1_; have HO_245002 := n2_; have BK244 := n3_; have HB := n4_; clear n0_ n1_ n2_ n3_ n4_; (try clear hb); (try clear hb2); (try clear hk); (try clear hi)))
               go_ret
               exact ⟨by first | rfl | (simp [errW_none, errW_some] <;> rfl) | (simp only [← hji2]; first | rfl | (simp [errW_none, errW_some] <;> rfl)) | (simp [*, errW_none, errW_some] <;> rfl), by repeat (first | (with_reducible first | exact HB.out | apply below_alloc | apply pw_below_drewN | apply below_drew1 | refine below_set ?_ GE244.out) | exact HB.out)⟩
             ·rw [if_neg c53] at H
              have c53b0 : decide (1 < t251) = false := decide_eq_false c53
              clear c53
              obtain rfl := Option.some.inj H
              obtain ⟨Ao72, co72, eo72⟩ := Kd.R_slice HO_5.out
              subst eo72
              have hcz73_0 : wr.cell? ⟨gb244, 0, none⟩ = some (.string t236) := (blk_cell BK244.out 0).trans rfl
              have hcz73_1 : wr.cell? ⟨gb244, 1, none⟩ = some (.slice Ao11 t237.length co11) := (blk_cell BK244.out 1).trans rfl
              have hcz73_2 : wr.cell? ⟨gb244, 2, none⟩ = some (.slice Ao12 t240.length co12) := (blk_cell BK244.out 2).trans rfl
              have hfz73_0 := blk_frozen BK244.out 0
              have hfz73_1 := blk_frozen BK244.out 1
              have hfz73_2 := blk_frozen BK244.out 2
              go_wp2_with (first | ((with_reducible refine gate_callee (f := 17) rfl ?_); refine goesL_ (some 53) rfl rfl Try.func17 (by kernel_rfl) rfl #[.agg #[.string t236, .slice Ao11 t237.length co11, .slice Ao12 t240.length co12]] rfl (by (try simp only [List.map_toArray, List.map_cons, List.map_nil]); first | done | rfl | (simp only [List.length_drop, List.length_take]; rfl)) ?_; (with_reducible refine (find_Index_Repeat.calls k2 t236 _ _ t237 _ _ t240 t250 t251 t252 _ ?side1 ?side2 ?side3 ?side4 A21.out).mono ?_); (case side1 => repeat (first | exact (Kd.R_reads' HO_245001.out).2.2 | (with_reducible refine Kd.C_alloc ?_ _) | (with_reducible refine Kd.C_drewN ?_ _) | (with_reducible refine Kd.C_drew ?_))); (case side2 => exact (Kd.R_reads' HO_245001.out).2.1); (case side3 => repeat (first | exact (Kd.R_reads' HO_245002.out).2.2 | (with_reducible refine Kd.C_alloc ?_ _) | (with_reducible refine Kd.C_drewN ?_ _) | (with_reducible refine Kd.C_drew ?_))); (case side4 => exact (Kd.R_reads' HO_245002.out).2.1); rintro e w74 ⟨rfl, hb⟩; refine ⟨_, rfl, ?_⟩; have n0_ := Aside0.mk (Kd.R_below (by (with_reducible repeat (first | apply Kd.R_alloc | apply Kd.R_drewN | apply Kd.R_drew)); exact HO_5.out) hb); have n1_ := Aside0.mk (Kd.R_below (by (with_reducible repeat (first | apply Kd.R_alloc | apply Kd.R_drewN | apply Kd.R_drew)); exact HO_245001.out) hb); have n2_ := Aside0.mk (Kd.R_below (by (with_reducible repeat (first | apply Kd.R_alloc | apply Kd.R_drewN | apply Kd.R_drew)); exact HO_245002.out) hb); have n3_ := Aside0.mk (blk_below (g := gb244) (o := .cells #[.string t236, .slice Ao11 t237.length co11, .slice Ao12 t240.length co12] 24 (0, 0)) (by (with_reducible repeat (first | refine blk_drewN ?_ _ | refine blk_drew ?_ | refine blk_alloc ?_ _)); exact BK244.out) hb); have n4_ := Aside0.mk (below_step (by repeat (first | (with_reducible first | exact HB.out | apply below_alloc | apply pw_below_drewN | apply below_drew1 | refine below_set ?_ GE244.out) | exact HB.out)) hb); clear HO_5; clear HO_245001; clear HO_245002; clear BK244; clear HB; have HO_5 := n0_; have HO_245001 := n1_; have HO_245002 := n2_; have BK244 := n3_; have HB := n4_; clear n0_ n1_ n2_ n3_ n4_; (try clear hb); (try clear hb2); (try clear hk); (try clear hi); have hcz75_0 : w74.cell? ⟨gb244, 0, none⟩ = some (.string t236) := (blk_cell BK244.out 0).trans rfl; have hcz75_1 : w74.cell? ⟨gb244, 1, none⟩ = some (.slice Ao11 t237.length co11) := (blk_cell BK244.out 1).trans rfl; have hcz75_2 : w74.cell? ⟨gb244, 2, none⟩ = some (.slice Ao12 t240.length co12) := (blk_cell BK244.out 2).trans rfl; have hfz75_0 := blk_frozen BK244.out 0; have hfz75_1 := blk_frozen BK244.out 1; have hfz75_2 := blk_frozen BK244.out 2) | (go_at_call 29; (with_reducible refine (find_Index_Count.calls t236 _ _ t237 _ _ t240 t250 t255 _ ?side1 ?side2 ?side3 ?side4 A51.out).mono ?_); (case side1 => repeat (first | exact (Kd.R_reads' HO_245001.out).2.2 | (with_reducible refine Kd.C_alloc ?_ _) | (with_reducible refine Kd.C_drewN ?_ _) | (with_reducible refine Kd.C_drew ?_))); (case side2 => exact (Kd.R_reads' HO_245001.out).2.1); (case side3 => repeat (first | exact (Kd.R_reads' HO_245002.out).2.2 | (with_reducible refine Kd.C_alloc ?_ _) | (with_reducible refine Kd.C_drewN ?_ _) | (with_reducible refine Kd.C_drew ?_))); (case side4 => exact (Kd.R_reads' HO_245002.out).2.1); rintro e w76 ⟨rfl, hb⟩; have n0_ := Aside0.mk (Kd.R_below (by (with_reducible repeat (first | apply Kd.R_alloc | apply Kd.R_drewN | apply Kd.R_drew)); exact HO_5.out) hb); have n1_ := Aside0.mk (Kd.R_below (by (with_reducible repeat (first | apply Kd.R_alloc | apply Kd.R_drewN | apply Kd.R_drew)); exact HO_245001.out) hb); have n2_ := Aside0.mk (Kd.R_below (by (with_reducible repeat (first | apply Kd.R_alloc | apply Kd.R_drewN | apply Kd.R_drew)); exact HO_245002.out) hb); have n3_ := Aside0.mk (blk_below (g := gb244) (o := .cells #[.string t236, .slice Ao11 t237.length co11, .slice Ao12 t240.length co12] 24 (0, 0)) (by (with_reducible repeat (first | refine blk_drewN ?_ _ | refine blk_drew ?_ | refine blk_alloc ?_ _)); exact BK244.out) hb); have n4_ := Aside0.mk (below_step (by repeat (first | (with_reducible first | exact HB.out | apply below_alloc | apply pw_below_drewN | apply below_drew1 | refine below_set ?_ GE244.out) | exact HB.out)) hb); clear HO_5; clear HO_245001; clear HO_245002; clear BK244; clear HB; have HO_5 := n0_; have HO_245001 := n1_; have HO_245002 := n2_; have BK244 := n3_; have HB := n4_; clear n0_ n1_ n2_ n3_ n4_; (try clear hb); (try clear hb2); (try clear hk); (try clear hi)))
              go_ret
              exact ⟨by first | rfl | (simp [errW_none, errW_some] <;> rfl) | (simp only [← hji2]; first | rfl | (simp [errW_none, errW_some] <;> rfl)) | (simp [*, errW_none, errW_some] <;> rfl), by repeat (first | (with_reducible first | exact HB.out | apply below_alloc | apply pw_below_drewN | apply below_drew1 | refine below_set ?_ GE244.out) | exact HB.out)⟩
            ·rw [if_neg c52] at H
             have c52b0 : (t251 == t255) = false := beq_eq_false_iff_ne.mpr c52
             have c52b1 : (t251 != t255) = true := bne_iff_ne.mpr c52
             obtain rfl := Option.some.inj H
             obtain ⟨Ao77, co77, eo77⟩ := Kd.R_slice HO_5.out
             subst eo77
             have hcz78_0 : wr.cell? ⟨gb244, 0, none⟩ = some (.string t236) := (blk_cell BK244.out 0).trans rfl
             have hcz78_1 : wr.cell? ⟨gb244, 1, none⟩ = some (.slice Ao11 t237.length co11) := (blk_cell BK244.out 1).trans rfl
             have hcz78_2 : wr.cell? ⟨gb244, 2, none⟩ = some (.slice Ao12 t240.length co12) := (blk_cell BK244.out 2).trans rfl
             have hfz78_0 := blk_frozen BK244.out 0
             have hfz78_1 := blk_frozen BK244.out 1
             have hfz78_2 := blk_frozen BK244.out 2
             go_wp2_with (first | ((with_reducible refine gate_callee (f := 17) rfl ?_); refine goesL_ (some 53) rfl rfl Try.func17 (by kernel_rfl) rfl #[.agg #[.string t236, .slice Ao11 t237.length co11, .slice Ao12 t240.length co12]] rfl (by (try simp only [List.map_toArray, List.map_cons, List.map_nil]); first | done | rfl | (simp only [List.length_drop, List.length_take]; rfl)) ?_; (with_reducible refine (find_Index_Repeat.calls k2 t236 _ _ t237 _ _ t240 t250 t251 t252 _ ?side1 ?side2 ?side3 ?side4 A21.out).mono ?_); (case side1 => repeat (first | exact (Kd.R_reads' HO_245001.out).2.2 | (with_reducible refine Kd.C_alloc ?_ _) | (with_reducible refine Kd.C_drewN ?_ _) | (with_reducible refine Kd.C_drew ?_))); (case side2 => exact (Kd.R_reads' HO_245001.out).2.1); (case side3 => repeat (first | exact (Kd.R_reads' HO_245002.out).2.2 | (with_reducible refine Kd.C_alloc ?_ _) | (with_reducible refine Kd.C_drewN ?_ _) | (with_reducible refine Kd.C_drew ?_))); (case side4 => exact (Kd.R_reads' HO_245002.out).2.1); rintro e w79 ⟨rfl, hb⟩; refine ⟨_, rfl, ?_⟩; have n0_ := Aside0.mk (Kd.R_below (by (with_reducible repeat (first | apply Kd.R_alloc | apply Kd.R_drewN | apply Kd.R_drew)); exact HO_5.out) hb); have n1_ := Aside0.mk (Kd.R_below (by (with_reducible repeat (first | apply Kd.R_alloc | apply Kd.R_drewN | apply Kd.R_drew)); exact HO_245001.out) hb); have n2_ := Aside0.mk (Kd.R_below (by (with_reducible repeat (first | apply Kd.R_alloc | apply Kd.R_drewN | apply Kd.R_drew)); exact HO_245002.out) hb); have n3_ := Aside0.mk (blk_below (g := gb244) (o := .cells #[.string t236, .slice Ao11 t237.length co11, .slice Ao12 t240.length co12] 24 (0, 0)) (by (with_reducible repeat (first | refine blk_drewN ?_ _ | refine blk_drew ?_ | refine blk_alloc ?_ _)); exact BK244.out) hb); have n4_ := Aside0.mk (below_step (by repeat (first | (with_reducible first | exact HB.out | apply below_alloc | apply pw_below_drewN | apply below_drew1 | refine below_set ?_ GE244.out) | exact HB.out)) hb); clear HO_5; clear HO_245001; clear HO_245002; clear BK244; clear HB; have HO_5 := n0_; have HO_245001 := n1_; have HO_245002 := n2_; have BK244 := n3_; have HB := n4_; clear n0_ n1_ n2_ n3_ n4_; (try clear hb); (try clear hb2); (try clear hk); (try clear hi); have hcz80_0 : w79.cell? ⟨gb244, 0, none⟩ = some (.string t236) := (blk_cell BK244.out 0).trans rfl; have hcz80_1 : w79.cell? ⟨gb244, 1, none⟩ = some (.slice Ao11 t237.length co11) := (blk_cell BK244.out 1).trans rfl; have hcz80_2 : w79.cell? ⟨gb244, 2, none⟩ = some (.slice Ao12 t240.length co12) := (blk_cell BK244.out 2).trans rfl; have hfz80_0 := blk_frozen BK244.out 0; have hfz80_1 := blk_frozen BK244.out 1; have hfz80_2 := blk_frozen BK244.out 2) | (go_at_call 29; (with_reducible refine (find_Index_Count.calls t236 _ _ t237 _ _ t240 t250 t255 _ ?side1 ?side2 ?side3 ?side4 A51.out).mono ?_); (case side1 => repeat (first | exact (Kd.R_reads' HO_245001.out).2.2 | (with_reducible refine Kd.C_alloc ?_ _) | (with_reducible refine Kd.C_drewN ?_ _) | (with_reducible refine Kd.C_drew ?_))); (case side2 => exact (Kd.R_reads' HO_245001.out).2.1); (case side3 => repeat (first | exact (Kd.R_reads' HO_245002.out).2.2 | (with_reducible refine Kd.C_alloc ?_ _) | (with_reducible refine Kd.C_drewN ?_ _) | (with_reducible refine Kd.C_drew ?_))); (case side4 => exact (Kd.R_reads' HO_245002.out).2.1); rintro e w81 ⟨rfl, hb⟩; have n0_ := Aside0.mk (Kd.R_below (by (with_reducible repeat (first | apply Kd.R_alloc | apply Kd.R_drewN | apply Kd.R_drew)); exact HO_5.out) hb); have n1_ := Aside0.mk (Kd.R_below (by (with_reducible repeat (first | apply Kd.R_alloc | apply Kd.R_drewN | apply Kd.R_drew)); exact HO_245001.out) hb); have n2_ := Aside0.mk (Kd.R_below (by (with_reducible repeat (first | apply Kd.R_alloc | apply Kd.R_drewN | apply Kd.R_drew)); exact HO_245002.out) hb); have n3_ := Aside0.mk (blk_below (g := gb244) (o := .cells #[.string t236, .slice Ao11 t237.length co11, .slice Ao12 t240.length co12] 24 (0, 0)) (by (with_reducible repeat (first | refine blk_drewN ?_ _ | refine blk_drew ?_ | refine blk_alloc ?_ _)); exact BK244.out) hb); have n4_ := Aside0.mk (below_step (by repeat (first | (with_reducible first | exact HB.out | apply below_alloc | apply pw_below_drewN | apply below_drew1 | refine below_set ?_ GE244.out) | exact HB.out)) hb); clear HO_5; clear HO_245001; clear HO_245002; clear BK244; clear HB; have HO_5 := n0_; have HO_245001 := n1_; have HO_245002 := n2_; have BK244 := n3_; have HB := n4_; clear n0_ n1_ n2_ n3_ n4_; (try clear hb); (try clear hb2); (try clear hk); (try clear hi)))
             go_ret
             exact ⟨by first | rfl | (simp [errW_none, errW_some] <;> rfl) | (simp only [← hji2]; first | rfl | (simp [errW_none, errW_some] <;> rfl)) | (simp [*, errW_none, errW_some] <;> rfl), by repeat (first | (with_reducible first | exact HB.out | apply below_alloc | apply pw_below_drewN | apply below_drew1 | refine below_set ?_ GE244.out) | exact HB.out)⟩
           ·rw [if_neg c50] at H
            have c50b0 : ((t250.size : Int) == x7_2) = false := beq_eq_false_iff_ne.mpr c50
            have c50b1 : ((t250.size : Int) != x7_2) = true := bne_iff_ne.mpr c50
            obtain rfl := Option.some.inj H
            obtain ⟨Ao82, co82, eo82⟩ := Kd.R_slice HO_5.out
            subst eo82
            have hcz83_0 : wr.cell? ⟨gb244, 0, none⟩ = some (.string t236) := (blk_cell BK244.out 0).trans rfl
            have hcz83_1 : wr.cell? ⟨gb244, 1, none⟩ = some (.slice Ao11 t237.length co11) := (blk_cell BK244.out 1).trans rfl
            have hcz83_2 : wr.cell? ⟨gb244, 2, none⟩ = some (.slice Ao12 t240.length co12) := (blk_cell BK244.out 2).trans rfl
            have hfz83_0 := blk_frozen BK244.out 0
            have hfz83_1 := blk_frozen BK244.out 1
            have hfz83_2 := blk_frozen BK244.out 2
            go_wp2_with (first | ((with_reducible refine gate_callee (f := 17) rfl ?_); refine goesL_ (some 53) rfl rfl Try.func17 (by kernel_rfl) rfl #[.agg #[.string t236, .slice Ao11 t237.length co11, .slice Ao12 t240.length co12]] rfl (by (try simp only [List.map_toArray, List.map_cons, List.map_nil]); first | done | rfl | (simp only [List.length_drop, List.length_take]; rfl)) ?_; (with_reducible refine (find_Index_Repeat.calls k2 t236 _ _ t237 _ _ t240 t250 t251 t252 _ ?side1 ?side2 ?side3 ?side4 A21.out).mono ?_); (case side1 => repeat (first | exact (Kd.R_reads' HO_245001.out).2.2 | (with_reducible refine Kd.C_alloc ?_ _) | (with_reducible refine Kd.C_drewN ?_ _) | (with_reducible refine Kd.C_drew ?_))); (case side2 => exact (Kd.R_reads' HO_245001.out).2.1); (case side3 => repeat (first | exact (Kd.R_reads' HO_245002.out).2.2 | (with_reducible refine Kd.C_alloc ?_ _) | (with_reducible refine Kd.C_drewN ?_ _) | (with_reducible refine Kd.C_drew ?_))); (case side4 => exact (Kd.R_reads' HO_245002.out).2.1); rintro e w84 ⟨rfl, hb⟩; refine ⟨_, rfl, ?_⟩; have n0_ := Aside0.mk (Kd.R_below (by (with_reducible repeat (first | apply Kd.R_alloc | apply Kd.R_drewN | apply Kd.R_drew)); exact HO_5.out) hb); have n1_ := Aside0.mk (Kd.R_below (by (with_reducible repeat (first | apply Kd.R_alloc | apply Kd.R_drewN | apply Kd.R_drew)); exact HO_245001.out) hb); have n2_ := Aside0.mk (Kd.R_below (by (with_reducible repeat (first | apply Kd.R_alloc | apply Kd.R_drewN | apply Kd.R_drew)); exact HO_245002.out) hb); have n3_ := Aside0.mk (blk_below (g := gb244) (o := .cells #[.string t236, .slice Ao11 t237.length co11, .slice Ao12 t240.length co12] 24 (0, 0)) (by (with_reducible repeat (first | refine blk_drewN ?_ _ | refine blk_drew ?_ | refine blk_alloc ?_ _)); exact BK244.out) hb); have n4_ := Aside0.mk (below_step (by repeat (first | (with_reducible first | exact HB.out | apply below_alloc | apply pw_below_drewN | apply below_drew1 | refine below_set ?_ GE244.out) | exact HB.out)) hb); clear HO_5; clear HO_245001; clear HO_245002; clear BK244; clear HB; have HO_5 := n0_; have HO_245001 := n1_; have HO_245002 := n2_; have BK244 := n3_; have HB := n4_; clear n0_ n1_ n2_ n3_ n4_; (try clear hb); (try clear hb2); (try clear hk); (try clear hi)))
            go_ret
            exact ⟨by first | rfl | (simp [errW_none, errW_some] <;> rfl) | (simp only [← hji2]; first | rfl | (simp [errW_none, errW_some] <;> rfl)) | (simp [*, errW_none, errW_some] <;> rfl), by repeat (first | (with_reducible first | exact HB.out | apply below_alloc | apply pw_below_drewN | apply below_drew1 | refine below_set ?_ GE244.out) | exact HB.out)⟩
          ·rw [if_neg c49] at H
           have c49b0 : (t252 == 0) = false := beq_eq_false_iff_ne.mpr c49
           have c49b1 : (t252 != 0) = true := bne_iff_ne.mpr c49
           obtain rfl := Option.some.inj H
           obtain ⟨Ao85, co85, eo85⟩ := Kd.R_slice HO_5.out
           subst eo85
           have hcz86_0 : wr.cell? ⟨gb244, 0, none⟩ = some (.string t236) := (blk_cell BK244.out 0).trans rfl
           have hcz86_1 : wr.cell? ⟨gb244, 1, none⟩ = some (.slice Ao11 t237.length co11) := (blk_cell BK244.out 1).trans rfl
           have hcz86_2 : wr.cell? ⟨gb244, 2, none⟩ = some (.slice Ao12 t240.length co12) := (blk_cell BK244.out 2).trans rfl
           have hfz86_0 := blk_frozen BK244.out 0
           have hfz86_1 := blk_frozen BK244.out 1
           have hfz86_2 := blk_frozen BK244.out 2
           go_wp2_with (first | ((with_reducible refine gate_callee (f := 17) rfl ?_); refine goesL_ (some 53) rfl rfl Try.func17 (by kernel_rfl) rfl #[.agg #[.string t236, .slice Ao11 t237.length co11, .slice Ao12 t240.length co12]] rfl (by (try simp only [List.map_toArray, List.map_cons, List.map_nil]); first | done | rfl | (simp only [List.length_drop, List.length_take]; rfl)) ?_; (with_reducible refine (find_Index_Repeat.calls k2 t236 _ _ t237 _ _ t240 t250 t251 t252 _ ?side1 ?side2 ?side3 ?side4 A21.out).mono ?_); (case side1 => repeat (first | exact (Kd.R_reads' HO_245001.out).2.2 | (with_reducible refine Kd.C_alloc ?_ _) | (with_reducible refine Kd.C_drewN ?_ _) | (with_reducible refine Kd.C_drew ?_))); (case side2 => exact (Kd.R_reads' HO_245001.out).2.1); (case side3 => repeat (first | exact (Kd.R_reads' HO_245002.out).2.2 | (with_reducible refine Kd.C_alloc ?_ _) | (with_reducible refine Kd.C_drewN ?_ _) | (with_reducible refine Kd.C_drew ?_))); (case side4 => exact (Kd.R_reads' HO_245002.out).2.1); rintro e w87 ⟨rfl, hb⟩; refine ⟨_, rfl, ?_⟩; have n0_ := Aside0.mk (Kd.R_below (by (with_reducible repeat (first | apply Kd.R_alloc | apply Kd.R_drewN | apply Kd.R_drew)); exact HO_5.out) hb); have n1_ := Aside0.mk (Kd.R_below (by (with_reducible repeat (first | apply Kd.R_alloc | apply Kd.R_drewN | apply Kd.R_drew)); exact HO_245001.out) hb); have n2_ := Aside0.mk (Kd.R_below (by (with_reducible repeat (first | apply Kd.R_alloc | apply Kd.R_drewN | apply Kd.R_drew)); exact HO_245002.out) hb); have n3_ := Aside0.mk (blk_below (g := gb244) (o := .cells #[.string t236, .slice Ao11 t237.length co11, .slice Ao12 t240.length co12] 24 (0, 0)) (by (with_reducible repeat (first | refine blk_drewN ?_ _ | refine blk_drew ?_ | refine blk_alloc ?_ _)); exact BK244.out) hb); have n4_ := Aside0.mk (below_step (by repeat (first | (with_reducible first | exact HB.out | apply below_alloc | apply pw_below_drewN | apply below_drew1 | refine below_set ?_ GE244.out) | exact HB.out)) hb); clear HO_5; clear HO_245001; clear HO_245002; clear BK244; clear HB; have HO_5 := n0_; have HO_245001 := n1_; have HO_245002 := n2_; have BK244 := n3_; have HB := n4_; clear n0_ n1_ n2_ n3_ n4_; (try clear hb); (try clear hb2); (try clear hk); (try clear hi)))
           go_ret
           exact ⟨by first | rfl | (simp [errW_none, errW_some] <;> rfl) | (simp only [← hji2]; first | rfl | (simp [errW_none, errW_some] <;> rfl)) | (simp [*, errW_none, errW_some] <;> rfl), by repeat (first | (with_reducible first | exact HB.out | apply below_alloc | apply pw_below_drewN | apply below_drew1 | refine below_set ?_ GE244.out) | exact HB.out)⟩
  ·rw [if_neg c4] at H
   exact absurd H (by simp)
 ·rw [if_neg c3] at H
  exact absurd H (by simp)

/-- THE ONE PURE STATEMENT of silversidelaw07_FindSums: yours. -/
def silversidelaw07_FindSums.Pure : Prop := ∀ (a0 : ByteArray), a0.size ≤ 140737488351232 → ∃ k, silversidelaw07_FindSums.f k a0 = some true
theorem silversidelaw07_FindSums.walk (P : silversidelaw07_FindSums.Pure) (a0 : ByteArray) (w : World) (w0 : a0.size ≤ 140737488351232) :
  Calls Try.prog 7 #[.string a0] w fun e w' => e = .returned (.bool true) ∧ Below w.heap.size w w' := by
 obtain ⟨k, h⟩ := P a0 w0
 refine (silversidelaw07_FindSums.calls k a0 true w h).mono ?_
 rintro e w' ⟨rfl, hd⟩
 exact ⟨rfl, hd⟩

end Go.Proofs.Ytppelnlocfcgfaa.P
namespace Go.Proofs.Ytppelnlocfcgfaa.P
open Go.RowKit Go.Proofs.YtppelnlocfcgfaaW.PrintWords Go.Proofs.YtppelnlocfcgfaaW.PrintLast Go.Proofs.YtppelnlocfcgfaaW.PrintMore
open Go.Proofs.Fnd
set_option linter.unusedVariables false
set_option linter.unusedSimpArgs false
theorem lcp_left {s : List UInt8} {x y z l m : Nat} (hx : LtW (s.length + 1) (sq s x) (sq s y)) (hz : LtW (s.length + 1) (sq s y) (sq s z)) (h : IsLcp s x z l) (h' : IsLcp s x y m) : l ≤ m := by
  apply Decidable.byContradiction
  intro q
  have e1 := h.same m (by omega)
  have d1 := h'.diff
  obtain ⟨a, _, a2, a3⟩ := hx
  have ha : a = m := by
    rcases Nat.lt_trichotomy a m with c | c | c
    · have := h'.same a c; omega
    · exact c
    · exact absurd (a2 m c) d1
  subst ha
  obtain ⟨b, _, b2, b3⟩ := hz
  rcases Nat.lt_trichotomy b a with c | c | c
  · have e2 := h.same b (by omega)
    have e3 := h'.same b c
    omega
  · subst c; omega
  · have := b2 a c; omega
theorem lcp_up (s : List UInt8) {a c : Nat} (h : a < c) (hc : c < s.length) : lcp s ((sufOrd s).getD a 0) ((sufOrd s).getD c 0) ≤ (overL s).getD c 0 := by
  rw [overL_at s c hc, if_neg (by omega)]
  by_cases e : a = c - 1
  · subst e; exact Nat.le_refl _
  · have la := ord_lt s a (by omega)
    have lb := ord_lt s (c - 1) (by omega)
    have lc := ord_lt s c hc
    have ne1 : (sufOrd s).getD a 0 ≠ (sufOrd s).getD c 0 := fun q => by have := ord_inj s (by omega) hc q; omega
    have ne2 : (sufOrd s).getD (c - 1) 0 ≠ (sufOrd s).getD c 0 := fun q => by have := ord_inj s (by omega) hc q; omega
    exact lcp_between (fun q => (ord_up s (a := a) (b := c - 1) (by omega) (by omega)).asymm q) (ord_up s (by omega) hc) (lcp_is s _ _ (by omega) (by omega) ne1) (lcp_is s _ _ (by omega) (by omega) ne2)
theorem lcp_dn (s : List UInt8) {a c : Nat} (h : a < c) (hc : c < s.length) : lcp s ((sufOrd s).getD a 0) ((sufOrd s).getD c 0) ≤ (overL s).getD (a + 1) 0 := by
  rw [overL_at s (a + 1) (by omega), if_neg (by omega), Nat.add_sub_cancel]
  by_cases e : c = a + 1
  · subst e; exact Nat.le_refl _
  · have la := ord_lt s a (by omega)
    have lb := ord_lt s (a + 1) (by omega)
    have lc := ord_lt s c hc
    have ne1 : (sufOrd s).getD a 0 ≠ (sufOrd s).getD c 0 := fun q => by have := ord_inj s (by omega) hc q; omega
    have ne2 : (sufOrd s).getD a 0 ≠ (sufOrd s).getD (a + 1) 0 := fun q => by have := ord_inj s (by omega) (by omega) q; omega
    exact lcp_left (ord_up s (by omega) (by omega)) (ord_up s (by omega) hc) (lcp_is s _ _ (by omega) (by omega) ne1) (lcp_is s _ _ (by omega) (by omega) ne2)
/-- the longest that a place shares with another -/
def mxO (s : List UInt8) (i : Nat) : Nat := max ((overL s).getD (rank s i) 0) ((overL s).getD (rank s i + 1) 0)
theorem overL_len (s : List UInt8) : (overL s).length = s.length := by rw [overL, List.length_map, List.length_range]
theorem mxO_most (s : List UInt8) {i j : Nat} (hi : i < s.length) (hj : j < s.length) (h : i ≠ j) : lcp s i j ≤ mxO s i := by
  have ri := rank_lt s i hi
  have rj := rank_lt s j hj
  have ei := ord_rank s i hi
  have ej := ord_rank s j hj
  unfold mxO
  rcases Nat.lt_trichotomy (rank s i) (rank s j) with c | c | c
  · have := lcp_dn s c rj
    rw [ei, ej] at this
    omega
  · rw [c, ej] at ei; exact absurd ei.symm h
  · have := lcp_up s c ri
    rw [ei, ej, lcp_symm s j i (by omega) (by omega) (fun e => h e.symm)] at this
    omega
theorem mxO_some (s : List UInt8) {i : Nat} (hi : i < s.length) : mxO s i = 0 ∨ ∃ j, j < s.length ∧ j ≠ i ∧ lcp s i j = mxO s i := by
  have ri := rank_lt s i hi
  have ei := ord_rank s i hi
  by_cases h0 : mxO s i = 0
  · exact .inl h0
  · refine .inr ?_
    unfold mxO at h0 ⊢
    by_cases h1 : (overL s).getD (rank s i + 1) 0 ≤ (overL s).getD (rank s i) 0
    · have hr : rank s i ≠ 0 := fun e => by
        rw [e] at h1 h0
        rw [overL_at s 0 (by omega), if_pos rfl] at h1 h0
        omega
      refine ⟨(sufOrd s).getD (rank s i - 1) 0, ord_lt s _ (by omega), fun e => ?_, ?_⟩
      · have := ord_inj s (a := rank s i - 1) (b := rank s i) (by omega) ri (by rw [e, ei]); omega
      · have h2 := overL_at s (rank s i) ri
        rw [if_neg hr, ei] at h2
        rw [lcp_symm s i _ (by omega) (by have := ord_lt s (rank s i - 1) (by omega); omega) (fun e => by have := ord_inj s (a := rank s i - 1) (b := rank s i) (by omega) ri (by rw [← e, ei]); omega), ← h2]
        omega
    · have hr : rank s i + 1 < s.length := by
        apply Decidable.byContradiction
        intro q
        have : (overL s).getD (rank s i + 1) 0 = 0 := by rw [List.getD_eq_getElem?_getD, List.getElem?_eq_none (by rw [overL_len]; omega)]; rfl
        omega
      refine ⟨(sufOrd s).getD (rank s i + 1) 0, ord_lt s _ (by omega), fun e => ?_, ?_⟩
      · have := ord_inj s (a := rank s i + 1) (b := rank s i) (by omega) ri (by rw [e, ei]); omega
      · have h2 := overL_at s (rank s i + 1) hr
        rw [if_neg (by omega), Nat.add_sub_cancel, ei] at h2
        rw [← h2]
        omega
theorem mxO_in (s : List UInt8) {i : Nat} (hi : i < s.length) : i + mxO s i ≤ s.length := by
  rcases mxO_some s hi with h | ⟨j, hj, hne, h⟩
  · omega
  · have := (lcp_is s i j (by omega) (by omega) (fun e => hne e.symm)).inside (by omega) (by omega) (fun e => hne e.symm)
    omega
/-- what Shortest answers -/
def shortA (t : ByteArray) (a : Int) : Int × Int :=
  if a < 0 ∨ (t.size : Int) ≤ a then (0, 2) else if t.size ≤ a.toNat + mxO t.data.toList a.toNat then (0, 6) else ((mxO t.data.toList a.toNat : Int) + 1, 0)
theorem mx_nat (a b : Nat) : mx (a : Int) (b : Int) = ((max a b : Nat) : Int) := by unfold mx; split <;> omega
theorem index_l0 (t : ByteArray) (ht : t.size ≤ 4096) (i : Nat) (hi : i < t.size) : ∀ (d k : Nat), k + d = rank t.data.toList i → Ev (fun K => slices_Index_int_int.l0 K (ordI t) (i : Int) (t.size : Int) (k : Int)) (rank t.data.toList i : Int) := by
  have hl := data_length t
  have h4 := ordI_length t
  have hr := rank_lt t.data.toList i (by omega)
  intro d
  induction d with
  | zero =>
    intro k hk
    have hv := rd_ordI t k (by omega)
    refine Ev.step (f := fun _ => some (rank t.data.toList i : Int)) (fun K => ?_) (Ev.now _)
    conv => lhs; unfold slices_Index_int_int.l0
    rw [if_pos (by omega), if_pos (by omega), if_pos (by omega), hv, if_pos]
    · congr 1; omega
    · rw [show k = rank t.data.toList i by omega, ord_rank _ _ (by omega)]
  | succ d ih =>
    intro k hk
    have hv := rd_ordI t k (by omega)
    refine Ev.step (fun K => ?_) (ih (k + 1) (by omega))
    conv => lhs; unfold slices_Index_int_int.l0
    rw [if_pos (by omega), if_pos (by omega), if_pos (by omega), hv, if_neg, w64 (by omega) (by omega)]
    · rfl
    · intro e
      have := rank_ord t.data.toList k (by omega)
      rw [show (sufOrd t.data.toList).getD k 0 = i by omega] at this
      omega
theorem index_ev (t : ByteArray) (ht : t.size ≤ 4096) (i : Nat) (hi : i < t.size) : Ev (fun K => slices_Index_int_int.f K (ordI t) (i : Int)) (rank t.data.toList i : Int) := by
  refine Ev.congr (fun K => ?_) (index_l0 t ht i hi (rank t.data.toList i) 0 (by omega))
  unfold slices_Index_int_int.f
  rw [ordI_length]; rfl
theorem shortest_in (t : ByteArray) (ht : t.size ≤ 4096) (i : Nat) (hi : i < t.size) : Ev (fun K => find_Index_Shortest.j0 K (i : Int) false t (ordI t) (overI t)) (if t.size ≤ i + mxO t.data.toList i then ((0, 6) : Int × Int) else ((mxO t.data.toList i : Int) + 1, 0)) := by
  have hl := data_length t
  have h4 := ordI_length t
  have h5 := overI_length t
  have hr := rank_lt t.data.toList i (by omega)
  have hin := mxO_in t.data.toList (i := i) (by omega)
  have hv := rd_overI t (rank t.data.toList i) (by omega)
  refine Ev.step (fun K => by rw [find_Index_Shortest.j0, if_neg (by simp)]) ?_
  refine Ev.bind (index_ev t ht i hi) ?_
  rw [if_pos (by omega), if_pos (by omega), w64 (x := (rank t.data.toList i : Int) + 1) (by omega) (by omega)]
  have e2 : ((rank t.data.toList i : Nat) : Int) + 1 = ((rank t.data.toList i + 1 : Nat) : Int) := by omega
  by_cases h1 : rank t.data.toList i + 1 < t.size
  · have hv2 := rd_overI t (rank t.data.toList i + 1) h1
    rw [e2, if_pos (by omega), if_pos (by omega), if_pos (by omega), hv, hv2, mx_nat]
    unfold mxO at hin ⊢
    rw [w64 (x := (i : Int) + _) (by omega) (by omega), w64 (by omega) (by omega)]
    by_cases h : t.size ≤ i + max ((overL t.data.toList).getD (rank t.data.toList i) 0) ((overL t.data.toList).getD (rank t.data.toList i + 1) 0)
    · rw [if_pos h, if_pos (by omega)]; exact Ev.now _
    · rw [if_neg h, if_neg (by omega)]; exact Ev.now _
  · have hz : (overL t.data.toList).getD (rank t.data.toList i + 1) 0 = 0 := by rw [List.getD_eq_getElem?_getD, List.getElem?_eq_none (by rw [overL_len]; omega)]; rfl
    rw [e2, if_neg (by omega), hv]
    unfold mxO at hin ⊢
    rw [hz, Nat.max_zero] at hin ⊢
    rw [w64 (x := (i : Int) + _) (by omega) (by omega), w64 (by omega) (by omega)]
    by_cases h : t.size ≤ i + (overL t.data.toList).getD (rank t.data.toList i) 0
    · rw [if_pos h, if_pos (by omega)]; exact Ev.now _
    · rw [if_neg h, if_neg (by omega)]; exact Ev.now _
theorem shortest_ev (t : ByteArray) (ht : t.size ≤ 4096) (a : Int) : Ev (fun K => find_Index_Shortest.f K t (ordI t) (overI t) a) (shortA t a) := by
  unfold find_Index_Shortest.f shortA
  by_cases h1 : a < 0
  · rw [if_pos (.inl h1)]
    refine ev_pos h1 ?_
    refine Ev.step (f := fun _ => some _) (fun K => ?_) (Ev.now _)
    rw [find_Index_Shortest.j0, if_pos rfl]
  · refine ev_neg h1 ?_
    by_cases h2 : (t.size : Int) ≤ a
    · rw [if_pos (.inr h2), decide_eq_true h2]
      refine Ev.step (f := fun _ => some _) (fun K => ?_) (Ev.now _)
      rw [find_Index_Shortest.j0, if_pos rfl]
    · rw [if_neg (by omega), decide_eq_false h2]
      obtain ⟨i, rfl⟩ : ∃ i : Nat, a = (i : Int) := ⟨a.toNat, by omega⟩
      rw [Int.toNat_natCast]
      exact shortest_in t ht i (by omega)
/-- the most that a place shares with the first places -/
structure Most (t : ByteArray) (i k m : Nat) : Prop where
  le : ∀ j, j < k → j ≠ i → lcp t.data.toList i j ≤ m
  is : m = 0 ∨ ∃ j, j < k ∧ j ≠ i ∧ lcp t.data.toList i j = m
theorem Most.all {t : ByteArray} {i m : Nat} (hi : i < t.size) (h : Most t i t.size m) : m = mxO t.data.toList i := by
  have hl := data_length t
  have h1 : m ≤ mxO t.data.toList i := by
    rcases h.is with h | ⟨j, hj, hne, h⟩
    · omega
    · rw [← h]; exact mxO_most _ (by omega) (by omega) (fun e => hne e.symm)
  have h2 : mxO t.data.toList i ≤ m := by
    rcases mxO_some t.data.toList (i := i) (by omega) with h3 | ⟨j, hj, hne, h3⟩
    · omega
    · rw [← h3]; exact h.le j (by omega) hne
  omega
theorem cpl_at (t : ByteArray) {i j : Nat} (hi : i < t.size) (hj : j < t.size) (h : i ≠ j) : cpl (t.data.toList.drop i) (t.data.toList.drop j) = lcp t.data.toList i j := by
  have hl := data_length t
  exact cpl_lcp (lcp_is t.data.toList i j (by omega) (by omega) h)
theorem refshort_l0 (t : ByteArray) (ht : t.size ≤ 4096) (i : Nat) (hi : i < t.size) : ∀ (d k m : Nat), k + d = t.size → Most t i k m → Ev (fun K => silversideref07_Shortest.l0 K t (i : Int) (m : Int) (k : Int)) (if t.size ≤ i + mxO t.data.toList i then ((0, 6) : Int × Int) else ((mxO t.data.toList i : Int) + 1, 0)) := by
  have hl := data_length t
  have hin := mxO_in t.data.toList (i := i) (by omega)
  intro d
  induction d with
  | zero =>
    intro k m hk hm
    obtain rfl : k = t.size := by omega
    have e := hm.all hi
    subst e
    refine Ev.step (f := fun _ => some _) (fun K => ?_) (Ev.now _)
    conv => lhs; unfold silversideref07_Shortest.l0
    rw [if_neg (by omega), w64 (x := (i : Int) + _) (by omega) (by omega), w64 (by omega) (by omega)]
    by_cases h : t.size ≤ i + mxO t.data.toList i
    · rw [if_pos h, if_pos (by omega)]
    · rw [if_neg h, if_neg (by omega)]
  | succ d ih =>
    intro k m hk hm
    by_cases e : k = i
    · subst e
      have h := ih (k + 1) m (by omega) ⟨fun j hj hne => hm.le j (by omega) hne, by
        rcases hm.is with h | ⟨j, hj, hne, h⟩
        · exact .inl h
        · exact .inr ⟨j, by omega, hne, h⟩⟩
      refine Ev.step (fun K => ?_) h
      conv => lhs; unfold silversideref07_Shortest.l0
      rw [if_pos (by omega), if_pos rfl, w64 (by omega) (by omega)]
      rfl
    · have hc := common_ev t t (by omega) (by omega) i k (by omega) (by omega)
      rw [cpl_at t hi (by omega) (fun q => e q.symm)] at hc
      have h := ih (k + 1) (max m (lcp t.data.toList i k)) (by omega) ⟨fun j hj hne => by
        by_cases e2 : j = k
        · subst e2; omega
        · have := hm.le j (by omega) hne; omega, by
        by_cases e2 : m ≤ lcp t.data.toList i k
        · exact .inr ⟨k, by omega, e, by omega⟩
        · rcases hm.is with h | ⟨j, hj, hne, h⟩
          · omega
          · exact .inr ⟨j, by omega, hne, by omega⟩⟩
      rw [← mx_nat] at h
      refine Ev.step (fun K => ?_) (Ev.bind hc h (f := fun K x => silversideref07_Shortest.l0 K t (i : Int) (mx (m : Int) x) ((k + 1 : Nat) : Int)))
      conv => lhs; unfold silversideref07_Shortest.l0
      rw [if_pos (by omega), if_neg (by omega), w64 (by omega) (by omega)]
      rfl
theorem refshort_ev (t : ByteArray) (ht : t.size ≤ 4096) (a : Int) : Ev (fun K => silversideref07_Shortest.f K t a) (shortA t a) := by
  unfold silversideref07_Shortest.f shortA
  by_cases h1 : a < 0
  · rw [if_pos (.inl h1)]
    refine ev_pos h1 ?_
    refine Ev.step (f := fun _ => some _) (fun K => ?_) (Ev.now _)
    rw [silversideref07_Shortest.j0, if_pos rfl]
  · refine ev_neg h1 ?_
    by_cases h2 : (t.size : Int) ≤ a
    · rw [if_pos (.inr h2), decide_eq_true h2]
      refine Ev.step (f := fun _ => some _) (fun K => ?_) (Ev.now _)
      rw [silversideref07_Shortest.j0, if_pos rfl]
    · rw [if_neg (by omega), decide_eq_false h2]
      obtain ⟨i, rfl⟩ : ∃ i : Nat, a = (i : Int) := ⟨a.toNat, by omega⟩
      rw [Int.toNat_natCast]
      refine Ev.step (fun K => ?_) (refshort_l0 t ht i (by omega) t.size 0 0 (by omega) ⟨fun j hj => by omega, .inl rfl⟩)
      rw [silversideref07_Shortest.j0, if_neg (by simp)]
      rfl
end Go.Proofs.Ytppelnlocfcgfaa.P
namespace Go.Proofs.Ytppelnlocfcgfaa.P
open Go.RowKit Go.Proofs.YtppelnlocfcgfaaW.PrintWords Go.Proofs.YtppelnlocfcgfaaW.PrintLast Go.Proofs.YtppelnlocfcgfaaW.PrintMore
open Go.Proofs.Fnd
set_option linter.unusedVariables false
set_option linter.unusedSimpArgs false
theorem txt_asymm {x y : List UInt8} (h : x < y) (h' : y < x) : False := by
  obtain ⟨m, h1, h2⟩ := (lt_iff x y).1 h
  obtain ⟨k, h3, h4⟩ := (lt_iff y x).1 h'
  rcases Nat.lt_trichotomy m k with c | c | c
  · have := h3 m c; omega
  · subst c; omega
  · have := h1 k c; omega
theorem txt_tri (x y : List UInt8) : x < y ∨ x = y ∨ y < x := by
  rcases tri (x.length + y.length + 1) (ch x) (ch y) with ⟨m, _, h2, h3⟩ | h | ⟨m, _, h2, h3⟩
  · exact .inl ((lt_iff x y).2 ⟨m, h2, h3⟩)
  · refine .inr (.inl ((eq_iff_ch x y).2 fun t => ?_))
    by_cases ht : t < x.length + y.length + 1
    · exact h t ht
    · rw [ch_ge x t (by omega), ch_ge y t (by omega)]
  · exact .inr (.inr ((lt_iff y x).2 ⟨m, h2, h3⟩))
theorem txt_irrefl (x : List UInt8) : ¬ x < x := fun h => txt_asymm h h
theorem countP_add {α : Type} (l : List α) (a b c : α → Bool) (h : ∀ i, i ∈ l → (c i = true ↔ (a i = true ∨ b i = true)) ∧ ¬ (a i = true ∧ b i = true)) : l.countP c = l.countP a + l.countP b := by
  induction l with
  | nil => rfl
  | cons x l ih =>
    have := ih (fun i hi => h i (List.mem_cons_of_mem _ hi))
    have hx := h x (List.mem_cons_self ..)
    rw [List.countP_cons, List.countP_cons, List.countP_cons, this]
    cases ha : a x <;> cases hb : b x <;> cases hc : c x <;> simp [ha, hb, hc] at hx ⊢ <;> omega
/-- how often a pattern occurs -/
def occN (s p : List UInt8) : Nat := (List.range s.length).countP fun i => decide (beginning s p.length i = p)
theorem upto_below (s p : List UInt8) : upto s p = below s p + occN s p := by
  unfold upto below occN
  refine countP_add _ _ _ _ fun i _ => ?_
  simp only [Bool.not_eq_true', decide_eq_false_iff_not, decide_eq_true_eq]
  constructor
  · constructor
    · intro h
      rcases txt_tri (beginning s p.length i) p with q | q | q
      · exact .inl q
      · exact .inr q
      · exact absurd q h
    · rintro (h | h)
      · exact fun q => txt_asymm h q
      · rw [h]; exact txt_irrefl p
  · rintro ⟨h1, h2⟩
    rw [h2] at h1
    exact txt_irrefl p h1
theorem count_occ (t p : ByteArray) (ht : t.size ≤ 4096) (hp : p.size ≤ 140737488351232) : find_Index_Count.f t (ordI t) (overI t) p = some (occN t.data.toList p.data.toList : Int) := by
  rw [count_is t p ht hp, upto_below]
  congr 1
  push_cast
  omega
theorem cnt0 (P : Nat → Bool) : ∀ n, (∀ i, i < n → P i = false) → (List.range n).countP P = 0
  | 0, _ => rfl
  | n + 1, h => by rw [List.range_succ, List.countP_append, cnt0 P n (fun i hi => h i (by omega))]; simp [h n (by omega)]
theorem cnt_pos (P : Nat → Bool) : ∀ n, (∃ i, i < n ∧ P i = true) → 1 ≤ (List.range n).countP P
  | 0, ⟨i, h, _⟩ => by omega
  | n + 1, ⟨i, h, hp⟩ => by
    rw [List.range_succ, List.countP_append]
    by_cases e : i = n
    · subst e; simp [hp]
    · have := cnt_pos P n ⟨i, by omega, hp⟩; omega
theorem cnt1 (P : Nat → Bool) : ∀ n a, a < n → P a = true → (∀ i, i < n → i ≠ a → P i = false) → (List.range n).countP P = 1
  | 0, a, h, _, _ => by omega
  | n + 1, a, h, hp, hn => by
    rw [List.range_succ, List.countP_append]
    by_cases e : a = n
    · subst e; rw [cnt0 P a (fun i hi => hn i (by omega) (by omega))]; simp [hp]
    · rw [cnt1 P n a (by omega) hp (fun i hi hne => hn i (by omega) hne)]; simp [hn n (by omega) (fun q => e q.symm)]
theorem cnt2 (P : Nat → Bool) : ∀ n a b, a < b → b < n → P a = true → P b = true → 2 ≤ (List.range n).countP P
  | 0, a, b, _, h, _, _ => by omega
  | n + 1, a, b, hab, h, hp, hq => by
    rw [List.range_succ, List.countP_append]
    by_cases e : b = n
    · subst e; have := cnt_pos P b ⟨a, hab, hp⟩; have e1 : List.countP P [b] = 1 := by simp [hq]
      omega
    · have := cnt2 P n a b hab (by omega) hp hq; omega
theorem extract_list (t : ByteArray) (a b : Nat) : (t.extract a b).data.toList = (t.data.toList.drop a).take (b - a) := by
  rw [ByteArray.data_extract, Array.toList_extract, List.extract_eq_take_drop]
theorem begin_len (s : List UInt8) (a L : Nat) (h : a + L ≤ s.length) : ((s.drop a).take L).length = L := by
  rw [List.length_take, List.length_drop]; omega
theorem ch_begin (s : List UInt8) (L i t : Nat) : ch ((s.drop i).take L) t = if t < L then sq s i t else 0 := by rw [ch_take, ch_drop]
/-- where a piece occurs -/
theorem begin_eq (s : List UInt8) {a i L : Nat} (ha : a < s.length) (hi : i < s.length) (hL : a + L ≤ s.length) : beginning s L i = (s.drop a).take L ↔ i = a ∨ L ≤ lcp s a i := by
  unfold beginning
  constructor
  · intro h
    by_cases e : i = a
    · exact .inl e
    · refine .inr ?_
      apply Decidable.byContradiction
      intro q
      have hl := lcp_is s a i (by omega) (by omega) (fun q => e q.symm)
      have h1 := (eq_iff_ch _ _).1 h (lcp s a i)
      rw [ch_begin, ch_begin, if_pos (by omega), if_pos (by omega)] at h1
      exact hl.diff h1.symm
  · rintro (h | h)
    · rw [h]
    · by_cases e : i = a
      · rw [e]
      · have hl := lcp_is s a i (by omega) (by omega) (fun q => e q.symm)
        refine (eq_iff_ch _ _).2 fun t => ?_
        rw [ch_begin, ch_begin]
        split
        · exact (hl.same t (by omega)).symm
        · rfl
theorem occ_one (s : List UInt8) {a L : Nat} (ha : a < s.length) (hL : a + L ≤ s.length) (h : mxO s a < L) : occN s ((s.drop a).take L) = 1 := by
  unfold occN
  rw [begin_len s a L hL]
  refine cnt1 _ _ a ha ?_ fun i hi hne => ?_
  · rw [decide_eq_true_eq, begin_eq s ha ha hL]; exact .inl rfl
  · rw [decide_eq_false_iff_not, begin_eq s ha hi hL]
    have := mxO_most s ha hi (fun e => hne e.symm)
    omega
theorem occ_two (s : List UInt8) {a L : Nat} (ha : a < s.length) (hL : a + L ≤ s.length) (h0 : 0 < L) (h : L ≤ mxO s a) : 2 ≤ occN s ((s.drop a).take L) := by
  unfold occN
  rw [begin_len s a L hL]
  rcases mxO_some s ha with h1 | ⟨j, hj, hne, h1⟩
  · omega
  · have pa : decide (beginning s L a = (s.drop a).take L) = true := by rw [decide_eq_true_eq, begin_eq s ha ha hL]; exact .inl rfl
    have pj : decide (beginning s L j = (s.drop a).take L) = true := by rw [decide_eq_true_eq, begin_eq s ha hj hL]; exact .inr (by omega)
    rcases Nat.lt_or_gt_of_ne hne with c | c
    · exact cnt2 _ _ j a c ha pj pa
    · exact cnt2 _ _ a j c hj pa pj
theorem mod_is (a : Int) (n : Nat) (h0 : 0 < n) (hn : n ≤ 1000000) : ∃ r : Nat, r < n ∧ silversidelaw07_mod.f a (n : Int) = some (r : Int) := by
  unfold silversidelaw07_mod.f
  have e1 : IntKind.u64.wrap (n : Int) = (n : Int) := by
    unfold IntKind.wrap
    simp [IntKind.bits, IntKind.signed]
    omega
  rw [e1, if_neg (by omega)]
  have h1 : 0 ≤ IntKind.u64.wrap a := by
    unfold IntKind.wrap
    simp [IntKind.bits, IntKind.signed]
    omega
  rw [Int.tmod_eq_emod_of_nonneg h1]
  generalize IntKind.u64.wrap a = x at *
  have h2 := Int.emod_nonneg x (show (n : Int) ≠ 0 by omega)
  have h3 := Int.emod_lt_of_pos x (show (0 : Int) < (n : Int) by omega)
  refine ⟨(x % (n : Int)).toNat, by omega, ?_⟩
  rw [w64 (by omega) (by omega)]
  congr 1
  omega
end Go.Proofs.Ytppelnlocfcgfaa.P
namespace Go.Proofs.Ytppelnlocfcgfaa.Pure
open Go.RowKit Go.Proofs.Ytppelnlocfcgfaa.P Go.Proofs.YtppelnlocfcgfaaW.PrintWords Go.Proofs.YtppelnlocfcgfaaW.PrintLast
open Go.Proofs.Fnd
theorem best_is (s : List UInt8) (k : Nat) (hk : k ≤ s.length) : (bestOf (sufOrd s) (overL s) k).1 = 0 ∨ ∃ j, j < k ∧ bestOf (sufOrd s) (overL s) k = ((overL s).getD j 0, (sufOrd s).getD j 0) := by
  induction k with
  | zero => exact .inl rfl
  | succ k ih =>
    unfold bestOf
    split
    · exact .inr ⟨k, by omega, rfl⟩
    · rcases ih (by omega) with h | ⟨j, hj, h⟩
      · exact .inl h
      · exact .inr ⟨j, by omega, h⟩
theorem sums_l0 (t : ByteArray) (ht : t.size ≤ 4096) : ∀ (d k : Nat), k + d = t.size → Ev (fun K => silversidelaw07_FindSums.l0 K t (overI t) (sumTo (overL t.data.toList) k : Int) ((bestOf (sufOrd t.data.toList) (overL t.data.toList) k).1 : Int) (k : Int) t (ordI t) (overI t)) true := by
  have hl := data_length t
  have h5 := overI_length t
  have hsq : t.size * (t.size + 1) ≤ 4096 * 4097 := Nat.mul_le_mul ht (by omega)
  have hc : (t.size : Int) * ((t.size : Int) + 1) = ((t.size * (t.size + 1) : Nat) : Int) := by push_cast; rfl
  have ht2 : Int.tdiv ((t.size * (t.size + 1) : Nat) : Int) 2 = ((t.size * (t.size + 1) / 2 : Nat) : Int) := by
    rw [Int.tdiv_eq_ediv_of_nonneg (by omega)]; omega
  have hw : wrap64 (Int.tdiv (wrap64 ((t.size : Int) * (wrap64 ((t.size : Int) + 1)))) 2) = ((t.size * (t.size + 1) / 2 : Nat) : Int) := by
    rw [w64 (x := (t.size : Int) + 1) (by omega) (by omega), hc, w64 (x := ((t.size * (t.size + 1) : Nat) : Int)) (by omega) (by omega), ht2, w64 (by omega) (by omega)]
  intro d
  induction d with
  | zero =>
    intro k hk
    obtain rfl : k = t.size := by omega
    have hs := sumTo_le t t.size (Nat.le_refl _)
    have hs2 : t.size * t.size ≤ 4096 * 4096 := Nat.mul_le_mul ht ht
    have hb := best_in t t.size (Nat.le_refl _)
    refine Ev.step (fun K => by rw [silversidelaw07_FindSums.l0, if_neg (by omega)]) ?_
    have hd := distinct_ev t ht
    unfold distinctA at hd
    rw [hw]
    have hrep := repeat_ev t ht
    by_cases h0 : (bestOf (sufOrd t.data.toList) (overL t.data.toList) t.size).1 = 0
    · have hR : repeatA t = ((⟨#[]⟩ : ByteArray), 0, 6) := by
        unfold repeatA
        exact if_pos h0
      rw [hR] at hrep
      rw [h0]
      refine Ev.bind hrep (ev_pos (by omega) (ev_pos empty_list (ev_pos rfl (ev_pos rfl ?_))))
      have hz : sumTo (overL t.data.toList) t.size = 0 := by
        have key : ∀ k, k ≤ t.size → (bestOf (sufOrd t.data.toList) (overL t.data.toList) k).1 = 0 → sumTo (overL t.data.toList) k = 0 := by
          intro k
          induction k with
          | zero => intro _ _; rfl
          | succ k ih =>
            intro hk h
            unfold bestOf at h
            by_cases c : (bestOf (sufOrd t.data.toList) (overL t.data.toList) k).1 < (overL t.data.toList).getD k 0
            · rw [if_pos c] at h
              have h' : (overL t.data.toList).getD k 0 = 0 := h
              omega
            · rw [if_neg c] at h
              have := ih (by omega) h
              unfold sumTo
              omega
        exact key _ (Nat.le_refl _) h0
      rw [hz] at hd
      exact Ev.bind hd (ev_pos (by omega) (Ev.bind awake_ev (Ev.now _)))
    · rcases best_is t.data.toList t.size (by omega) with h1 | ⟨j, hj, hbe⟩
      · exact absurd h1 h0
      · have hR : repeatA t = (t.extract (bestOf (sufOrd t.data.toList) (overL t.data.toList) t.size).2 ((bestOf (sufOrd t.data.toList) (overL t.data.toList) t.size).2 + (bestOf (sufOrd t.data.toList) (overL t.data.toList) t.size).1), (upto t.data.toList (t.extract (bestOf (sufOrd t.data.toList) (overL t.data.toList) t.size).2 ((bestOf (sufOrd t.data.toList) (overL t.data.toList) t.size).2 + (bestOf (sufOrd t.data.toList) (overL t.data.toList) t.size).1)).data.toList : Int) - (below t.data.toList (t.extract (bestOf (sufOrd t.data.toList) (overL t.data.toList) t.size).2 ((bestOf (sufOrd t.data.toList) (overL t.data.toList) t.size).2 + (bestOf (sufOrd t.data.toList) (overL t.data.toList) t.size).1)).data.toList : Int), 0) := by
          unfold repeatA
          exact if_neg h0
        rw [hR] at hrep
        rw [hbe] at h0 hrep ⊢
        have h0' : (overL t.data.toList).getD j 0 ≠ 0 := h0
        have hin := over_in t.data.toList j (by omega)
        have hr := rank_ord t.data.toList j (by omega)
        have hmx : (overL t.data.toList).getD j 0 ≤ mxO t.data.toList ((sufOrd t.data.toList).getD j 0) := by unfold mxO; rw [hr]; omega
        have hlt := ord_lt t.data.toList j (by omega)
        clear hR hbe hb h0
        dsimp only at hrep ⊢
        generalize (overL t.data.toList).getD j 0 = m at *
        generalize (sufOrd t.data.toList).getD j 0 = i at *
        have h2 := occ_two t.data.toList (a := i) (L := m) hlt (by omega) (by omega) hmx
        have c1 := count_is t (t.extract i (i + m)) ht (by rw [ByteArray.size_extract]; omega)
        have c2 := upto_below t.data.toList (t.extract i (i + m)).data.toList
        have e3 : (t.extract i (i + m)).data.toList = (t.data.toList.drop i).take m := by rw [extract_list, show i + m - i = m by omega]
        have e4 : ((t.extract i (i + m)).size : Int) = (m : Int) := by rw [ByteArray.size_extract]; omega
        rw [e3] at c1 c2 hrep
        refine Ev.bind hrep (ev_neg (by omega) (ev_pos rfl (ev_pos e4 ?_)))
        rw [c1]
        refine ev_pos rfl (ev_pos (by rw [c2]; push_cast; omega) (Ev.bind hd (ev_pos ?_ (Ev.bind awake_ev (Ev.now _)))))
        rw [w64 (by omega) (by omega)]
        omega
  | succ d ih =>
    intro k hk
    have h := ih (k + 1) (by omega)
    have hv := rd_overI t k (by omega)
    have hs := sumTo_le t k (by omega)
    have hs2 : k * t.size ≤ 4096 * 4096 := Nat.mul_le_mul (by omega) ht
    have hin := over_in t.data.toList k (by omega)
    refine Ev.step (fun K => ?_) h
    conv => lhs; unfold silversidelaw07_FindSums.l0
    rw [if_pos (by omega), if_pos (by omega), hv, mx_nat, w64 (by omega) (by omega), w64 (by omega) (by omega)]
    have e1 : ((sumTo (overL t.data.toList) k : Nat) : Int) + (((overL t.data.toList).getD k 0 : Nat) : Int) = ((sumTo (overL t.data.toList) (k + 1) : Nat) : Int) := by rw [sumTo]; push_cast; rfl
    have e2 : max (bestOf (sufOrd t.data.toList) (overL t.data.toList) k).1 ((overL t.data.toList).getD k 0) = (bestOf (sufOrd t.data.toList) (overL t.data.toList) (k + 1)).1 := by
      rw [bestOf]
      by_cases c : (bestOf (sufOrd t.data.toList) (overL t.data.toList) k).1 < (overL t.data.toList).getD k 0
      · rw [if_pos c]; exact Nat.max_eq_right (by omega)
      · rw [if_neg c]; exact Nat.max_eq_left (by omega)
    rw [e1, e2]
    rfl
theorem FindSums : silversidelaw07_FindSums.Pure := by
  intro a0 _
  refine Ev.rounds ?_
  unfold silversidelaw07_FindSums.f
  have hm := mn_nat a0.size 1000
  rw [show ((1000 : Nat) : Int) = 1000 from rfl] at hm
  rw [hm]
  refine ev_pos (by omega) (ev_pos (by omega) ?_)
  rw [Int.toNat_natCast]
  have ht : (a0.extract 0 (min a0.size 1000)).size ≤ 4096 := by rw [ByteArray.size_extract]; omega
  generalize a0.extract 0 (min a0.size 1000) = t at *
  have h5 := overI_length t
  refine Ev.bind (find_New_ev t ht) ?_
  simp only [find_Index_Overlaps.f, slices_Clone_int.f]
  rw [if_pos (by omega)]
  simp only [Option.bind_some, if_true]
  have e1 : (((overI t).length : Int) != (t.size : Int)) = false := by simp [h5]
  rw [e1]
  refine Ev.step (fun K => by rw [silversidelaw07_FindSums.j0, if_neg (by simp)]) ?_
  exact sums_l0 t ht t.size 0 (by omega)
end Go.Proofs.Ytppelnlocfcgfaa.Pure
