/- Proved here: what functions that the law reaches compute, and plain laws of that. No conditions but those that the theorems state. Put together by a program; a part of it was printed by a program of the session's, by way of the kit's printer (wip/printplus.py, wip/mend*.py). -/
import Derived.Test.YthaklbjcjoolcaaB1
import Derived.Test.YthaklbjcjoolcaaB4
import Derived.Test.YthaklbjcjoolcaaB2
import Derived.Test.YthaklbjcjoolcaaB3
import Derived.Outline
import Derived.Deep.DeepMust
import Derived.Laws.EntriesVeiled
import Derived.BigRegion
import Derived.BigQuiet
import Derived.StillTailTactics
import Derived.Deep.LoopGhost
import Derived.WalkMore
import Derived.Test.YthaklbjcjoolcaaB5
set_option linter.unusedVariables false
set_option linter.unusedSimpArgs false
namespace Go.Proofs.Ythaklbjcjoolcaa.P
open Go.RowKit Go.Proofs.YthaklbjcjoolcaaW.PrintWords
/-- a row that lay in memory lies there behind draws and new blocks -/
theorem rX {α : Type} {d : Kd α} {e base : Nat} {ok : Nat → Prop} {v : Value} {xs : List α} {w W : World} [h : On w W] (k : d.R e w base ok v xs) : d.R e W base ok v xs :=
  Kd.R_step k (fun j _ hj => by
    have e : w.heap[j]? = some w.heap[j] := Array.getElem?_eq_getElem hj
    rw [h.at_ e, e])
end Go.Proofs.Ythaklbjcjoolcaa.P
namespace Go.Proofs.Ythaklbjcjoolcaa.P
open Go.RowKit Go.Proofs.YthaklbjcjoolcaaW.PrintWords Go.Proofs.YthaklbjcjoolcaaW.PrintLast Go.Proofs.YthaklbjcjoolcaaW.PrintMore
attribute [local go_sem] max2_int min2_int max_two min_two max_three min_three max_four min_four   -- for this text's walks alone
set_option linter.unusedVariables false
set_option linter.unusedSimpArgs false

/-! ### silversideref01_Set: function 33 -/
def silversideref01_Set.f (k : Nat) (l0 : List (S31)) : Option (Bool) := if (l0.length : Int) ≥ 1 then (if (l0.length : Int) ≤ 512 then ((silversideref01_Valids.f k l0).bind fun t315 => (some t315)) else (some false)) else (some false)
theorem silversideref01_Set.mono : ∀ a0 k, LeO (silversideref01_Set.f k a0) (silversideref01_Set.f (k + 1) a0) := by
 intro a0 k
 unfold silversideref01_Set.f
 repeat' first
   | (with_reducible exact silversideref01_Valids.mono _ _)
   | (with_reducible exact LeO.refl _)
   | (with_reducible exact LeO.none _)
   | (with_reducible refine LeO.ite ?_ ?_)
   | (with_reducible refine LeO.bind ?_ (fun _ => ?_))
   | exact silversideref01_Valids.mono _ _
   | exact LeO.none _
   | refine LeO.ite ?_ ?_
   | refine LeO.bind ?_ (fun _ => ?_)
set_option maxHeartbeats 8000000 in
set_option maxRecDepth 100000 in
theorem silversideref01_Set.calls (k : Nat) (A0 : Option Addr) (c0 : Nat) (l0 : List (S31)) (r : Bool) (w : World) (hr0 : Kd.C k31 w A0 l0.length l0) (hc0 : l0.length ≤ c0) (h : silversideref01_Set.f k l0 = some r) :
  Calls Try.prog 33 #[.slice A0 l0.length c0] w fun e w' => e = .returned (.bool r) ∧ Below w.heap.size w w' := by
 have HR0 := Aside0.mk hr0
 have HC0 := Aside0.mk hc0
 clear hr0 hc0
 have HB := Aside0.mk (Below.refl w.heap.size w)
 have H : (if (l0.length : Int) ≥ 1 then (if (l0.length : Int) ≤ 512 then ((silversideref01_Valids.f k l0).bind fun t315 => (some t315)) else (some false)) else (some false)) = some r := h
 clear h
 by_cases c2 : (l0.length : Int) ≥ 1
 ·rw [if_pos c2] at H
  have c2b0 : decide (1 ≤ (l0.length : Int)) = true := decide_eq_true c2
  have c2b1 : decide (1 ≤ l0.length) = true := decide_eq_true (by omega)
  clear c2
  by_cases c3 : (l0.length : Int) ≤ 512
  ·rw [if_pos c3] at H
   have c3b0 : decide ((l0.length : Int) ≤ 512) = true := decide_eq_true c3
   have c3b1 : decide (l0.length ≤ 512) = true := decide_eq_true (by omega)
   clear c3
   replace H := Option.bind_eq_some_iff.mp H
   obtain ⟨t315, A40, H⟩ := H
   replace H : (some t315) = some r := H
   have A4 := Aside0.mk A40
   clear A40
   obtain rfl := Option.some.inj H
   go_enter Try.func33, Try.ntmps33
   go_wp2_with (first | (go_at_call 22; (with_reducible refine (silversideref01_Valids.calls k _ _ l0 t315 _ ?side1 ?side2 A4.out).mono ?_); (case side1 => repeat (first | exact HR0.out | (with_reducible refine Kd.C_alloc ?_ _) | (with_reducible refine Kd.C_drewN ?_ _) | (with_reducible refine Kd.C_drew ?_))); (case side2 => exact HC0.out); rintro e w5 ⟨rfl, hb⟩; have n0_ := Aside0.mk (below_step (by repeat (first | (with_reducible first | exact HB.out | apply lA | apply lN | apply lD) | exact HB.out)) hb); clear HB; have HB := n0_; clear n0_; (try clear hb); (try clear hb2); (try clear hk); (try clear hi)))
   go_ret
   exact ⟨by first | rfl | (simp [errW_none, errW_some] <;> rfl) | (simp [*, errW_none, errW_some] <;> rfl), by repeat (first | (with_reducible first | exact HB.out | apply lA | apply lN | apply lD) | exact HB.out)⟩
  rw [if_neg c3] at H
  have c3b0 : decide ((l0.length : Int) ≤ 512) = false := decide_eq_false c3
  have c3b1 : decide (l0.length ≤ 512) = false := decide_eq_false (by omega)
  clear c3
  obtain rfl := Option.some.inj H
  go_enter Try.func33, Try.ntmps33
  go_wp2
  go_ret
  exact ⟨by first | rfl | (simp [errW_none, errW_some] <;> rfl) | (simp [*, errW_none, errW_some] <;> rfl), by repeat (first | (with_reducible first | exact HB.out | apply lA | apply lN | apply lD) | exact HB.out)⟩
 rw [if_neg c2] at H
 have c2b0 : decide (1 ≤ (l0.length : Int)) = false := decide_eq_false c2
 have c2b1 : decide (1 ≤ l0.length) = false := decide_eq_false (by omega)
 clear c2
 obtain rfl := Option.some.inj H
 go_enter Try.func33, Try.ntmps33
 go_wp2
 go_ret
 exact ⟨by first | rfl | (simp [errW_none, errW_some] <;> rfl) | (simp [*, errW_none, errW_some] <;> rfl), by repeat (first | (with_reducible first | exact HB.out | apply lA | apply lN | apply lD) | exact HB.out)⟩

end Go.Proofs.Ythaklbjcjoolcaa.P
namespace Go.Proofs.Ythaklbjcjoolcaa.P
open Go.RowKit Go.Proofs.YthaklbjcjoolcaaW.PrintWords Go.Proofs.YthaklbjcjoolcaaW.PrintLast Go.Proofs.YthaklbjcjoolcaaW.PrintMore
attribute [local go_sem] max2_int min2_int max_two min_two max_three min_three max_four min_four   -- for this text's walks alone
set_option linter.unusedVariables false
set_option linter.unusedSimpArgs false

/-! ### silversideref01_Square: function 65 -/
def silversideref01_Square.f (a0_0 : Int) (a0_1 : Int) (a1_0 : Int) (a1_1 : Int) : Option (Int) := some (wrap64 ((wrap64 ((wrap64 (a0_0 - a1_0)) * (wrap64 (a0_0 - a1_0)))) + (wrap64 ((wrap64 (a0_1 - a1_1)) * (wrap64 (a0_1 - a1_1))))))
set_option maxHeartbeats 8000000 in
set_option maxRecDepth 100000 in
theorem silversideref01_Square.calls (a0_0 : Int) (a0_1 : Int) (a1_0 : Int) (a1_1 : Int) (r : Int) (w : World) (h : silversideref01_Square.f a0_0 a0_1 a1_0 a1_1 = some r) :
  Calls Try.prog 65 #[.agg #[.int .i64 a0_0, .int .i64 a0_1], .agg #[.int .i64 a1_0, .int .i64 a1_1]] w fun e w' => e = .returned (.int .i64 r) ∧ Below w.heap.size w w' := by
 have hu31 := Try.underlying31
 have HB := Aside0.mk (Below.refl w.heap.size w)
 have H : (some (wrap64 ((wrap64 ((wrap64 (a0_0 - a1_0)) * (wrap64 (a0_0 - a1_0)))) + (wrap64 ((wrap64 (a0_1 - a1_1)) * (wrap64 (a0_1 - a1_1))))))) = some r := h
 clear h
 obtain rfl := Option.some.inj H
 go_enter Try.func65, Try.ntmps65
 go_wp2_with (first | ((with_reducible refine gate_dst (N := 2) rfl ?_); refine box_event ?hg (N := 2) ?hd (cs := #[.int .i64 a0_0, .int .i64 a0_1]) (t := 31) ?hr ?_; (case hd => rfl); (case hg => rfl); (case hr => first | (go_simp; done) | (go_simp; rfl)); intro gb582 hg w3 hbox hb; have n0_ := Aside0.mk (below_step (by repeat (first | (with_reducible first | exact HB.out | apply lA | apply lN | apply lD) | exact HB.out)) hb); have n1_ := Aside0.mk (hbox); have n2_ := Aside0.mk ((by rw [hg]; exact (below_size (by repeat (first | (with_reducible first | exact HB.out | apply lA | apply lN | apply lD) | exact HB.out))) : w.heap.size ≤ gb582)); have n3_ := Aside0.mk ((by rw [hg]; exact (below_size (by repeat (first | (with_reducible first | exact HB.out | apply lA | apply lN | apply lD) | exact HB.out))) : w.heap.size ≤ gb582)); clear HB; have HB := n0_; have BK582 := n1_; have GW582 := n2_; have GE582 := n3_; clear n0_ n1_ n2_ n3_; clear hb hbox hg) | ((with_reducible refine gate_dst (N := 3) rfl ?_); refine box_event ?hg (N := 3) ?hd (cs := #[.int .i64 a1_0, .int .i64 a1_1]) (t := 31) ?hr ?_; (case hd => rfl); (case hg => rfl); (case hr => first | (go_simp; done) | (go_simp; rfl)); intro gb583 hg w4 hbox hb; have n0_ := Aside0.mk (blk_below (g := gb582) (o := .cells #[.int .i64 a0_0, .int .i64 a0_1] 31 (0, 0)) (kX BK582.out) hb); have n1_ := Aside0.mk (below_step (by repeat (first | (with_reducible first | exact HB.out | apply lA | apply lN | apply lD | refine lS ?_ GE582.out) | exact HB.out)) hb); have n2_ := Aside0.mk (hbox); have n3_ := Aside0.mk ((by rw [hg]; exact (below_size (by repeat (first | (with_reducible first | exact HB.out | apply lA | apply lN | apply lD | refine lS ?_ GE582.out) | exact HB.out))) : w.heap.size ≤ gb583)); have n4_ := Aside0.mk ((by rw [hg]; exact (below_size (by repeat (first | (with_reducible first | exact HB.out | apply lA | apply lN | apply lD | refine lS ?_ GE582.out) | exact HB.out))) : w.heap.size ≤ gb583)); have n5_ := Aside0.mk ((by rw [hg]; exact Nat.ne_of_lt (blk_lt (g := gb582) (o := .cells #[.int .i64 a0_0, .int .i64 a0_1] 31 (0, 0)) (kX BK582.out)) : gb582 ≠ gb583)); have n6_ := Aside0.mk ((by rw [hg]; exact Nat.ne_of_gt (blk_lt (g := gb582) (o := .cells #[.int .i64 a0_0, .int .i64 a0_1] 31 (0, 0)) (kX BK582.out)) : gb583 ≠ gb582)); clear BK582; clear HB; have BK582 := n0_; have HB := n1_; have BK583 := n2_; have GW583 := n3_; have GE583 := n4_; have NB582_583 := n5_; have NB583_582 := n6_; clear n0_ n1_ n2_ n3_ n4_ n5_ n6_; clear hb hbox hg; have hnb5 := NB582_583.out; have hnc5 := NB583_582.out; have hcz6_0 : w4.cell? ⟨gb582, 0, none⟩ = some (.int .i64 a0_0) := (blk_cell BK582.out 0).trans rfl; have hcz6_1 : w4.cell? ⟨gb582, 1, none⟩ = some (.int .i64 a0_1) := (blk_cell BK582.out 1).trans rfl; have hfz6_0 := blk_frozen BK582.out 0; have hfz6_1 := blk_frozen BK582.out 1; have hcz7_0 : w4.cell? ⟨gb583, 0, none⟩ = some (.int .i64 a1_0) := (blk_cell BK583.out 0).trans rfl; have hcz7_1 : w4.cell? ⟨gb583, 1, none⟩ = some (.int .i64 a1_1) := (blk_cell BK583.out 1).trans rfl; have hfz7_0 := blk_frozen BK583.out 0; have hfz7_1 := blk_frozen BK583.out 1))
 go_ret
 exact ⟨by first | rfl | (simp [errW_none, errW_some] <;> rfl) | (simp [*, errW_none, errW_some] <;> rfl), by repeat (first | (with_reducible first | exact HB.out | apply lA | apply lN | apply lD | refine lS ?_ GE582.out | refine lS ?_ GE583.out) | exact HB.out)⟩

end Go.Proofs.Ythaklbjcjoolcaa.P
namespace Go.Proofs.Ythaklbjcjoolcaa.P
open Go.RowKit Go.Proofs.YthaklbjcjoolcaaW.PrintWords Go.Proofs.YthaklbjcjoolcaaW.PrintLast Go.Proofs.YthaklbjcjoolcaaW.PrintMore
attribute [local go_sem] max2_int min2_int max_two min_two max_three min_three max_four min_four   -- for this text's walks alone
set_option linter.unusedVariables false
set_option linter.unusedSimpArgs false

/-! ### silversideref01_Widest: function 46 -/
mutual
def silversideref01_Widest.l0 : Nat → List (S31) → Int → Int → Option (Int)
 | 0, _, _, _ => none
 | k + 1, x0, x3, x4 => if x4 < (x0.length : Int) then (silversideref01_Widest.l1 k x0 x3 x4 0) else (some x3)
def silversideref01_Widest.l1 : Nat → List (S31) → Int → Int → Int → Option (Int)
 | 0, _, _, _, _ => none
 | k + 1, x0, x3, x4, x5 => if x5 < x4 then (if 0 ≤ x4 then (if x4 < (x0.length : Int) then (if 0 ≤ x5 then (if x5 < (x0.length : Int) then ((silversideref01_Square.f ((rd_T31 x0 x4).f0) ((rd_T31 x0 x4).f1) ((rd_T31 x0 x5).f0) ((rd_T31 x0 x5).f1)).bind fun t586 => (silversideref01_Widest.l1 k x0 (mx x3 t586) x4 (wrap64 (x5 + 1)))) else (none)) else (none)) else (none)) else (none)) else (silversideref01_Widest.l0 k x0 x3 (wrap64 (x4 + 1)))
end
def silversideref01_Widest.f (k : Nat) (l0 : List (S31)) : Option (Int) := silversideref01_Widest.l0 k l0 0 0
theorem silversideref01_Widest.mono_l : ∀ k, (∀ y0 y1 y2, LeO (silversideref01_Widest.l0 k y0 y1 y2) (silversideref01_Widest.l0 (k + 1) y0 y1 y2)) ∧ (∀ y0 y1 y2 y3, LeO (silversideref01_Widest.l1 k y0 y1 y2 y3) (silversideref01_Widest.l1 (k + 1) y0 y1 y2 y3))
 | 0 => ⟨fun _ _ _ r h => by simp [silversideref01_Widest.l0] at h, fun _ _ _ _ r h => by simp [silversideref01_Widest.l1] at h⟩
 | k + 1 => by
  obtain ⟨ih0, ih1⟩ := silversideref01_Widest.mono_l k
  refine ⟨?_, ?_⟩
  ·intro y0 y1 y2
   unfold silversideref01_Widest.l0
   repeat' first
   | (with_reducible exact ih0 _ _ _)
   | (with_reducible exact ih1 _ _ _ _)
   | (with_reducible exact LeO.refl _)
   | (with_reducible exact LeO.none _)
   | (with_reducible refine LeO.ite ?_ ?_)
   | (with_reducible refine LeO.bind ?_ (fun _ => ?_))
   | exact ih0 _ _ _
   | exact ih1 _ _ _ _
   | exact LeO.none _
   | refine LeO.ite ?_ ?_
   | refine LeO.bind ?_ (fun _ => ?_)
  ·intro y0 y1 y2 y3
   unfold silversideref01_Widest.l1
   repeat' first
   | (with_reducible exact ih0 _ _ _)
   | (with_reducible exact ih1 _ _ _ _)
   | (with_reducible exact LeO.refl _)
   | (with_reducible exact LeO.none _)
   | (with_reducible refine LeO.ite ?_ ?_)
   | (with_reducible refine LeO.bind ?_ (fun _ => ?_))
   | exact ih0 _ _ _
   | exact ih1 _ _ _ _
   | exact LeO.none _
   | refine LeO.ite ?_ ?_
   | refine LeO.bind ?_ (fun _ => ?_)
theorem silversideref01_Widest.mono : ∀ a0 k, LeO (silversideref01_Widest.f k a0) (silversideref01_Widest.f (k + 1) a0) := by
 intro a0 k
 obtain ⟨ih0, ih1⟩ := silversideref01_Widest.mono_l k
 unfold silversideref01_Widest.f
 repeat' first
   | (with_reducible exact ih0 _ _ _)
   | (with_reducible exact ih1 _ _ _ _)
   | (with_reducible exact LeO.refl _)
   | (with_reducible exact LeO.none _)
   | (with_reducible refine LeO.ite ?_ ?_)
   | (with_reducible refine LeO.bind ?_ (fun _ => ?_))
   | exact ih0 _ _ _
   | exact ih1 _ _ _ _
   | exact LeO.none _
   | refine LeO.ite ?_ ?_
   | refine LeO.bind ?_ (fun _ => ?_)
def silversideref01_Widest.T8 : Bool × List (List Nat × List Nat) := (true, [([], []), ([], []), ([], []), ([1, 2], [1, 2]), ([3], [3]), ([], []), ([], []), ([5, 6], [5, 6]), ([7], [7]), ([4, 8], [4, 8]), ([0, 9], [0, 9]), ([10, 9, 0, 1, 2, 3, 4, 5, 6, 7, 8, 9, 10], [0, 10])])
def silversideref01_Widest.B8 : List Nat := [0, 0, 0, 6, 14, 0, 0, 96, 224, 510, 1023, 2047]
theorem silversideref01_Widest.tab8 : rtab .any (opsOf Try.f46 8) = silversideref01_Widest.T8 := by kernel_rfl
theorem silversideref01_Widest.bits8 : waitsOk silversideref01_Widest.T8.2 silversideref01_Widest.B8 = true := by kernel_rfl
set_option maxHeartbeats 8000000 in
set_option maxRecDepth 100000 in
theorem silversideref01_Widest.calls (k : Nat) (A0 : Option Addr) (c0 : Nat) (l0 : List (S31)) (r : Int) (w : World) (hr0 : Kd.C k31 w A0 l0.length l0) (hc0 : l0.length ≤ c0) (h : silversideref01_Widest.f k l0 = some r) :
  Calls Try.prog 46 #[.slice A0 l0.length c0] w fun e w' => e = .returned (.int .i64 r) ∧ Below w.heap.size w w' := by
 have hu31 := Try.underlying31
 have HR0 := Aside0.mk hr0
 have HC0 := Aside0.mk hc0
 clear hr0 hc0
 have HB := Aside0.mk (Below.refl w.heap.size w)
 have H : (silversideref01_Widest.l0 k l0 0 0) = some r := h
 clear h
 have H' := Aside0.mk H
 clear H
 go_enter Try.func46, Try.ntmps46
 go_wp2
 go_loopg [3, 4] k (fun kq v3 v4 w' => ∃ (x3_1 : Int) (x4_1 : Int), v3 = .int .i64 x3_1 ∧ v4 = .int .i64 x4_1 ∧ Aside0 (silversideref01_Widest.l0 kq l0 x3_1 x4_1 = some r) ∧ Aside0 (kq ≤ k) ∧ Aside0 (Below w.heap.size w w'))
 case atStart => exact ⟨(0), (0), (by first | rfl | (simp; done) | (simp [*]; done)), (by first | rfl | (simp; done) | (simp [*]; done)), H', ⟨Nat.le_refl _⟩, ⟨by repeat (first | (with_reducible first | exact HB.out | apply lA | apply lN | apply lD) | exact HB.out)⟩⟩
 case round =>
  clear H'
  obtain ⟨x3_1, x4_1, rfl, rfl, HA, HK1, HB⟩ := hrel
  cases gk with
  | zero => exact absurd HA.out (by simp [silversideref01_Widest.l0])
  | succ k1 =>
   have H := HA.out
   clear HA
   simp only [silversideref01_Widest.l0] at H
   by_cases c2 : x4_1 < (l0.length : Int)
   ·rw [if_pos c2] at H
    have c2b0 : decide (x4_1 < (l0.length : Int)) = true := decide_eq_true c2
    clear c2
    have H' := Aside0.mk H
    clear H
    go_wp2
    go_loopg [3, 5] k1 (fun kq v3 v5 w' => ∃ (x3_2 : Int) (x5_2 : Int), v3 = .int .i64 x3_2 ∧ v5 = .int .i64 x5_2 ∧ Aside0 (silversideref01_Widest.l1 kq l0 x3_2 x4_1 x5_2 = some r) ∧ Aside0 (kq ≤ k1) ∧ Aside0 (Below w.heap.size w w'))
    case atStart => exact ⟨(x3_1), (0), (by first | rfl | (simp; done) | (simp [*]; done)), (by first | rfl | (simp; done) | (simp [*]; done)), H', ⟨Nat.le_refl _⟩, ⟨by repeat (first | (with_reducible first | exact HB.out | apply lA | apply lN | apply lD) | exact HB.out)⟩⟩
    case round =>
     clear H'
     try clear c2
     try clear c2b0
     try clear p2
     obtain ⟨x3_2, x5_2, rfl, rfl, HA, HK2, HB⟩ := hrel
     cases gk with
     | zero => exact absurd HA.out (by simp [silversideref01_Widest.l1])
     | succ k2 =>
      have H := HA.out
      clear HA
      simp only [silversideref01_Widest.l1] at H
      by_cases c3 : x5_2 < x4_1
      ·rw [if_pos c3] at H
       have c3b0 : decide (x5_2 < x4_1) = true := decide_eq_true c3
       clear c3
       by_cases c4 : 0 ≤ x4_1
       ·rw [if_pos c4] at H
        have c4b0 : decide (0 ≤ x4_1) = true := decide_eq_true c4
        clear c4
        by_cases c5 : x4_1 < (l0.length : Int)
        ·rw [if_pos c5] at H
         have c5b0 : decide (x4_1 < (l0.length : Int)) = true := decide_eq_true c5
         clear c5
         by_cases c6 : 0 ≤ x5_2
         ·rw [if_pos c6] at H
          have c6b0 : decide (0 ≤ x5_2) = true := decide_eq_true c6
          clear c6
          by_cases c7 : x5_2 < (l0.length : Int)
          ·rw [if_pos c7] at H
           have c7b0 : decide (x5_2 < (l0.length : Int)) = true := decide_eq_true c7
           clear c7
           replace H := Option.bind_eq_some_iff.mp H
           obtain ⟨t586, A80, H⟩ := H
           replace H : (silversideref01_Widest.l1 k2 l0 (mx x3_2 t586) x4_1 (wrap64 (x5_2 + 1))) = some r := H
           have A8 := Aside0.mk A80
           clear A80
           obtain ⟨ji9, hji9⟩ : ∃ j_ : Int, (mx x3_2 t586) = j_ := ⟨_, rfl⟩
           replace H : (silversideref01_Widest.l1 k2 l0 ji9 x4_1 (wrap64 (x5_2 + 1))) = some r := by first | (rw [hji9] at H; exact H) | (simp only [hji9] at H ⊢; exact H)
           (try rw [hji9] at A8)
           have hji9_ : (if x3_2 < t586 then t586 else x3_2) = ji9 := hji9
           have H' := Aside0.mk H
           clear H
           try go_wp2
           have n0_ := Aside0.mk (lD HB.out)
           clear HB
           have HB := n0_
           clear n0_
           have p584 : 0 ≤ (x4_1 : Int) := of_decide_eq_true (by first | (with_reducible assumption) | assumption)
           have q584 : x4_1 < (l0.length : Int) := of_decide_eq_true (by first | (with_reducible assumption) | assumption)
           obtain ⟨ad584, e584, hx584_0, hx584_1⟩ := at_T31 HR0.out x4_1 p584 q584
           have hw584_1 := hx584_1
           have hw584_0 := hx584_0
           cases e584
           replace hx584_0 := cB HB.out hx584_0
           replace hx584_1 := cB HB.out hx584_1
           replace p584 := eq_true p584
           replace q584 := eq_true q584
           have p585 : 0 ≤ (x5_2 : Int) := of_decide_eq_true (by first | (with_reducible assumption) | assumption)
           have q585 : x5_2 < (l0.length : Int) := of_decide_eq_true (by first | (with_reducible assumption) | assumption)
           obtain ⟨ad585, e585, hx585_0, hx585_1⟩ := at_T31 HR0.out x5_2 p585 q585
           have hw585_1 := hx585_1
           have hw585_0 := hx585_0
           obtain rfl : ad584 = ad585 := (by injection e585)
           replace hx585_0 := cB HB.out hx585_0
           replace hx585_1 := cB HB.out hx585_1
           replace p585 := eq_true p585
           replace q585 := eq_true q585
           refine start_ (n := 12) (S := fun w' => w'.cell? (ad584.add ((x4_1).toNat * 2)) = some (.int .i64 ((rd_T31 l0 x4_1).f0)) ∧ w'.cell? ⟨(ad584.add ((x4_1).toNat * 2)).block, (ad584.add ((x4_1).toNat * 2)).off + 1, none⟩ = some (.int .i64 ((rd_T31 l0 x4_1).f1)) ∧ w'.cell? (ad584.add ((x5_2).toNat * 2)) = some (.int .i64 ((rd_T31 l0 x5_2).f0)) ∧ w'.cell? ⟨(ad584.add ((x5_2).toNat * 2)).block, (ad584.add ((x5_2).toNat * 2)).off + 1, none⟩ = some (.int .i64 ((rd_T31 l0 x5_2).f1))) (ds := []) (Bs 0 12) (by kernel_rfl) rfl rfl ⟨(cB HB.out hw584_0), (cB HB.out hw584_1), (cB HB.out hw585_0), (cB HB.out hw585_1)⟩ (fun hHeld => ?_); refine with_tabW silversideref01_Widest.tab8 silversideref01_Widest.bits8 (fun HT_ HW_ => ?_)
           generalize wr.drew = w10 at HB hx584_0 hx584_1 hx585_0 hx585_1 hHeld ⊢
           refine pure_ (i := 0) (N := some 17) (v := ?_) (a' := ?_) (Bs 1 12) rfl rfl (any_of HT_.out (by kernel_rfl)) (fun _ _ _ h => h) (Or.inl ⟨by rfl, ?_⟩) ?_ ?_; rotate_left
           ·intro w'; go_simp; with_reducible rfl
           rotate_left
           ·simp only [Act.put, sA, sB, sC, i64_w, i32_w]; rfl
           refine pure_ (i := 1) (N := some 18) (v := ?_) (a' := ?_) (Bs 2 12) rfl rfl (any_of HT_.out (by kernel_rfl)) (fun _ _ _ h => h) (Or.inl ⟨by rfl, ?_⟩) ?_ ?_; rotate_left
           ·intro w'; go_simp; with_reducible rfl
           rotate_left
           ·simp only [Act.put, sA, sB, sC, i64_w, i32_w]; rfl
           refine pure_ (i := 2) (N := some 19) (v := ?_) (a' := ?_) (Bs 3 12) rfl rfl (any_of HT_.out (by kernel_rfl)) (fun _ _ _ h => h) (Or.inl ⟨by rfl, ?_⟩) ?_ ?_; rotate_left
           ·intro w'; go_simp; with_reducible rfl
           rotate_left
           ·simp only [Act.put, sA, sB, sC, i64_w, i32_w]; rfl
           refine pure_ (i := 3) (N := some 20) (v := ?_) (a' := ?_) (Bs 4 12) rfl rfl (any_of HT_.out (by kernel_rfl)) (fun _ _ _ h => h) (Or.inl ⟨by rfl, ?_⟩) ?_ ?_; rotate_left
           ·intro w'; go_simp; with_reducible rfl
           rotate_left
           ·simp only [Act.put, sA, sB, sC, i64_w, i32_w]; rfl
           refine pure_ (i := 5) (N := some 22) (v := ?_) (a' := ?_) (Br [4,1,1,6]) rfl rfl (any_of HT_.out (by kernel_rfl)) (fun _ _ _ h => h) (Or.inl ⟨by rfl, ?_⟩) ?_ ?_; rotate_left
           ·intro w'; go_simp; with_reducible rfl
           rotate_left
           ·simp only [Act.put, sA, sB, sC, i64_w, i32_w]; rfl
           refine pure_ (i := 6) (N := some 23) (v := ?_) (a' := ?_) (Br [4,1,2,5]) rfl rfl (any_of HT_.out (by kernel_rfl)) (fun _ _ _ h => h) (Or.inl ⟨by rfl, ?_⟩) ?_ ?_; rotate_left
           ·intro w'; go_simp; with_reducible rfl
           rotate_left
           ·simp only [Act.put, sA, sB, sC, i64_w, i32_w]; rfl
           refine pure_ (i := 7) (N := some 24) (v := ?_) (a' := ?_) (Br [4,1,3,4]) rfl rfl (any_of HT_.out (by kernel_rfl)) (fun _ _ _ h => h) (Or.inl ⟨by rfl, ?_⟩) ?_ ?_; rotate_left
           ·intro w'; go_simp; with_reducible rfl
           rotate_left
           ·simp only [Act.put, sA, sB, sC, i64_w, i32_w]; rfl
           refine take_ (i := 4) (N := some 21) (v := ?_) (a' := ?_) (Bs 8 12) rfl rfl (take_ofW HT_.out HW_.out (by kernel_rfl)) (fun _ _ _ h => h) (Or.inl ⟨by rfl, ?_⟩) hHeld ?_ ?_; rotate_left
           ·rintro w' ⟨s0, s1, s2, s3⟩; go_simp; with_reducible rfl
           rotate_left
           ·simp only [Act.put, sA, sB, sC, i64_w, i32_w]; rfl
           refine take_ (i := 8) (N := some 25) (v := ?_) (a' := ?_) (Bs 9 12) rfl rfl (take_ofW HT_.out HW_.out (by kernel_rfl)) (fun _ _ _ h => h) (Or.inl ⟨by rfl, ?_⟩) hHeld ?_ ?_; rotate_left
           ·rintro w' ⟨s0, s1, s2, s3⟩; go_simp; with_reducible rfl
           rotate_left
           ·simp only [Act.put, sA, sB, sC, i64_w, i32_w]; rfl
           refine one_ (i := 9) (N := some 26) (Bs 10 12) rfl rfl (one_of HT_.out (by kernel_rfl)) (by decide) (fun K hK => ?_)
           refine goes_ Try.func65 (by kernel_rfl) rfl #[.agg #[.int .i64 ((rd_T31 l0 x4_1).f0), .int .i64 ((rd_T31 l0 x4_1).f1)], .agg #[.int .i64 ((rd_T31 l0 x5_2).f0), .int .i64 ((rd_T31 l0 x5_2).f1)]] (by rfl) rfl rfl (by (try simp only [List.map_toArray, List.map_cons, List.map_nil]); first | done | rfl | (simp only [List.length_drop, List.length_take]; rfl)) ?_
           with_reducible refine (silversideref01_Square.calls ((rd_T31 l0 x4_1).f0) ((rd_T31 l0 x4_1).f1) ((rd_T31 l0 x5_2).f0) ((rd_T31 l0 x5_2).f1) t586 _ A8.out).mono ?_
           rintro e w11 ⟨rfl, hb⟩
           refine ⟨_, rfl, ?_⟩
           have n0_ := Aside0.mk (below_step (by repeat (first | (with_reducible first | exact HB.out | apply lA | apply lN | apply lD) | exact HB.out)) hb)
           clear HB
           have HB := n0_
           clear n0_
           (try clear hb)
           (try clear hb2)
           (try clear hk)
           (try clear hi)
           refine hK.out _ _ ⟨(cB HB.out hw584_0), (cB HB.out hw584_1), (cB HB.out hw585_0), (cB HB.out hw585_1)⟩ (fun hHeld => ?_)
           clear hK K
           refine norm_ (a' := ?_) ?_ ?_
           rotate_left
           ·show Act.put _ (some 26) _ = _
            simp only [Act.put, sA, sB, sC, i64_w, i32_w]
            rfl
           refine pure_ (i := 10) (N := some 27) (v := ?_) (a' := ?_) (Bs 11 12) rfl rfl (any_of HT_.out (by kernel_rfl)) (fun _ _ _ h => h) (Or.inl ⟨by rfl, ?_⟩) ?_ ?_; rotate_left
           ·intro w'; go_simp; with_reducible rfl
           rotate_left
           ·simp only [Act.put, sA, sB, sC, i64_w, i32_w]; rfl
           refine pure_ (i := 11) (N := some 3) (v := ?_) (a' := ?_) (Bs 12 12) rfl rfl (any_of HT_.out (by kernel_rfl)) (fun _ _ _ h => h) (Or.inl ⟨by rfl, ?_⟩) ?_ ?_; rotate_left
           ·intro w'; go_simp; with_reducible rfl
           rotate_left
           ·simp only [Act.put, sA, sB, sC, i64_w, i32_w]; rfl
           refine done_ (done_of HT_.out (by kernel_rfl)) ?_
           try go_wp2
           go_roundg k2
           case measure => have := HK1.out; have := HK2.out; omega
           case rel => exact ⟨(ji9), (wrap64 (x5_2 + 1)), (by first | rfl | (simp; done) | (simp only [← hji9] <;> (first | rfl | simp)) | (simp [*]; done)), (by first | rfl | (simp; done) | (simp [*]; done)), H', ⟨by have := HK1.out; have := HK2.out; omega⟩, ⟨by repeat (first | (with_reducible first | exact HB.out | apply lA | apply lN | apply lD) | exact HB.out)⟩⟩
          ·rw [if_neg c7] at H
           exact absurd H (by simp)
         ·rw [if_neg c6] at H
          exact absurd H (by simp)
        ·rw [if_neg c5] at H
         exact absurd H (by simp)
       ·rw [if_neg c4] at H
        exact absurd H (by simp)
      ·rw [if_neg c3] at H
       have c3b0 : decide (x5_2 < x4_1) = false := decide_eq_false c3
       clear c3
       have H' := Aside0.mk H
       clear H
       go_wp2
       go_roundg k2
       case measure => have := HK1.out; have := HK2.out; omega
       case rel => exact ⟨(x3_2), (wrap64 (x4_1 + 1)), (by first | rfl | (simp; done) | (simp [*]; done)), (by first | rfl | (simp; done) | (simp [*]; done)), H', ⟨by have := HK1.out; have := HK2.out; omega⟩, ⟨by repeat (first | (with_reducible first | exact HB.out | apply lA | apply lN | apply lD) | exact HB.out)⟩⟩
   ·rw [if_neg c2] at H
    have c2b0 : decide (x4_1 < (l0.length : Int)) = false := decide_eq_false c2
    clear c2
    obtain rfl := Option.some.inj H
    go_wp2
    go_ret
    exact ⟨by first | rfl | (simp [errW_none, errW_some] <;> rfl) | (simp [*, errW_none, errW_some] <;> rfl), by repeat (first | (with_reducible first | exact HB.out | apply lA | apply lN | apply lD) | exact HB.out)⟩

end Go.Proofs.Ythaklbjcjoolcaa.P
namespace Go.Proofs.Ythaklbjcjoolcaa.P
open Go.RowKit Go.Proofs.YthaklbjcjoolcaaW.PrintWords Go.Proofs.YthaklbjcjoolcaaW.PrintLast Go.Proofs.YthaklbjcjoolcaaW.PrintMore
attribute [local go_sem] max2_int min2_int max_two min_two max_three min_three max_four min_four   -- for this text's walks alone
set_option linter.unusedVariables false
set_option linter.unusedSimpArgs false

/-! ### silversideref01_Nearest: function 47 -/
mutual
def silversideref01_Nearest.l0 : Nat → List (S31) → Int → Int → Option (Int)
 | 0, _, _, _ => none
 | k + 1, x0, x3, x4 => if x4 < (x0.length : Int) then (silversideref01_Nearest.l1 k x0 x3 x4 0) else (some x3)
def silversideref01_Nearest.l1 : Nat → List (S31) → Int → Int → Int → Option (Int)
 | 0, _, _, _, _ => none
 | k + 1, x0, x3, x4, x5 => if x5 < x4 then (if 0 ≤ x4 then (if x4 < (x0.length : Int) then (if 0 ≤ x5 then (if x5 < (x0.length : Int) then ((silversideref01_Square.f ((rd_T31 x0 x4).f0) ((rd_T31 x0 x4).f1) ((rd_T31 x0 x5).f0) ((rd_T31 x0 x5).f1)).bind fun t592 => (silversideref01_Nearest.l1 k x0 (mn x3 t592) x4 (wrap64 (x5 + 1)))) else (none)) else (none)) else (none)) else (none)) else (silversideref01_Nearest.l0 k x0 x3 (wrap64 (x4 + 1)))
end
def silversideref01_Nearest.f (k : Nat) (l0 : List (S31)) : Option (Int) := if 0 < (l0.length : Int) then (if 1 < (l0.length : Int) then ((silversideref01_Square.f ((rd_T31 l0 0).f0) ((rd_T31 l0 0).f1) ((rd_T31 l0 1).f0) ((rd_T31 l0 1).f1)).bind fun t589 => (silversideref01_Nearest.l0 k l0 t589 0)) else (none)) else (none)
theorem silversideref01_Nearest.mono_l : ∀ k, (∀ y0 y1 y2, LeO (silversideref01_Nearest.l0 k y0 y1 y2) (silversideref01_Nearest.l0 (k + 1) y0 y1 y2)) ∧ (∀ y0 y1 y2 y3, LeO (silversideref01_Nearest.l1 k y0 y1 y2 y3) (silversideref01_Nearest.l1 (k + 1) y0 y1 y2 y3))
 | 0 => ⟨fun _ _ _ r h => by simp [silversideref01_Nearest.l0] at h, fun _ _ _ _ r h => by simp [silversideref01_Nearest.l1] at h⟩
 | k + 1 => by
  obtain ⟨ih0, ih1⟩ := silversideref01_Nearest.mono_l k
  refine ⟨?_, ?_⟩
  ·intro y0 y1 y2
   unfold silversideref01_Nearest.l0
   repeat' first
   | (with_reducible exact ih0 _ _ _)
   | (with_reducible exact ih1 _ _ _ _)
   | (with_reducible exact LeO.refl _)
   | (with_reducible exact LeO.none _)
   | (with_reducible refine LeO.ite ?_ ?_)
   | (with_reducible refine LeO.bind ?_ (fun _ => ?_))
   | exact ih0 _ _ _
   | exact ih1 _ _ _ _
   | exact LeO.none _
   | refine LeO.ite ?_ ?_
   | refine LeO.bind ?_ (fun _ => ?_)
  ·intro y0 y1 y2 y3
   unfold silversideref01_Nearest.l1
   repeat' first
   | (with_reducible exact ih0 _ _ _)
   | (with_reducible exact ih1 _ _ _ _)
   | (with_reducible exact LeO.refl _)
   | (with_reducible exact LeO.none _)
   | (with_reducible refine LeO.ite ?_ ?_)
   | (with_reducible refine LeO.bind ?_ (fun _ => ?_))
   | exact ih0 _ _ _
   | exact ih1 _ _ _ _
   | exact LeO.none _
   | refine LeO.ite ?_ ?_
   | refine LeO.bind ?_ (fun _ => ?_)
theorem silversideref01_Nearest.mono : ∀ a0 k, LeO (silversideref01_Nearest.f k a0) (silversideref01_Nearest.f (k + 1) a0) := by
 intro a0 k
 obtain ⟨ih0, ih1⟩ := silversideref01_Nearest.mono_l k
 unfold silversideref01_Nearest.f
 repeat' first
   | (with_reducible exact ih0 _ _ _)
   | (with_reducible exact ih1 _ _ _ _)
   | (with_reducible exact LeO.refl _)
   | (with_reducible exact LeO.none _)
   | (with_reducible refine LeO.ite ?_ ?_)
   | (with_reducible refine LeO.bind ?_ (fun _ => ?_))
   | exact ih0 _ _ _
   | exact ih1 _ _ _ _
   | exact LeO.none _
   | refine LeO.ite ?_ ?_
   | refine LeO.bind ?_ (fun _ => ?_)
def silversideref01_Nearest.T1 : Bool × List (List Nat × List Nat) := (true, [([], []), ([0], [0]), ([1], [1]), ([], []), ([3], [3]), ([4], [4]), ([2, 5], [2, 5]), ([6, 6, 0, 1, 2, 3, 4, 5, 6], [6])])
def silversideref01_Nearest.B1 : List Nat := [0, 1, 3, 0, 8, 24, 63, 127]
theorem silversideref01_Nearest.tab1 : rtab .any (opsOf Try.f47 1) = silversideref01_Nearest.T1 := by kernel_rfl
theorem silversideref01_Nearest.bits1 : waitsOk silversideref01_Nearest.T1.2 silversideref01_Nearest.B1 = true := by kernel_rfl
def silversideref01_Nearest.T8 : Bool × List (List Nat × List Nat) := (true, [([], []), ([], []), ([], []), ([1, 2], [1, 2]), ([3], [3]), ([], []), ([], []), ([5, 6], [5, 6]), ([7], [7]), ([4, 8], [4, 8]), ([0, 9], [0, 9]), ([10, 9, 0, 1, 2, 3, 4, 5, 6, 7, 8, 9, 10], [0, 10])])
def silversideref01_Nearest.B8 : List Nat := [0, 0, 0, 6, 14, 0, 0, 96, 224, 510, 1023, 2047]
theorem silversideref01_Nearest.tab8 : rtab .any (opsOf Try.f47 8) = silversideref01_Nearest.T8 := by kernel_rfl
theorem silversideref01_Nearest.bits8 : waitsOk silversideref01_Nearest.T8.2 silversideref01_Nearest.B8 = true := by kernel_rfl
set_option maxHeartbeats 8000000 in
set_option maxRecDepth 100000 in
theorem silversideref01_Nearest.calls (k : Nat) (A0 : Option Addr) (c0 : Nat) (l0 : List (S31)) (r : Int) (w : World) (hr0 : Kd.C k31 w A0 l0.length l0) (hc0 : l0.length ≤ c0) (h : silversideref01_Nearest.f k l0 = some r) :
  Calls Try.prog 47 #[.slice A0 l0.length c0] w fun e w' => e = .returned (.int .i64 r) ∧ Below w.heap.size w w' := by
 have hu31 := Try.underlying31
 have HR0 := Aside0.mk hr0
 have HC0 := Aside0.mk hc0
 clear hr0 hc0
 have HB := Aside0.mk (Below.refl w.heap.size w)
 have H : (if 0 < (l0.length : Int) then (if 1 < (l0.length : Int) then ((silversideref01_Square.f ((rd_T31 l0 0).f0) ((rd_T31 l0 0).f1) ((rd_T31 l0 1).f0) ((rd_T31 l0 1).f1)).bind fun t589 => (silversideref01_Nearest.l0 k l0 t589 0)) else (none)) else (none)) = some r := h
 clear h
 by_cases c2 : 0 < (l0.length : Int)
 ·rw [if_pos c2] at H
  have c2b0 : decide (0 < (l0.length : Int)) = true := decide_eq_true c2
  have c2b1 : decide (0 < l0.length) = true := decide_eq_true (by omega)
  clear c2
  by_cases c3 : 1 < (l0.length : Int)
  ·rw [if_pos c3] at H
   have c3b0 : decide (1 < (l0.length : Int)) = true := decide_eq_true c3
   have c3b1 : decide (1 < l0.length) = true := decide_eq_true (by omega)
   clear c3
   replace H := Option.bind_eq_some_iff.mp H
   obtain ⟨t589, A40, H⟩ := H
   replace H : (silversideref01_Nearest.l0 k l0 t589 0) = some r := H
   have A4 := Aside0.mk A40
   clear A40
   have H' := Aside0.mk H
   clear H
   go_enter Try.func47, Try.ntmps47
   try go_wp2
   have n0_ := Aside0.mk (lD HB.out)
   clear HB
   have HB := n0_
   clear n0_
   have p587 : 0 ≤ (0 : Int) := (by omega)
   have q587 : 0 < (l0.length : Int) := of_decide_eq_true (by first | (with_reducible assumption) | assumption)
   obtain ⟨ad587, e587, hx587_0, hx587_1⟩ := at_T31 HR0.out 0 p587 q587
   have hw587_1 := hx587_1
   (try rw [show ((0 : Int)).toNat = 0 from rfl] at hw587_1)
   (try rw [show 0 * 2 = 0 from rfl] at hw587_1)
   (try rw [Addr.add_zero'] at hw587_1)
   have hw587_0 := hx587_0
   (try rw [show ((0 : Int)).toNat = 0 from rfl] at hw587_0)
   (try rw [show 0 * 2 = 0 from rfl] at hw587_0)
   (try rw [Addr.add_zero'] at hw587_0)
   cases e587
   have qi587 : (0 < l0.length) = True := eq_true (by omega)
   (try rw [show ((0 : Int)).toNat = 0 from rfl] at hx587_0)
   (try rw [show 0 * 2 = 0 from rfl] at hx587_0)
   (try rw [Addr.add_zero'] at hx587_0)
   (try rw [show ((0 : Int)).toNat = 0 from rfl] at hx587_1)
   (try rw [show 0 * 2 = 0 from rfl] at hx587_1)
   (try rw [Addr.add_zero'] at hx587_1)
   replace hx587_0 := cB HB.out hx587_0
   replace hx587_1 := cB HB.out hx587_1
   replace p587 := eq_true p587
   replace q587 := eq_true q587
   have p588 : 0 ≤ (1 : Int) := (by omega)
   have q588 : 1 < (l0.length : Int) := of_decide_eq_true (by first | (with_reducible assumption) | assumption)
   obtain ⟨ad588, e588, hx588_0, hx588_1⟩ := at_T31 HR0.out 1 p588 q588
   have hw588_1 := hx588_1
   (try rw [show ((1 : Int)).toNat = 1 from rfl] at hw588_1)
   (try rw [show 1 * 2 = 2 from rfl] at hw588_1)
   (try simp only [Nat.reduceMul, Nat.reduceEqDiff, Go.Addr.add, ↓reduceIte] at hw588_1)
   have hw588_0 := hx588_0
   (try rw [show ((1 : Int)).toNat = 1 from rfl] at hw588_0)
   (try rw [show 1 * 2 = 2 from rfl] at hw588_0)
   (try simp only [Nat.reduceMul, Nat.reduceEqDiff, Go.Addr.add, ↓reduceIte] at hw588_0)
   obtain rfl : ad587 = ad588 := (by injection e588)
   (try simp only [show (1 : Int).toNat = 1 from rfl, Nat.reduceMul, Nat.reduceEqDiff, Go.Addr.add, ↓reduceIte] at hx588_0)
   (try simp only [show (1 : Int).toNat = 1 from rfl, Nat.reduceMul, Nat.reduceEqDiff, Go.Addr.add, ↓reduceIte] at hx588_1)
   have qi588 : (1 < l0.length) = True := eq_true (by omega)
   (try rw [show ((1 : Int)).toNat = 1 from rfl] at hx588_0)
   (try rw [show 1 * 2 = 2 from rfl] at hx588_0)
   (try rw [show ((1 : Int)).toNat = 1 from rfl] at hx588_1)
   (try rw [show 1 * 2 = 2 from rfl] at hx588_1)
   replace hx588_0 := cB HB.out hx588_0
   replace hx588_1 := cB HB.out hx588_1
   replace p588 := eq_true p588
   replace q588 := eq_true q588
   refine start_ (n := 8) (S := fun w' => w'.cell? ad587 = some (.int .i64 ((rd_T31 l0 0).f0)) ∧ w'.cell? ⟨ad587.block, ad587.off + 1, none⟩ = some (.int .i64 ((rd_T31 l0 0).f1)) ∧ w'.cell? ⟨ad587.block, ad587.off + 2, none⟩ = some (.int .i64 ((rd_T31 l0 1).f0)) ∧ w'.cell? ⟨ad587.block, ad587.off + 2 + 1, none⟩ = some (.int .i64 ((rd_T31 l0 1).f1))) (ds := []) (Bs 0 8) (by kernel_rfl) rfl rfl ⟨(cB HB.out hw587_0), (cB HB.out hw587_1), (cB HB.out hw588_0), (cB HB.out hw588_1)⟩ (fun hHeld => ?_); refine with_tabW silversideref01_Nearest.tab1 silversideref01_Nearest.bits1 (fun HT_ HW_ => ?_)
   generalize w.drew = w5 at HB hx587_0 hx587_1 hx588_0 hx588_1 hHeld ⊢
   refine pure_ (i := 0) (N := some 6) (v := ?_) (a' := ?_) (Bs 1 8) rfl rfl (any_of HT_.out (by kernel_rfl)) (fun _ _ _ h => h) (Or.inl ⟨by rfl, ?_⟩) ?_ ?_; rotate_left
   ·intro w'; go_simp; with_reducible rfl
   rotate_left
   ·simp only [Act.put, sA, sB, sC, i64_w, i32_w]; rfl
   refine pure_ (i := 1) (N := some 7) (v := ?_) (a' := ?_) (Bs 2 8) rfl rfl (any_of HT_.out (by kernel_rfl)) (fun _ _ _ h => h) (Or.inl ⟨by rfl, ?_⟩) ?_ ?_; rotate_left
   ·intro w'; go_simp; with_reducible rfl
   rotate_left
   ·simp only [Act.put, sA, sB, sC, i64_w, i32_w]; rfl
   refine pure_ (i := 3) (N := some 9) (v := ?_) (a' := ?_) #[τ,τ,φ,τ,φ,φ,φ,φ] rfl rfl (any_of HT_.out (by kernel_rfl)) (fun _ _ _ h => h) (Or.inl ⟨by rfl, ?_⟩) ?_ ?_; rotate_left
   ·intro w'; go_simp; with_reducible rfl
   rotate_left
   ·simp only [Act.put, sA, sB, sC, i64_w, i32_w]; rfl
   refine pure_ (i := 4) (N := some 10) (v := ?_) (a' := ?_) #[τ,τ,φ,τ,τ,φ,φ,φ] rfl rfl (any_of HT_.out (by kernel_rfl)) (fun _ _ _ h => h) (Or.inl ⟨by rfl, ?_⟩) ?_ ?_; rotate_left
   ·intro w'; go_simp; with_reducible rfl
   rotate_left
   ·simp only [Act.put, sA, sB, sC, i64_w, i32_w]; rfl
   refine take_ (i := 2) (N := some 8) (v := ?_) (a' := ?_) (Bs 5 8) rfl rfl (take_ofW HT_.out HW_.out (by kernel_rfl)) (fun _ _ _ h => h) (Or.inl ⟨by rfl, ?_⟩) hHeld ?_ ?_; rotate_left
   ·rintro w' ⟨s0, s1, s2, s3⟩; go_simp; with_reducible rfl
   rotate_left
   ·simp only [Act.put, sA, sB, sC, i64_w, i32_w]; rfl
   refine take_ (i := 5) (N := some 11) (v := ?_) (a' := ?_) (Bs 6 8) rfl rfl (take_ofW HT_.out HW_.out (by kernel_rfl)) (fun _ _ _ h => h) (Or.inl ⟨by rfl, ?_⟩) hHeld ?_ ?_; rotate_left
   ·rintro w' ⟨s0, s1, s2, s3⟩; go_simp; with_reducible rfl
   rotate_left
   ·simp only [Act.put, sA, sB, sC, i64_w, i32_w]; rfl
   refine one_ (i := 6) (N := some 12) (Bs 7 8) rfl rfl (one_of HT_.out (by kernel_rfl)) (by decide) (fun K hK => ?_)
   refine goes_ Try.func65 (by kernel_rfl) rfl #[.agg #[.int .i64 ((rd_T31 l0 0).f0), .int .i64 ((rd_T31 l0 0).f1)], .agg #[.int .i64 ((rd_T31 l0 1).f0), .int .i64 ((rd_T31 l0 1).f1)]] (by rfl) rfl rfl (by (try simp only [List.map_toArray, List.map_cons, List.map_nil]); first | done | rfl | (simp only [List.length_drop, List.length_take]; rfl)) ?_
   with_reducible refine (silversideref01_Square.calls ((rd_T31 l0 0).f0) ((rd_T31 l0 0).f1) ((rd_T31 l0 1).f0) ((rd_T31 l0 1).f1) t589 _ A4.out).mono ?_
   rintro e w6 ⟨rfl, hb⟩
   refine ⟨_, rfl, ?_⟩
   have n0_ := Aside0.mk (below_step (by repeat (first | (with_reducible first | exact HB.out | apply lA | apply lN | apply lD) | exact HB.out)) hb)
   clear HB
   have HB := n0_
   clear n0_
   (try clear hb)
   (try clear hb2)
   (try clear hk)
   (try clear hi)
   refine hK.out _ _ ⟨(cB HB.out hw587_0), (cB HB.out hw587_1), (cB HB.out hw588_0), (cB HB.out hw588_1)⟩ (fun hHeld => ?_)
   clear hK K
   refine norm_ (a' := ?_) ?_ ?_
   rotate_left
   ·show Act.put _ (some 12) _ = _
    simp only [Act.put, sA, sB, sC, i64_w, i32_w]
    rfl
   refine pure_ (i := 7) (N := some 3) (v := ?_) (a' := ?_) (Bs 8 8) rfl rfl (any_of HT_.out (by kernel_rfl)) (fun _ _ _ h => h) (Or.inl ⟨by rfl, ?_⟩) ?_ ?_; rotate_left
   ·intro w'; go_simp; with_reducible rfl
   rotate_left
   ·simp only [Act.put, sA, sB, sC, i64_w, i32_w]; rfl
   refine done_ (done_of HT_.out (by kernel_rfl)) ?_
   try go_wp2
   go_loopg [3, 4] k (fun kq v3 v4 w' => ∃ (x3_1 : Int) (x4_1 : Int), v3 = .int .i64 x3_1 ∧ v4 = .int .i64 x4_1 ∧ Aside0 (silversideref01_Nearest.l0 kq l0 x3_1 x4_1 = some r) ∧ Aside0 (kq ≤ k) ∧ Aside0 (Below w.heap.size w w'))
   case atStart => exact ⟨(t589), (0), (by first | rfl | (simp; done) | (simp [*]; done)), (by first | rfl | (simp; done) | (simp [*]; done)), H', ⟨Nat.le_refl _⟩, ⟨by repeat (first | (with_reducible first | exact HB.out | apply lA | apply lN | apply lD) | exact HB.out)⟩⟩
   case round =>
    clear H'
    try clear c2
    try clear c2b0
    try clear c2b1
    try clear p2
    try clear c3
    try clear c3b0
    try clear c3b1
    try clear c4
    try clear p5
    try clear q5
    try clear hx5
    try clear qi5
    try clear c6
    try clear hx587_0
    try clear hx587_1
    try clear hx588_0
    try clear hx588_1
    try clear p587
    try clear p588
    try clear q587
    try clear q588
    obtain ⟨x3_1, x4_1, rfl, rfl, HA, HK1, HB⟩ := hrel
    cases gk with
    | zero => exact absurd HA.out (by simp [silversideref01_Nearest.l0])
    | succ k1 =>
     have H := HA.out
     clear HA
     simp only [silversideref01_Nearest.l0] at H
     by_cases c7 : x4_1 < (l0.length : Int)
     ·rw [if_pos c7] at H
      have c7b0 : decide (x4_1 < (l0.length : Int)) = true := decide_eq_true c7
      clear c7
      have H' := Aside0.mk H
      clear H
      go_wp2
      go_loopg [3, 5] k1 (fun kq v3 v5 w' => ∃ (x3_2 : Int) (x5_2 : Int), v3 = .int .i64 x3_2 ∧ v5 = .int .i64 x5_2 ∧ Aside0 (silversideref01_Nearest.l1 kq l0 x3_2 x4_1 x5_2 = some r) ∧ Aside0 (kq ≤ k1) ∧ Aside0 (Below w.heap.size w w'))
      case atStart => exact ⟨(x3_1), (0), (by first | rfl | (simp; done) | (simp [*]; done)), (by first | rfl | (simp; done) | (simp [*]; done)), H', ⟨Nat.le_refl _⟩, ⟨by repeat (first | (with_reducible first | exact HB.out | apply lA | apply lN | apply lD) | exact HB.out)⟩⟩
      case round =>
       clear H'
       try clear c2
       try clear c2b0
       try clear c2b1
       try clear p2
       try clear c3
       try clear c3b0
       try clear c3b1
       try clear c4
       try clear p5
       try clear q5
       try clear hx5
       try clear qi5
       try clear c6
       try clear c7
       try clear c7b0
       try clear hx587_0
       try clear hx587_1
       try clear hx588_0
       try clear hx588_1
       try clear p2
       try clear p5
       try clear p587
       try clear p588
       try clear q5
       try clear q587
       try clear q588
       obtain ⟨x3_2, x5_2, rfl, rfl, HA, HK2, HB⟩ := hrel
       cases gk with
       | zero => exact absurd HA.out (by simp [silversideref01_Nearest.l1])
       | succ k2 =>
        have H := HA.out
        clear HA
        simp only [silversideref01_Nearest.l1] at H
        by_cases c8 : x5_2 < x4_1
        ·rw [if_pos c8] at H
         have c8b0 : decide (x5_2 < x4_1) = true := decide_eq_true c8
         clear c8
         by_cases c9 : 0 ≤ x4_1
         ·rw [if_pos c9] at H
          have c9b0 : decide (0 ≤ x4_1) = true := decide_eq_true c9
          clear c9
          by_cases c10 : x4_1 < (l0.length : Int)
          ·rw [if_pos c10] at H
           have c10b0 : decide (x4_1 < (l0.length : Int)) = true := decide_eq_true c10
           clear c10
           by_cases c11 : 0 ≤ x5_2
           ·rw [if_pos c11] at H
            have c11b0 : decide (0 ≤ x5_2) = true := decide_eq_true c11
            clear c11
            by_cases c12 : x5_2 < (l0.length : Int)
            ·rw [if_pos c12] at H
             have c12b0 : decide (x5_2 < (l0.length : Int)) = true := decide_eq_true c12
             clear c12
             replace H := Option.bind_eq_some_iff.mp H
             obtain ⟨t592, A130, H⟩ := H
             replace H : (silversideref01_Nearest.l1 k2 l0 (mn x3_2 t592) x4_1 (wrap64 (x5_2 + 1))) = some r := H
             have A13 := Aside0.mk A130
             clear A130
             obtain ⟨ji14, hji14⟩ : ∃ j_ : Int, (mn x3_2 t592) = j_ := ⟨_, rfl⟩
             replace H : (silversideref01_Nearest.l1 k2 l0 ji14 x4_1 (wrap64 (x5_2 + 1))) = some r := by first | (rw [hji14] at H; exact H) | (simp only [hji14] at H ⊢; exact H)
             (try rw [hji14] at A13)
             have hji14_ : (if t592 < x3_2 then t592 else x3_2) = ji14 := hji14
             have H' := Aside0.mk H
             clear H
             try go_wp2
             have n0_ := Aside0.mk (lD HB.out)
             clear HB
             have HB := n0_
             clear n0_
             have p590 : 0 ≤ (x4_1 : Int) := of_decide_eq_true (by first | (with_reducible assumption) | assumption)
             have q590 : x4_1 < (l0.length : Int) := of_decide_eq_true (by first | (with_reducible assumption) | assumption)
             obtain ⟨ad590, e590, hx590_0, hx590_1⟩ := at_T31 HR0.out x4_1 p590 q590
             have hw590_1 := hx590_1
             have hw590_0 := hx590_0
             obtain rfl : ad587 = ad590 := (by injection e590)
             replace hx590_0 := cB HB.out hx590_0
             replace hx590_1 := cB HB.out hx590_1
             replace p590 := eq_true p590
             replace q590 := eq_true q590
             have p591 : 0 ≤ (x5_2 : Int) := of_decide_eq_true (by first | (with_reducible assumption) | assumption)
             have q591 : x5_2 < (l0.length : Int) := of_decide_eq_true (by first | (with_reducible assumption) | assumption)
             obtain ⟨ad591, e591, hx591_0, hx591_1⟩ := at_T31 HR0.out x5_2 p591 q591
             have hw591_1 := hx591_1
             have hw591_0 := hx591_0
             obtain rfl : ad587 = ad591 := (by injection e591)
             replace hx591_0 := cB HB.out hx591_0
             replace hx591_1 := cB HB.out hx591_1
             replace p591 := eq_true p591
             replace q591 := eq_true q591
             refine start_ (n := 12) (S := fun w' => w'.cell? (ad587.add ((x4_1).toNat * 2)) = some (.int .i64 ((rd_T31 l0 x4_1).f0)) ∧ w'.cell? ⟨(ad587.add ((x4_1).toNat * 2)).block, (ad587.add ((x4_1).toNat * 2)).off + 1, none⟩ = some (.int .i64 ((rd_T31 l0 x4_1).f1)) ∧ w'.cell? (ad587.add ((x5_2).toNat * 2)) = some (.int .i64 ((rd_T31 l0 x5_2).f0)) ∧ w'.cell? ⟨(ad587.add ((x5_2).toNat * 2)).block, (ad587.add ((x5_2).toNat * 2)).off + 1, none⟩ = some (.int .i64 ((rd_T31 l0 x5_2).f1))) (ds := []) (Bs 0 12) (by kernel_rfl) rfl rfl ⟨(cB HB.out hw590_0), (cB HB.out hw590_1), (cB HB.out hw591_0), (cB HB.out hw591_1)⟩ (fun hHeld => ?_); refine with_tabW silversideref01_Nearest.tab8 silversideref01_Nearest.bits8 (fun HT_ HW_ => ?_)
             generalize wr.drew = w15 at HB hx590_0 hx590_1 hx591_0 hx591_1 hHeld ⊢
             refine pure_ (i := 0) (N := some 24) (v := ?_) (a' := ?_) (Bs 1 12) rfl rfl (any_of HT_.out (by kernel_rfl)) (fun _ _ _ h => h) (Or.inl ⟨by rfl, ?_⟩) ?_ ?_; rotate_left
             ·intro w'; go_simp; with_reducible rfl
             rotate_left
             ·simp only [Act.put, sA, sB, sC, i64_w, i32_w]; rfl
             refine pure_ (i := 1) (N := some 25) (v := ?_) (a' := ?_) (Bs 2 12) rfl rfl (any_of HT_.out (by kernel_rfl)) (fun _ _ _ h => h) (Or.inl ⟨by rfl, ?_⟩) ?_ ?_; rotate_left
             ·intro w'; go_simp; with_reducible rfl
             rotate_left
             ·simp only [Act.put, sA, sB, sC, i64_w, i32_w]; rfl
             refine pure_ (i := 2) (N := some 26) (v := ?_) (a' := ?_) (Bs 3 12) rfl rfl (any_of HT_.out (by kernel_rfl)) (fun _ _ _ h => h) (Or.inl ⟨by rfl, ?_⟩) ?_ ?_; rotate_left
             ·intro w'; go_simp; with_reducible rfl
             rotate_left
             ·simp only [Act.put, sA, sB, sC, i64_w, i32_w]; rfl
             refine pure_ (i := 3) (N := some 27) (v := ?_) (a' := ?_) (Bs 4 12) rfl rfl (any_of HT_.out (by kernel_rfl)) (fun _ _ _ h => h) (Or.inl ⟨by rfl, ?_⟩) ?_ ?_; rotate_left
             ·intro w'; go_simp; with_reducible rfl
             rotate_left
             ·simp only [Act.put, sA, sB, sC, i64_w, i32_w]; rfl
             refine pure_ (i := 5) (N := some 29) (v := ?_) (a' := ?_) (Br [4,1,1,6]) rfl rfl (any_of HT_.out (by kernel_rfl)) (fun _ _ _ h => h) (Or.inl ⟨by rfl, ?_⟩) ?_ ?_; rotate_left
             ·intro w'; go_simp; with_reducible rfl
             rotate_left
             ·simp only [Act.put, sA, sB, sC, i64_w, i32_w]; rfl
             refine pure_ (i := 6) (N := some 30) (v := ?_) (a' := ?_) (Br [4,1,2,5]) rfl rfl (any_of HT_.out (by kernel_rfl)) (fun _ _ _ h => h) (Or.inl ⟨by rfl, ?_⟩) ?_ ?_; rotate_left
             ·intro w'; go_simp; with_reducible rfl
             rotate_left
             ·simp only [Act.put, sA, sB, sC, i64_w, i32_w]; rfl
             refine pure_ (i := 7) (N := some 31) (v := ?_) (a' := ?_) (Br [4,1,3,4]) rfl rfl (any_of HT_.out (by kernel_rfl)) (fun _ _ _ h => h) (Or.inl ⟨by rfl, ?_⟩) ?_ ?_; rotate_left
             ·intro w'; go_simp; with_reducible rfl
             rotate_left
             ·simp only [Act.put, sA, sB, sC, i64_w, i32_w]; rfl
             refine take_ (i := 4) (N := some 28) (v := ?_) (a' := ?_) (Bs 8 12) rfl rfl (take_ofW HT_.out HW_.out (by kernel_rfl)) (fun _ _ _ h => h) (Or.inl ⟨by rfl, ?_⟩) hHeld ?_ ?_; rotate_left
             ·rintro w' ⟨s0, s1, s2, s3⟩; go_simp; with_reducible rfl
             rotate_left
             ·simp only [Act.put, sA, sB, sC, i64_w, i32_w]; rfl
             refine take_ (i := 8) (N := some 32) (v := ?_) (a' := ?_) (Bs 9 12) rfl rfl (take_ofW HT_.out HW_.out (by kernel_rfl)) (fun _ _ _ h => h) (Or.inl ⟨by rfl, ?_⟩) hHeld ?_ ?_; rotate_left
             ·rintro w' ⟨s0, s1, s2, s3⟩; go_simp; with_reducible rfl
             rotate_left
             ·simp only [Act.put, sA, sB, sC, i64_w, i32_w]; rfl
             refine one_ (i := 9) (N := some 33) (Bs 10 12) rfl rfl (one_of HT_.out (by kernel_rfl)) (by decide) (fun K hK => ?_)
             refine goes_ Try.func65 (by kernel_rfl) rfl #[.agg #[.int .i64 ((rd_T31 l0 x4_1).f0), .int .i64 ((rd_T31 l0 x4_1).f1)], .agg #[.int .i64 ((rd_T31 l0 x5_2).f0), .int .i64 ((rd_T31 l0 x5_2).f1)]] (by rfl) rfl rfl (by (try simp only [List.map_toArray, List.map_cons, List.map_nil]); first | done | rfl | (simp only [List.length_drop, List.length_take]; rfl)) ?_
             with_reducible refine (silversideref01_Square.calls ((rd_T31 l0 x4_1).f0) ((rd_T31 l0 x4_1).f1) ((rd_T31 l0 x5_2).f0) ((rd_T31 l0 x5_2).f1) t592 _ A13.out).mono ?_
             rintro e w16 ⟨rfl, hb⟩
             refine ⟨_, rfl, ?_⟩
             have n0_ := Aside0.mk (below_step (by repeat (first | (with_reducible first | exact HB.out | apply lA | apply lN | apply lD) | exact HB.out)) hb)
             clear HB
             have HB := n0_
             clear n0_
             (try clear hb)
             (try clear hb2)
             (try clear hk)
             (try clear hi)
             refine hK.out _ _ ⟨(cB HB.out hw590_0), (cB HB.out hw590_1), (cB HB.out hw591_0), (cB HB.out hw591_1)⟩ (fun hHeld => ?_)
             clear hK K
             refine norm_ (a' := ?_) ?_ ?_
             rotate_left
             ·show Act.put _ (some 33) _ = _
              simp only [Act.put, sA, sB, sC, i64_w, i32_w]
              rfl
             refine pure_ (i := 10) (N := some 34) (v := ?_) (a' := ?_) (Bs 11 12) rfl rfl (any_of HT_.out (by kernel_rfl)) (fun _ _ _ h => h) (Or.inl ⟨by rfl, ?_⟩) ?_ ?_; rotate_left
             ·intro w'; go_simp; with_reducible rfl
             rotate_left
             ·simp only [Act.put, sA, sB, sC, i64_w, i32_w]; rfl
             refine pure_ (i := 11) (N := some 3) (v := ?_) (a' := ?_) (Bs 12 12) rfl rfl (any_of HT_.out (by kernel_rfl)) (fun _ _ _ h => h) (Or.inl ⟨by rfl, ?_⟩) ?_ ?_; rotate_left
             ·intro w'; go_simp; with_reducible rfl
             rotate_left
             ·simp only [Act.put, sA, sB, sC, i64_w, i32_w]; rfl
             refine done_ (done_of HT_.out (by kernel_rfl)) ?_
             try go_wp2
             go_roundg k2
             case measure => have := HK1.out; have := HK2.out; omega
             case rel => exact ⟨(ji14), (wrap64 (x5_2 + 1)), (by first | rfl | (simp; done) | (simp only [← hji14] <;> (first | rfl | simp)) | (simp [*]; done)), (by first | rfl | (simp; done) | (simp [*]; done)), H', ⟨by have := HK1.out; have := HK2.out; omega⟩, ⟨by repeat (first | (with_reducible first | exact HB.out | apply lA | apply lN | apply lD) | exact HB.out)⟩⟩
            ·rw [if_neg c12] at H
             exact absurd H (by simp)
           ·rw [if_neg c11] at H
            exact absurd H (by simp)
          ·rw [if_neg c10] at H
           exact absurd H (by simp)
         ·rw [if_neg c9] at H
          exact absurd H (by simp)
        ·rw [if_neg c8] at H
         have c8b0 : decide (x5_2 < x4_1) = false := decide_eq_false c8
         clear c8
         have H' := Aside0.mk H
         clear H
         go_wp2
         go_roundg k2
         case measure => have := HK1.out; have := HK2.out; omega
         case rel => exact ⟨(x3_2), (wrap64 (x4_1 + 1)), (by first | rfl | (simp; done) | (simp [*]; done)), (by first | rfl | (simp; done) | (simp [*]; done)), H', ⟨by have := HK1.out; have := HK2.out; omega⟩, ⟨by repeat (first | (with_reducible first | exact HB.out | apply lA | apply lN | apply lD) | exact HB.out)⟩⟩
     ·rw [if_neg c7] at H
      have c7b0 : decide (x4_1 < (l0.length : Int)) = false := decide_eq_false c7
      clear c7
      obtain rfl := Option.some.inj H
      go_wp2
      go_ret
      exact ⟨by first | rfl | (simp [errW_none, errW_some] <;> rfl) | (simp [*, errW_none, errW_some] <;> rfl), by repeat (first | (with_reducible first | exact HB.out | apply lA | apply lN | apply lD) | exact HB.out)⟩
  rw [if_neg c3] at H
  exact absurd H (by simp)
 rw [if_neg c2] at H
 exact absurd H (by simp)

end Go.Proofs.Ythaklbjcjoolcaa.P
namespace Go.Proofs.Ythaklbjcjoolcaa.P
open Go.RowKit Go.Shelf Go.Sort Go.Proofs.YthaklbjcjoolcaaW.PrintWords Go.Proofs.YthaklbjcjoolcaaW.PrintLast Go.Proofs.YthaklbjcjoolcaaW.PrintMore
set_option linter.unusedVariables false
set_option linter.unusedSimpArgs false
/-- a point is on a segment -/
def onB (a b p : S31) : Bool := decide (crs a b p = 0) && (decide (mn a.f0 b.f0 ≤ p.f0) && (decide (p.f0 ≤ mx a.f0 b.f0) && (decide (mn a.f1 b.f1 ≤ p.f1) && decide (p.f1 ≤ mx a.f1 b.f1))))
end Go.Proofs.Ythaklbjcjoolcaa.P
namespace Go.Proofs.Ythaklbjcjoolcaa.P
open Go.RowKit Go.Shelf Go.Sort Go.Proofs.YthaklbjcjoolcaaW.PrintWords Go.Proofs.YthaklbjcjoolcaaW.PrintLast Go.Proofs.YthaklbjcjoolcaaW.PrintMore
set_option linter.unusedVariables false
set_option linter.unusedSimpArgs false
/-- a vector points into the right half plane (or straight up) -/
def rgt (x y : Int) : Prop := 0 < x ∨ x = 0 ∧ 0 < y
/-- the order of two vectors by their directions -/
def cr (ax ay bx b_y : Int) : Int := ax * b_y - ay * bx
theorem cr_key (ax ay bx b_y cx cy : Int) : bx * cr ax ay cx cy = ax * cr bx b_y cx cy + cx * cr ax ay bx b_y := by unfold cr; grind
theorem cr_swap (ax ay bx b_y : Int) : cr bx b_y ax ay = - cr ax ay bx b_y := by unfold cr; grind
theorem nn_of {b t : Int} (hb : 0 < b) (h : 0 ≤ b * t) : 0 ≤ t := by
  rcases Int.lt_or_le t 0 with h1 | h1
  · have := Int.mul_neg_of_pos_of_neg hb h1; omega
  · exact h1
theorem pos_of {b t : Int} (hb : 0 < b) (h : 0 < b * t) : 0 < t := by
  rcases Int.lt_or_le 0 t with h1 | h1
  · exact h1
  · have := Int.mul_le_mul_of_nonneg_left h1 (Int.le_of_lt hb); omega
theorem nn_mul {a b : Int} (ha : 0 ≤ a) (hb : 0 ≤ b) : 0 ≤ a * b := Int.mul_nonneg ha hb
theorem ps_mul {a b : Int} (ha : 0 < a) (hb : 0 < b) : 0 < a * b := Int.mul_pos ha hb
theorem cr_trans {ax ay bx b_y cx cy : Int} (ha : rgt ax ay) (hb : rgt bx b_y) (hc : rgt cx cy) (h1 : 0 ≤ cr ax ay bx b_y) (h2 : 0 ≤ cr bx b_y cx cy) : 0 ≤ cr ax ay cx cy := by
  have hax : 0 ≤ ax := by unfold rgt at ha; omega
  have hcx : 0 ≤ cx := by unfold rgt at hc; omega
  rcases hb with hb | ⟨rfl, hb⟩
  · refine nn_of hb ?_
    rw [cr_key ax ay bx b_y cx cy]
    have := nn_mul hax h2; have := nn_mul hcx h1; omega
  · unfold cr at h1 h2
    have h3 : 0 ≤ ax * b_y := by grind
    have h4 : 0 ≤ -(b_y * cx) := by grind
    have hcx0 : cx = 0 := by
      rcases Int.lt_or_le 0 cx with h | h
      · have := ps_mul hb h; omega
      · omega
    subst hcx0
    have hcy : 0 < cy := by unfold rgt at hc; omega
    unfold cr
    have := nn_mul hax (Int.le_of_lt hcy)
    grind
theorem cr_trans_lt {ax ay bx b_y cx cy : Int} (ha : rgt ax ay) (hb : rgt bx b_y) (hc : rgt cx cy) (h1 : 0 ≤ cr ax ay bx b_y) (h2 : 0 ≤ cr bx b_y cx cy) (h3 : 0 < cr ax ay bx b_y ∨ 0 < cr bx b_y cx cy) : 0 < cr ax ay cx cy := by
  have hax : 0 ≤ ax := by unfold rgt at ha; omega
  have hcx : 0 ≤ cx := by unfold rgt at hc; omega
  rcases hb with hb | ⟨rfl, hb⟩
  · refine pos_of hb ?_
    rw [cr_key ax ay bx b_y cx cy]
    have m1 := nn_mul hax h2; have m2 := nn_mul hcx h1
    rcases h3 with h3 | h3
    · rcases Int.lt_or_le 0 cx with h | h
      · have := ps_mul h h3; omega
      · have hcx0 : cx = 0 := by omega
        subst hcx0
        have hcy : 0 < cy := by unfold rgt at hc; omega
        have h4 : 0 < cr bx b_y 0 cy := by unfold cr; have := ps_mul hb hcy; grind
        rcases Int.lt_or_le 0 ax with h5 | h5
        · have := ps_mul h5 h4; omega
        · have hax0 : ax = 0 := by omega
          subst hax0
          have hay : 0 < ay := by unfold rgt at ha; omega
          unfold cr at h3
          have := ps_mul hay hb
          grind
    · rcases Int.lt_or_le 0 ax with h | h
      · have := ps_mul h h3; omega
      · have hax0 : ax = 0 := by omega
        subst hax0
        have hay : 0 < ay := by unfold rgt at ha; omega
        unfold cr at h1
        have := ps_mul hay hb
        grind
  · unfold cr at h1 h2 h3
    have h4 : 0 ≤ -(b_y * cx) := by grind
    have hcx0 : cx = 0 := by
      rcases Int.lt_or_le 0 cx with h | h
      · have := ps_mul hb h; omega
      · omega
    subst hcx0
    have hcy : 0 < cy := by unfold rgt at hc; omega
    have hax1 : 0 < ax := by
      rcases h3 with h3 | h3
      · rcases Int.lt_or_le 0 ax with h | h
        · exact h
        · have : ax = 0 := by omega
          subst this; grind
      · grind
    unfold cr
    have := ps_mul hax1 hcy
    grind
theorem crs_cr (a b c : S31) : crs a b c = cr (b.f0 - a.f0) (b.f1 - a.f1) (c.f0 - a.f0) (c.f1 - a.f1) := rfl
theorem ltP_rgt {a b : S31} : ltP a b = true ↔ rgt (b.f0 - a.f0) (b.f1 - a.f1) := by unfold ltP rgt; rw [decide_eq_true_eq]; omega
theorem crs_turn (a b c : S31) : crs a b c = cr (b.f0 - a.f0) (b.f1 - a.f1) (c.f0 - b.f0) (c.f1 - b.f1) := by unfold crs cr; grind
theorem crs_rot (a b c : S31) : crs b c a = crs a b c := by unfold crs; grind
theorem crs_swap (a b c : S31) : crs a c b = - crs a b c := by unfold crs; grind
theorem ltP_trans {a b c : S31} (h1 : ltP a b = true) (h2 : ltP b c = true) : ltP a c = true := by unfold ltP at *; rw [decide_eq_true_eq] at *; omega
theorem ltP_irr (a : S31) : ¬ ltP a a = true := by unfold ltP; rw [decide_eq_true_eq]; omega
theorem ltP_tot (a b : S31) : ltP a b = true ∨ a = b ∨ ltP b a = true := by
  unfold ltP; rw [decide_eq_true_eq, decide_eq_true_eq]
  by_cases h : a = b
  · exact Or.inr (Or.inl h)
  · have : a.f0 ≠ b.f0 ∨ a.f1 ≠ b.f1 := by
      by_cases h0 : a.f0 = b.f0
      · exact Or.inr (fun h1 => h (S31.ext' h0 h1))
      · exact Or.inl h0
    omega
/-- three turns: two left turns on the way to the right make the whole way turn left -/
theorem turn_far {a b c q : S31} (h1 : ltP a b = true) (h2 : ltP b c = true) (h3 : ltP c q = true) (ht1 : 0 < crs a b c) (ht2 : 0 < crs b c q) : 0 < crs a b q := by
  have ha := ltP_rgt.1 h1; have hb := ltP_rgt.1 h2; have hc := ltP_rgt.1 h3
  rw [crs_turn] at ht1 ht2
  have := cr_trans_lt ha hb hc (Int.le_of_lt ht1) (Int.le_of_lt ht2) (Or.inl ht1)
  have e : crs a b q = cr (b.f0 - a.f0) (b.f1 - a.f1) (c.f0 - b.f0) (c.f1 - b.f1) + cr (b.f0 - a.f0) (b.f1 - a.f1) (q.f0 - c.f0) (q.f1 - c.f1) := by unfold crs cr; grind
  omega
/-- what lies to the left of an edge lies to the left of the next one if it is further back -/
theorem turn_back_pt {w u p r : S31} (h1 : ltP w u = true) (h2 : ltP u p = true) (h3 : ltP r u = true) (ht1 : 0 ≤ crs w u r) (ht2 : 0 < crs w u p) : 0 < crs u p r := by
  have ha := ltP_rgt.1 h1; have hb := ltP_rgt.1 h2; have hc := ltP_rgt.1 h3
  rw [crs_turn] at ht2
  have e : cr (u.f0 - r.f0) (u.f1 - r.f1) (u.f0 - w.f0) (u.f1 - w.f1) = crs w u r := by unfold crs cr; grind
  have := cr_trans_lt hc ha hb (by rw [e]; exact ht1) (Int.le_of_lt ht2) (Or.inr ht2)
  have e2 : crs u p r = cr (u.f0 - r.f0) (u.f1 - r.f1) (p.f0 - u.f0) (p.f1 - u.f1) := by unfold crs cr; grind
  omega
/-- what lies to the left of a way lies to the left of a way further right -/
theorem turn_on {u v p r : S31} (h1 : ltP u v = true) (h2 : ltP u p = true) (h3 : ltP u r = true) (ht1 : 0 ≤ crs u v r) (ht2 : crs u v p ≤ 0) : 0 ≤ crs u p r := by
  have ha := ltP_rgt.1 h1; have hb := ltP_rgt.1 h2; have hc := ltP_rgt.1 h3
  rw [crs_cr] at *
  exact cr_trans hb ha hc (by rw [cr_swap]; omega) ht1
theorem pt_app_l (A B : List S31) (i : Nat) (h : i < A.length) : pt (A ++ B) i = pt A i := by
  unfold pt; rw [List.getD_eq_getElem?_getD, List.getD_eq_getElem?_getD, List.getElem?_append_left h]
theorem pt_app_r (A B : List S31) (i : Nat) (h : A.length ≤ i) : pt (A ++ B) i = pt B (i - A.length) := by
  unfold pt; rw [List.getD_eq_getElem?_getD, List.getD_eq_getElem?_getD, List.getElem?_append_right h]
theorem pt_take (A : List S31) (n i : Nat) (h : i < n) : pt (A.take n) i = pt A i := by
  unfold pt; rw [List.getD_eq_getElem?_getD, List.getD_eq_getElem?_getD, List.getElem?_take, if_pos h]
theorem pt_mem (A : List S31) (i : Nat) (h : i < A.length) : pt A i ∈ A := by rw [pt_eq A i h]; exact List.getElem_mem _
theorem mem_pt {A : List S31} {p : S31} (h : p ∈ A) : ∃ i, i < A.length ∧ pt A i = p := by
  obtain ⟨i, hi, e⟩ := List.mem_iff_getElem.1 h
  exact ⟨i, hi, by rw [pt_eq A i hi, e]⟩
/-- a point is to the left of a way to the right, or between its ends -/
def Up (a b r : S31) : Prop := 0 ≤ crs a b r ∧ (crs a b r = 0 → ¬ ltP r a = true ∧ ¬ ltP b r = true)
/-- what a chain keeps: it goes to the right, turns left, and leaves no point that was read on its right -/
structure Ch (R out : List S31) : Prop where
  pos : 0 < out.length
  inc : ∀ i, i + 1 < out.length → ltP (pt out i) (pt out (i + 1)) = true
  mem : ∀ i, i < out.length → pt out i ∈ R
  ed : ∀ i, i + 1 < out.length → ∀ r ∈ R, Up (pt out i) (pt out (i + 1)) r
  trn : ∀ i, i + 2 < out.length → 0 < crs (pt out i) (pt out (i + 1)) (pt out (i + 2))
  hd : ∀ r ∈ R, ¬ ltP r (pt out 0) = true
  lst : ∀ r ∈ R, ¬ ltP (pt out (out.length - 1)) r = true
theorem popN_spec (out : List S31) (p : S31) : ∀ m, 1 ≤ m → 1 ≤ popN out p m ∧ (2 ≤ popN out p m → 0 < crs (pt out (popN out p m - 2)) (pt out (popN out p m - 1)) p) ∧ (popN out p m < m → crs (pt out (popN out p m - 1)) (pt out (popN out p m)) p ≤ 0)
  | 0, h => by omega
  | 1, _ => by simp [popN]
  | m + 2, _ => by
    have ih := popN_spec out p (m + 1) (by omega)
    have hle := popN_le out p (m + 1)
    unfold popN
    by_cases h : crs (pt out m) (pt out (m + 1)) p ≤ 0
    · rw [if_pos h]
      refine ⟨ih.1, ih.2.1, fun _ => ?_⟩
      rcases Nat.lt_or_ge (popN out p (m + 1)) (m + 1) with h1 | h1
      · exact ih.2.2 h1
      · have e : popN out p (m + 1) = m + 1 := by omega
        rw [e]; exact h
    · rw [if_neg h]
      refine ⟨by omega, fun _ => ?_, fun h1 => by omega⟩
      show 0 < crs (pt out m) (pt out (m + 1)) p
      omega
theorem crs_same (a b : S31) : crs a b a = 0 := by unfold crs; grind
theorem crs_end (a b : S31) : crs a b b = 0 := by unfold crs; grind
theorem ltP_asym {a b : S31} (h : ltP a b = true) : ¬ ltP b a = true := fun h1 => ltP_irr a (ltP_trans h h1)
theorem Ch.step {R out : List S31} {p : S31} (H : Ch R out) (hp : ∀ r ∈ R, ltP r p = true) : Ch (R ++ [p]) (chStep out p) := by
  obtain ⟨hn1, hn2, hn3⟩ := popN_spec out p out.length H.pos
  have hnl := popN_le out p out.length
  have hlen : (chStep out p).length = popN out p out.length + 1 := by unfold chStep; rw [List.length_append, List.length_take]; simp; omega
  have hold : ∀ i, i < popN out p out.length → pt (chStep out p) i = pt out i := by
    intro i hi
    unfold chStep
    rw [pt_app_l _ _ _ (by rw [List.length_take]; omega), pt_take _ _ _ hi]
  have hnew : pt (chStep out p) (popN out p out.length) = p := by
    unfold chStep
    rw [pt_app_r _ _ _ (by rw [List.length_take]; omega), List.length_take, Nat.min_eq_left hnl, Nat.sub_self]; rfl
  generalize chStep out p = O at *
  generalize popN out p out.length = n at *
  have far : ∀ d i, i + 2 + d = n → 0 < crs (pt out i) (pt out (i + 1)) p := by
    intro d
    induction d with
    | zero => intro i hi; obtain rfl : n = i + 2 := by omega
              exact hn2 (by omega)
    | succ d ih =>
      intro i hi
      exact turn_far (H.inc i (by omega)) (H.inc (i + 1) (by omega)) (hp _ (H.mem (i + 2) (by omega))) (H.trn i (by omega)) (ih (i + 1) (by omega))
  refine ⟨by omega, ?_, ?_, ?_, ?_, ?_, ?_⟩
  · intro i hi
    rw [hold i (by omega)]
    rcases Nat.lt_or_ge (i + 1) n with h | h
    · rw [hold _ h]; exact H.inc i (by omega)
    · obtain rfl : n = i + 1 := by omega
      rw [hnew]; exact hp _ (H.mem i (by omega))
  · intro i hi
    rcases Nat.lt_or_ge i n with h | h
    · rw [hold i h]; exact List.mem_append_left _ (H.mem i (by omega))
    · obtain rfl : n = i := by omega
      rw [hnew]; simp
  · intro i hi r hr
    rw [hold i (by omega)]
    rw [List.mem_append, List.mem_singleton] at hr
    rcases Nat.lt_or_ge (i + 1) n with h | h
    · rw [hold _ h]
      rcases hr with hr | rfl
      · exact H.ed i (by omega) r hr
      · have := far (n - (i + 2)) i (by omega)
        exact ⟨by omega, fun h => by omega⟩
    · obtain rfl : n = i + 1 := by omega
      rw [hnew]
      rcases hr with hr | rfl
      · rcases ltP_tot r (pt out i) with h1 | rfl | h1
        · have hi0 : 0 < i := by
            rcases Nat.eq_zero_or_pos i with rfl | h2
            · exact absurd h1 (H.hd r hr)
            · exact h2
          obtain ⟨j, rfl⟩ : ∃ j, i = j + 1 := ⟨i - 1, by omega⟩
          have h3 := turn_back_pt (H.inc j (by omega)) (hp _ (H.mem (j + 1) (by omega))) h1 (H.ed j (by omega) r hr).1 (far 0 j (by omega))
          exact ⟨by omega, fun h => by omega⟩
        · rw [Up, crs_same]
          exact ⟨Int.le_refl 0, fun _ => ⟨ltP_irr _, ltP_asym (hp _ hr)⟩⟩
        · have hl : i + 1 < out.length := by
            rcases Nat.lt_or_ge (i + 1) out.length with h2 | h2
            · exact h2
            · have e : out.length - 1 = i := by omega
              have := H.lst r hr; rw [e] at this; exact absurd h1 this
          refine ⟨turn_on (H.inc i hl) (hp _ (H.mem i (by omega))) h1 (H.ed i hl r hr).1 (hn3 (by omega)), fun _ => ⟨ltP_asym h1, ltP_asym (hp _ hr)⟩⟩
      · rw [Up, crs_end]
        exact ⟨Int.le_refl 0, fun _ => ⟨ltP_asym (hp _ (H.mem i (by omega))), ltP_irr _⟩⟩
  · intro i hi
    rw [hold i (by omega), hold (i + 1) (by omega)]
    rcases Nat.lt_or_ge (i + 2) n with h | h
    · rw [hold _ h]; exact H.trn i (by omega)
    · obtain rfl : n = i + 2 := by omega
      rw [hnew]; exact far 0 i (by omega)
  · intro r hr
    rw [hold 0 (by omega)]
    rw [List.mem_append, List.mem_singleton] at hr
    rcases hr with hr | rfl
    · exact H.hd r hr
    · exact ltP_asym (hp _ (H.mem 0 (by omega)))
  · intro r hr
    have e : O.length - 1 = n := by omega
    rw [e, hnew]
    rw [List.mem_append, List.mem_singleton] at hr
    rcases hr with hr | rfl
    · exact ltP_asym (hp _ hr)
    · exact ltP_irr _
theorem Ch.one (p : S31) : Ch [p] [p] := by
  refine ⟨by simp, by simp, by simp [pt], by simp, by simp, ?_, ?_⟩
  · intro r hr; rw [List.mem_singleton] at hr; subst hr; exact ltP_irr _
  · intro r hr; rw [List.mem_singleton] at hr; subst hr; exact ltP_irr _
/-- points in order, each once -/
def Asc (l : List S31) : Prop := ∀ i j, i < j → j < l.length → ltP (pt l i) (pt l j) = true
theorem chain_ch (l : List S31) (h : Asc l) (h1 : 0 < l.length) : Ch l (chainL l) := by
  have key : ∀ k, k < l.length → Ch (l.take (k + 1)) (chainL (l.take (k + 1))) := by
    intro k
    induction k with
    | zero =>
      intro hk
      have e : l.take (0 + 1) = [pt l 0] := by rw [take_pt l 0 hk]; rfl
      rw [e]; exact Ch.one _
    | succ k ih =>
      intro hk
      rw [take_pt l (k + 1) hk, chainL_snoc]
      refine (ih (by omega)).step ?_
      intro r hr
      obtain ⟨i, hi, rfl⟩ := mem_pt hr
      rw [List.length_take] at hi
      rw [pt_take _ _ _ (by omega)]
      exact h i (k + 1) (by omega) hk
  have := key (l.length - 1) (by omega)
  rw [show l.length - 1 + 1 = l.length by omega, List.take_length] at this
  exact this
theorem sortP_asc (l : List S31) (i j : Nat) (hij : i < j) (hj : j < (sortP l).length) : ¬ ltP (pt (sortP l) j) (pt (sortP l) i) = true := by
  have hp : (sortP l).Pairwise (fun x y => (!ltP y x) = true) := by
    unfold sortP
    refine List.pairwise_mergeSort ?_ ?_ l
    · intro a b c h1 h2
      simp only [Bool.not_eq_true', ltP, decide_eq_false_iff_not] at *
      omega
    · intro a b
      simp only [Bool.or_eq_true, Bool.not_eq_true', ltP, decide_eq_false_iff_not]
      omega
  have := List.pairwise_iff_getElem.1 hp i j (by omega) hj hij
  rw [pt_eq _ _ hj, pt_eq _ _ (by omega)]
  simpa using this
theorem sortP_mem (l : List S31) (p : S31) : p ∈ sortP l ↔ p ∈ l := (List.mergeSort_perm _ _).mem_iff
theorem asc_snoc {L : List S31} {p : S31} (h : Asc L) (hp : ∀ r ∈ L, ltP r p = true) : Asc (L ++ [p]) := by
  intro i j hij hj
  rw [List.length_append, List.length_singleton] at hj
  rw [pt_app_l L _ i (by omega)]
  rcases Nat.lt_or_ge j L.length with h1 | h1
  · rw [pt_app_l L _ j h1]; exact h i j hij h1
  · obtain rfl : j = L.length := by omega
    rw [pt_app_r L _ _ (Nat.le_refl _), Nat.sub_self]
    exact hp _ (pt_mem L i (by omega))
theorem ddL_facts (xs : List S31) (hs : ∀ i j, i < j → j < xs.length → ¬ ltP (pt xs j) (pt xs i) = true) : ∀ k, 1 ≤ k → k ≤ xs.length →
    Asc (ddL xs k) ∧ 0 < (ddL xs k).length ∧ (∀ r ∈ ddL xs k, r = pt xs (k - 1) ∨ ltP r (pt xs (k - 1)) = true) ∧ (∀ i, i < k → pt xs i ∈ ddL xs k)
  | 0, h, _ => by omega
  | 1, _, _ => by
    refine ⟨fun i j hij hj => ?_, by simp [ddL], by simp [ddL], ?_⟩
    · simp [ddL] at hj; omega
    · intro i hi; obtain rfl : i = 0 := by omega
      simp [ddL]
  | k + 2, _, hk => by
    obtain ⟨a1, a2, a3, a4⟩ := ddL_facts xs hs (k + 1) (by omega) (by omega)
    unfold ddL
    rw [show k + 1 - 1 = k by omega] at a3
    rw [show k + 2 - 1 = k + 1 by omega]
    by_cases he : pt xs (k + 1) = pt xs k
    · rw [if_pos he]
      refine ⟨a1, a2, by rw [he]; exact a3, fun i hi => ?_⟩
      rcases Nat.lt_or_ge i (k + 1) with h | h
      · exact a4 i h
      · obtain rfl : i = k + 1 := by omega
        rw [he]; exact a4 k (by omega)
    · rw [if_neg he]
      have hlt : ltP (pt xs k) (pt xs (k + 1)) = true := by
        rcases ltP_tot (pt xs k) (pt xs (k + 1)) with h | h | h
        · exact h
        · exact absurd h.symm he
        · exact absurd h (hs k (k + 1) (by omega) (by omega))
      have hall : ∀ r ∈ ddL xs (k + 1), ltP r (pt xs (k + 1)) = true := by
        intro r hr
        rcases a3 r hr with rfl | h
        · exact hlt
        · exact ltP_trans h hlt
      refine ⟨asc_snoc a1 hall, by simp, ?_, ?_⟩
      · intro r hr
        rw [List.mem_append, List.mem_singleton] at hr
        rcases hr with hr | rfl
        · exact Or.inr (hall r hr)
        · exact Or.inl rfl
      · intro i hi
        rcases Nat.lt_or_ge i (k + 1) with h | h
        · exact List.mem_append_left _ (a4 i h)
        · obtain rfl : i = k + 1 := by omega
          simp
theorem ddL_mem (xs : List S31) : ∀ k, k ≤ xs.length → ∀ p, p ∈ ddL xs k → p ∈ xs
  | 0, _, p, h => by simp [ddL] at h
  | 1, hk, p, h => by
    simp only [ddL, List.mem_singleton] at h
    rw [h]; exact pt_mem xs 0 (by omega)
  | k + 2, hk, p, h => by
    unfold ddL at h
    split at h
    · exact ddL_mem xs (k + 1) (by omega) p h
    · rw [List.mem_append, List.mem_singleton] at h
      rcases h with h | h
      · exact ddL_mem xs (k + 1) (by omega) p h
      · rw [h]; exact pt_mem xs (k + 1) (by omega)
theorem sortP_length (xs : List S31) : (sortP xs).length = xs.length := List.length_mergeSort ..
theorem sortedS_asc (l : List S31) (h : 0 < l.length) : Asc (sortedS l) ∧ 0 < (sortedS l).length := by
  have := ddL_facts (sortP l) (fun i j h1 h2 => sortP_asc l i j h1 h2) (sortP l).length (by rw [sortP_length]; exact h) (Nat.le_refl _)
  exact ⟨this.1, this.2.1⟩
theorem sortedS_mem (l : List S31) (p : S31) : p ∈ sortedS l ↔ p ∈ l := by
  rw [← sortP_mem l p]
  constructor
  · exact ddL_mem _ _ (Nat.le_refl _) p
  · intro h
    obtain ⟨i, hi, rfl⟩ := mem_pt h
    have := ddL_facts (sortP l) (fun i j h1 h2 => sortP_asc l i j h1 h2) (sortP l).length (by omega) (Nat.le_refl _)
    exact this.2.2.2 i hi
/-- a point turned round the origin -/
def neg (p : S31) : S31 := ⟨-p.f0, -p.f1⟩
theorem neg_neg (p : S31) : neg (neg p) = p := by unfold neg; cases p; simp
theorem crs_neg (a b c : S31) : crs (neg a) (neg b) (neg c) = crs a b c := by unfold crs neg; grind
theorem ltP_neg (a b : S31) : ltP (neg a) (neg b) = ltP b a := by
  rw [Bool.eq_iff_iff]; unfold ltP neg; rw [decide_eq_true_eq, decide_eq_true_eq]
  show (-a.f0 < -b.f0 ∨ -a.f0 = -b.f0 ∧ -a.f1 < -b.f1) ↔ _
  omega
theorem pt_neg (l : List S31) (i : Nat) : pt (l.map neg) i = neg (pt l i) := by
  unfold pt
  rw [List.getD_eq_getElem?_getD, List.getD_eq_getElem?_getD, List.getElem?_map]
  cases l[i]? <;> rfl
theorem popN_neg (out : List S31) (p : S31) : ∀ m, popN (out.map neg) (neg p) m = popN out p m
  | 0 => rfl
  | 1 => rfl
  | m + 2 => by unfold popN; rw [pt_neg, pt_neg, crs_neg, popN_neg out p (m + 1)]
theorem chain_neg (l : List S31) : chainL (l.map neg) = (chainL l).map neg := by
  have key : ∀ (xs out : List S31), (xs.map neg).foldl chStep (out.map neg) = (xs.foldl chStep out).map neg := by
    intro xs
    induction xs with
    | nil => intro out; rfl
    | cons p xs ih =>
      intro out
      rw [List.map_cons, List.foldl_cons, List.foldl_cons, ← ih]
      congr 1
      unfold chStep
      rw [List.length_map, popN_neg, List.map_append, List.map_take]; rfl
  exact key l []
theorem pt_rev (l : List S31) (i : Nat) (h : i < l.length) : pt l.reverse i = pt l (l.length - 1 - i) := by
  rw [pt_eq _ _ (by rw [List.length_reverse]; exact h), pt_eq _ _ (by omega), List.getElem_reverse]
theorem upper_ch (l : List S31) (h : Asc l) (h1 : 0 < l.length) : Ch (l.reverse.map neg) ((chainL l.reverse).map neg) := by
  rw [← chain_neg]
  refine chain_ch _ ?_ (by simpa using h1)
  intro i j hij hj
  rw [List.length_map, List.length_reverse] at hj
  rw [pt_neg, pt_neg, ltP_neg, pt_rev l j hj, pt_rev l i (by omega)]
  exact h _ _ (by omega) (by omega)
theorem onB_iff (a b r : S31) : onB a b r = true ↔ crs a b r = 0 ∧ (mn a.f0 b.f0 ≤ r.f0 ∧ r.f0 ≤ mx a.f0 b.f0) ∧ (mn a.f1 b.f1 ≤ r.f1 ∧ r.f1 ≤ mx a.f1 b.f1) := by
  unfold onB; simp only [Bool.and_eq_true, decide_eq_true_eq, and_assoc]
theorem btw (a b r : Int) : (mn a b ≤ r ∧ r ≤ mx a b) ↔ (a ≤ r ∧ r ≤ b ∨ b ≤ r ∧ r ≤ a) := by unfold mn mx; split <;> omega
theorem onB_iff' (a b r : S31) : onB a b r = true ↔ crs a b r = 0 ∧ (a.f0 ≤ r.f0 ∧ r.f0 ≤ b.f0 ∨ b.f0 ≤ r.f0 ∧ r.f0 ≤ a.f0) ∧ (a.f1 ≤ r.f1 ∧ r.f1 ≤ b.f1 ∨ b.f1 ≤ r.f1 ∧ r.f1 ≤ a.f1) := by rw [onB_iff, btw, btw]
theorem onB_neg (a b r : S31) : onB (neg a) (neg b) (neg r) = onB a b r := by
  rw [Bool.eq_iff_iff, onB_iff', onB_iff', crs_neg]
  unfold neg; simp only
  constructor <;> (intro ⟨h1, h2, h3⟩; exact ⟨h1, by omega, by omega⟩)
theorem onB_swap (a b r : S31) : onB b a r = onB a b r := by
  rw [Bool.eq_iff_iff, onB_iff', onB_iff', show crs b a r = - crs a b r by unfold crs; grind]
  constructor <;> (intro ⟨h1, h2, h3⟩; exact ⟨by omega, by omega, by omega⟩)
/-- a point is to the left of an edge or on it -/
def Lf (a b r : S31) : Prop := 0 < crs a b r ∨ onB a b r = true
theorem Lf.nn {a b r : S31} (h : Lf a b r) : 0 ≤ crs a b r := by
  rcases h with h | h
  · omega
  · have := ((onB_iff a b r).1 h).1; omega
theorem Up.lf {a b r : S31} (h : Up a b r) (hab : ltP a b = true) : Lf a b r := by
  obtain ⟨h1, h2⟩ := h
  rcases Int.lt_or_eq_of_le h1 with h3 | h3
  · exact Or.inl h3
  · right
    obtain ⟨h4, h5⟩ := h2 h3.symm
    rw [onB_iff']
    refine ⟨h3.symm, ?_⟩
    have hc := h3.symm
    unfold crs at hc
    unfold ltP at hab h4 h5
    rw [decide_eq_true_eq] at hab h4 h5
    rcases hab with hab | ⟨ha, hab⟩
    · have hx0 : a.f0 ≤ r.f0 := by omega
      have hx1 : r.f0 ≤ b.f0 := by omega
      refine ⟨Or.inl ⟨hx0, hx1⟩, ?_⟩
      have hd : 0 < b.f0 - a.f0 := by omega
      rcases Int.le_total a.f1 b.f1 with hy | hy
      · left
        have m1 := nn_mul (a := b.f1 - a.f1) (b := r.f0 - a.f0) (by omega) (by omega)
        have m2 := nn_mul (a := b.f1 - a.f1) (b := b.f0 - r.f0) (by omega) (by omega)
        have e1 := nn_of (t := r.f1 - a.f1) hd (by omega)
        have e2 := nn_of (t := b.f1 - r.f1) hd (by grind)
        omega
      · right
        have m1 := nn_mul (a := a.f1 - b.f1) (b := r.f0 - a.f0) (by omega) (by omega)
        have m2 := nn_mul (a := a.f1 - b.f1) (b := b.f0 - r.f0) (by omega) (by omega)
        have e1 := nn_of (t := a.f1 - r.f1) hd (by grind)
        have e2 := nn_of (t := r.f1 - b.f1) hd (by grind)
        omega
    · have hx : r.f0 = a.f0 := by omega
      exact ⟨by omega, by omega⟩
/-- the square of the distance -/
def sqd (a b : S31) : Int := (a.f0 - b.f0) * (a.f0 - b.f0) + (a.f1 - b.f1) * (a.f1 - b.f1)
theorem sq_mono {s t : Int} (h : 0 ≤ s ∧ s ≤ t ∨ t ≤ s ∧ s ≤ 0) : s * s ≤ t * t := by
  rcases h with h | h
  · have := nn_mul (a := t - s) (b := t + s) (by omega) (by omega); grind
  · have := nn_mul (a := s - t) (b := -(t + s)) (by omega) (by omega); grind
theorem sq_mono_lt {s t : Int} (h : 0 ≤ s ∧ s < t ∨ t < s ∧ s ≤ 0) : s * s < t * t := by
  rcases h with h | h
  · have := ps_mul (a := t - s) (b := t + s) (by omega) (by omega); grind
  · have := ps_mul (a := s - t) (b := -(t + s)) (by omega) (by omega); grind
theorem on_sq {a b r : S31} (h : onB a b r = true) (hr : r ≠ b) : sqd a r < sqd a b := by
  obtain ⟨_, h1, h2⟩ := (onB_iff' a b r).1 h
  unfold sqd
  have hne : r.f0 ≠ b.f0 ∨ r.f1 ≠ b.f1 := by
    by_cases h0 : r.f0 = b.f0
    · exact Or.inr (fun h1 => hr (S31.ext' h0 h1))
    · exact Or.inl h0
  have m1 : (a.f0 - r.f0) * (a.f0 - r.f0) ≤ (a.f0 - b.f0) * (a.f0 - b.f0) := sq_mono (by omega)
  have m2 : (a.f1 - r.f1) * (a.f1 - r.f1) ≤ (a.f1 - b.f1) * (a.f1 - b.f1) := sq_mono (by omega)
  rcases hne with h3 | h3
  · have m3 : (a.f0 - r.f0) * (a.f0 - r.f0) < (a.f0 - b.f0) * (a.f0 - b.f0) := sq_mono_lt (by omega)
    omega
  · have m3 : (a.f1 - r.f1) * (a.f1 - r.f1) < (a.f1 - b.f1) * (a.f1 - b.f1) := sq_mono_lt (by omega)
    omega
/-- one step of a look for the next corner -/
def scStep (at_ tq p : S31) : S31 := if p = at_ then tq else if tq = at_ ∨ crs at_ tq p < 0 ∨ (crs at_ tq p = 0 ∧ sqd at_ tq < sqd at_ p) then p else tq
theorem scan_is (at_ b : S31) (hb : b ≠ at_) : ∀ (l : List S31) (tq : S31), (∀ p ∈ l, Lf at_ b p) → (tq = at_ ∨ Lf at_ b tq) → (b ∈ l ∨ tq = b) → l.foldl (scStep at_) tq = b := by
  intro l
  induction l with
  | nil => intro tq _ _ h; rcases h with h | h
           · simp at h
           · exact h
  | cons p l ih =>
    intro tq hl ht hb'
    rw [List.foldl_cons]
    have hp := hl p (by simp)
    by_cases hto : tq = b
    · refine ih _ (fun q hq => hl q (by simp [hq])) ?_ (Or.inr ?_)
      · unfold scStep; split
        · exact ht
        · split
          · exact Or.inr hp
          · exact ht
      · subst hto
        unfold scStep
        split
        · rfl
        · rename_i hpa
          rw [if_neg]
          rintro (h | h | ⟨h1, h2⟩)
          · exact hb h
          · have := hp.nn; omega
          · rcases hp with h | h
            · omega
            · by_cases he : p = tq
              · rw [he] at h2; omega
              · have := on_sq h he; omega
    · by_cases hpb : p = b
      · subst hpb
        refine ih _ (fun q hq => hl q (by simp [hq])) ?_ (Or.inr ?_)
        · unfold scStep; split
          · exact ht
          · split
            · exact Or.inr hp
            · exact ht
        · unfold scStep
          rw [if_neg hb]
          by_cases hta : tq = at_
          · rw [if_pos (Or.inl hta)]
          · rw [if_pos]
            rcases ht with h | h
            · exact absurd h hta
            · have e := crs_swap at_ p tq
              rcases h with h | h
              · right; left; omega
              · right; right
                have h0 := ((onB_iff at_ p tq).1 h).1
                exact ⟨by omega, on_sq h hto⟩
      · have hbl : b ∈ l := by
          rcases hb' with h | h
          · rw [List.mem_cons] at h
            rcases h with h | h
            · exact absurd h.symm hpb
            · exact h
          · exact absurd h hto
        refine ih _ (fun q hq => hl q (by simp [hq])) ?_ (Or.inl hbl)
        unfold scStep; split
        · exact ht
        · split
          · exact Or.inr hp
          · exact ht
/-- the place behind a place of a ring -/
def nxt (i n : Nat) : Nat := if i + 1 < n then i + 1 else 0
/-- the corners of a hull -/
structure IsHull (l H : List S31) : Prop where
  pos : 0 < H.length
  mem : ∀ i, i < H.length → pt H i ∈ l
  least : ∀ r ∈ l, ¬ ltP r (pt H 0) = true
  one : H.length = 1 → ∀ r ∈ l, r = pt H 0
  ed : ∀ i, i < H.length → ∀ r ∈ l, Lf (pt H i) (pt H (nxt i H.length)) r
  ne : ∀ i, 0 < i → i < H.length → pt H i ≠ pt H 0
  ner : ∀ i, i + 1 < H.length → pt H i ≠ pt H (i + 1)
theorem onB_self (a : S31) : onB a a a = true := by rw [onB_iff']; refine ⟨crs_same a a, by omega, by omega⟩
theorem Ch.mono {R out : List S31} (H : Ch R out) : ∀ j i, i < j → j < out.length → ltP (pt out i) (pt out j) = true
  | 0, i, h, _ => by omega
  | j + 1, i, h, hj => by
    rcases Nat.lt_or_ge i j with h1 | h1
    · exact ltP_trans (Ch.mono H j i h1 (by omega)) (H.inc j hj)
    · obtain rfl : i = j := by omega
      exact H.inc i hj
theorem pt_dropLast (l : List S31) (i : Nat) (h : i + 1 < l.length) : pt l.dropLast i = pt l i := by
  rw [pt_eq _ _ (by rw [List.length_dropLast]; omega), pt_eq _ _ (by omega), List.getElem_dropLast]
theorem neg_inj {a b : S31} (h : neg a = neg b) : a = b := by rw [← neg_neg a, h, neg_neg]
theorem corners_hull (l : List S31) (h : 0 < l.length) : IsHull l (cornersS l) := by
  obtain ⟨has, hpos⟩ := sortedS_asc l h
  have hm := sortedS_mem l
  unfold cornersS
  generalize sortedS l = S at *
  by_cases h3 : S.length < 3
  · rw [if_pos h3]
    by_cases h2 : S.length = 1
    · have hone : ∀ r ∈ l, r = pt S 0 := by
        intro r hr
        obtain ⟨i, hi, rfl⟩ := mem_pt ((hm r).2 hr)
        obtain rfl : i = 0 := by omega
        rfl
      refine ⟨hpos, fun i hi => (hm _).1 (pt_mem S i hi), ?_, fun _ => hone, ?_, by omega, by omega⟩
      · intro r hr; rw [hone r hr]; exact ltP_irr _
      · intro i hi r hr
        obtain rfl : i = 0 := by omega
        have : nxt 0 S.length = 0 := by unfold nxt; rw [if_neg (by omega)]
        rw [this, hone r hr]; exact Or.inr (onB_self _)
    · have h2' : S.length = 2 := by omega
      have hlt := has 0 1 (by omega) (by omega)
      have htwo : ∀ r ∈ l, r = pt S 0 ∨ r = pt S 1 := by
        intro r hr
        obtain ⟨i, hi, rfl⟩ := mem_pt ((hm r).2 hr)
        have : i = 0 ∨ i = 1 := by omega
        rcases this with rfl | rfl
        · exact Or.inl rfl
        · exact Or.inr rfl
      refine ⟨hpos, fun i hi => (hm _).1 (pt_mem S i hi), ?_, by omega, ?_, ?_, ?_⟩
      · intro r hr
        rcases htwo r hr with rfl | rfl
        · exact ltP_irr _
        · exact ltP_asym hlt
      · have ends : ∀ a b : S31, Lf a b a ∧ Lf a b b := by
          intro a b
          exact ⟨Or.inr ((onB_iff' a b a).2 ⟨crs_same a b, by omega, by omega⟩), Or.inr ((onB_iff' a b b).2 ⟨crs_end a b, by omega, by omega⟩)⟩
        intro i hi r hr
        have : i = 0 ∨ i = 1 := by omega
        rcases this with rfl | rfl
        · rw [show nxt 0 S.length = 1 by unfold nxt; rw [if_pos (by omega)]]
          rcases htwo r hr with rfl | rfl
          · exact (ends _ _).1
          · exact (ends _ _).2
        · rw [show nxt 1 S.length = 0 by unfold nxt; rw [if_neg (by omega)]]
          rcases htwo r hr with rfl | rfl
          · exact (ends _ _).2
          · exact (ends _ _).1
      · intro i h0 hi e
        obtain rfl : i = 1 := by omega
        rw [e] at hlt; exact ltP_irr _ hlt
      · intro i hi e
        obtain rfl : i = 0 := by omega
        rw [e] at hlt; exact ltP_irr _ hlt
  · rw [if_neg h3]
    have hl := chain_ch S has hpos
    have hu := upper_ch S has hpos
    have hl0 := hl.lst
    generalize chainL S = A at *
    generalize chainL S.reverse = B at *
    have hBl : (B.map neg).length = B.length := List.length_map ..
    have hmR : ∀ r, r ∈ S → neg r ∈ S.reverse.map neg := fun r hr => List.mem_map.2 ⟨r, List.mem_reverse.2 hr, rfl⟩
    have hmR' : ∀ r, neg r ∈ S.reverse.map neg → r ∈ S := by
      intro r hr
      obtain ⟨q, hq, e⟩ := List.mem_map.1 hr
      rw [← neg_inj e]; exact List.mem_reverse.1 hq
    -- the ends
    have e0 : pt A 0 = pt S 0 := by
      rcases ltP_tot (pt A 0) (pt S 0) with h1 | h1 | h1
      · obtain ⟨i, hi, e⟩ := mem_pt (hl.mem 0 hl.pos)
        rw [← e] at h1
        rcases Nat.eq_zero_or_pos i with rfl | h2
        · exact absurd h1 (ltP_irr _)
        · exact absurd h1 (ltP_asym (has 0 i h2 hi))
      · exact h1
      · exact absurd h1 (hl.hd _ (pt_mem S 0 hpos))
    have e1 : pt A (A.length - 1) = pt S (S.length - 1) := by
      rcases ltP_tot (pt A (A.length - 1)) (pt S (S.length - 1)) with h1 | h1 | h1
      · exact absurd h1 (hl.lst _ (pt_mem S _ (by omega)))
      · exact h1
      · obtain ⟨i, hi, e⟩ := mem_pt (hl.mem (A.length - 1) (by have := hl.pos; omega))
        rw [← e] at h1
        rcases Nat.lt_or_ge i (S.length - 1) with h2 | h2
        · exact absurd h1 (ltP_asym (has i _ h2 (by omega)))
        · rw [show i = S.length - 1 by omega] at h1; exact absurd h1 (ltP_irr _)
    have hBp : 0 < B.length := by have := hu.pos; rwa [hBl] at this
    have ninc : ∀ i, i + 1 < B.length → ltP (pt B (i + 1)) (pt B i) = true := by
      intro i hi; have := hu.inc i (by rw [hBl]; exact hi); rwa [pt_neg, pt_neg, ltP_neg] at this
    have nmono : ∀ i j, i < j → j < B.length → ltP (pt B j) (pt B i) = true := by
      intro i j hij hj; have := hu.mono j i hij (by rw [hBl]; exact hj); rwa [pt_neg, pt_neg, ltP_neg] at this
    have nmem : ∀ i, i < B.length → pt B i ∈ S := by
      intro i hi; have := hu.mem i (by rw [hBl]; exact hi); rw [pt_neg] at this; exact hmR' _ this
    have e2 : pt B 0 = pt S (S.length - 1) := by
      rcases ltP_tot (pt B 0) (pt S (S.length - 1)) with h1 | h1 | h1
      · have := hu.hd _ (hmR _ (pt_mem S (S.length - 1) (by omega)))
        rw [pt_neg, ltP_neg] at this; exact absurd h1 this
      · exact h1
      · obtain ⟨i, hi, e⟩ := mem_pt (nmem 0 hBp)
        rw [← e] at h1
        rcases Nat.lt_or_ge i (S.length - 1) with h2 | h2
        · exact absurd h1 (ltP_asym (has i _ h2 (by omega)))
        · rw [show i = S.length - 1 by omega] at h1; exact absurd h1 (ltP_irr _)
    have e3 : pt B (B.length - 1) = pt S 0 := by
      rcases ltP_tot (pt B (B.length - 1)) (pt S 0) with h1 | h1 | h1
      · obtain ⟨i, hi, e⟩ := mem_pt (nmem (B.length - 1) (by omega))
        rw [← e] at h1
        rcases Nat.eq_zero_or_pos i with rfl | h2
        · exact absurd h1 (ltP_irr _)
        · exact absurd h1 (ltP_asym (has 0 i h2 hi))
      · exact h1
      · have := hu.lst _ (hmR _ (pt_mem S 0 hpos))
        rw [pt_neg, ltP_neg, hBl] at this; exact absurd h1 this
    have hS := has 0 (S.length - 1) (by omega) (by omega)
    have hA2 : 2 ≤ A.length := by
      rcases Nat.lt_or_ge A.length 2 with h1 | h1
      · have h2 := hl.pos
        rw [show A.length - 1 = 0 by omega, e0] at e1
        rw [← e1] at hS; exact absurd hS (ltP_irr _)
      · exact h1
    have hB2 : 2 ≤ B.length := by
      rcases Nat.lt_or_ge B.length 2 with h1 | h1
      · rw [show B.length - 1 = 0 by omega, e2] at e3
        rw [e3] at hS; exact absurd hS (ltP_irr _)
      · exact h1
    have hlen : (A.dropLast ++ B.dropLast).length = A.length - 1 + (B.length - 1) := by rw [List.length_append, List.length_dropLast, List.length_dropLast]
    have hA : ∀ i, i < A.length - 1 → pt (A.dropLast ++ B.dropLast) i = pt A i := by
      intro i hi
      rw [pt_app_l _ _ _ (by rw [List.length_dropLast]; exact hi), pt_dropLast _ _ (by omega)]
    have hB : ∀ i, i < B.length - 1 → pt (A.dropLast ++ B.dropLast) (A.length - 1 + i) = pt B i := by
      intro i hi
      rw [pt_app_r _ _ _ (by rw [List.length_dropLast]; omega), List.length_dropLast, Nat.add_sub_cancel_left, pt_dropLast _ _ (by omega)]
    have hA' : pt (A.dropLast ++ B.dropLast) (A.length - 1) = pt A (A.length - 1) := by
      have := hB 0 (by omega); rw [Nat.add_zero] at this; rw [this, e2, e1]
    have h0 : pt (A.dropLast ++ B.dropLast) 0 = pt S 0 := by rw [hA 0 (by omega), e0]
    generalize A.dropLast ++ B.dropLast = H at *
    have part : ∀ i, i < H.length → i < A.length - 1 ∨ ∃ j, i = A.length - 1 + j ∧ j < B.length - 1 := by
      intro i hi
      rcases Nat.lt_or_ge i (A.length - 1) with h1 | h1
      · exact Or.inl h1
      · exact Or.inr ⟨i - (A.length - 1), by omega, by omega⟩
    have edA : ∀ i, i + 1 < A.length → ∀ r ∈ l, Lf (pt A i) (pt A (i + 1)) r := fun i hi r hr => (hl.ed i hi r ((hm r).2 hr)).lf (hl.inc i hi)
    have edB : ∀ i, i + 1 < B.length → ∀ r ∈ l, Lf (pt B i) (pt B (i + 1)) r := by
      intro i hi r hr
      have h4 := (hu.ed i (by rw [hBl]; exact hi) _ (hmR r ((hm r).2 hr))).lf (hu.inc i (by rw [hBl]; exact hi))
      rw [pt_neg, pt_neg] at h4
      unfold Lf at h4
      rw [crs_neg, onB_neg] at h4
      exact h4
    refine ⟨by omega, ?_, ?_, by omega, ?_, ?_, ?_⟩
    · intro i hi
      rcases part i hi with h1 | ⟨j, rfl, h1⟩
      · rw [hA i h1]; exact (hm _).1 (hl.mem i (by omega))
      · rw [hB j h1]; exact (hm _).1 (nmem j (by omega))
    · intro r hr
      rw [h0, ← e0]; exact hl.hd r ((hm r).2 hr)
    · intro i hi r hr
      rcases part i hi with h1 | ⟨j, rfl, h1⟩
      · rw [show nxt i H.length = i + 1 by unfold nxt; rw [if_pos (by omega)], hA i h1]
        have e : pt H (i + 1) = pt A (i + 1) := by
          rcases Nat.lt_or_ge (i + 1) (A.length - 1) with h2 | h2
          · exact hA _ h2
          · rw [show i + 1 = A.length - 1 by omega]; exact hA'
        rw [e]; exact edA i (by omega) r hr
      · rw [hB j h1]
        rcases Nat.lt_or_ge (j + 1) (B.length - 1) with h2 | h2
        · rw [show nxt (A.length - 1 + j) H.length = A.length - 1 + (j + 1) by unfold nxt; rw [if_pos (by omega)]; omega, hB _ h2]
          exact edB j (by omega) r hr
        · rw [show nxt (A.length - 1 + j) H.length = 0 by unfold nxt; rw [if_neg (by omega)], h0, ← e3, show B.length - 1 = j + 1 by omega]
          exact edB j (by omega) r hr
    · intro i h4 hi
      rw [h0]
      intro e
      rcases part i hi with h1 | ⟨j, rfl, h1⟩
      · rw [hA i h1] at e
        have := hl.mono i 0 h4 (by omega)
        rw [e, e0] at this; exact ltP_irr _ this
      · rw [hB j h1] at e
        have := nmono j (B.length - 1) h1 (by omega)
        rw [e, e3] at this; exact ltP_irr _ this
    · intro i hi e
      rcases part i (by omega) with h1 | ⟨j, rfl, h1⟩
      · rw [hA i h1] at e
        have e' : pt H (i + 1) = pt A (i + 1) := by
          rcases Nat.lt_or_ge (i + 1) (A.length - 1) with h2 | h2
          · exact hA _ h2
          · rw [show i + 1 = A.length - 1 by omega]; exact hA'
        rw [e'] at e
        have := hl.inc i (by omega)
        rw [e] at this; exact ltP_irr _ this
      · rw [hB j h1, Nat.add_assoc, hB (j + 1) (by omega)] at e
        have := ninc j (by omega)
        rw [e] at this; exact ltP_irr _ this
end Go.Proofs.Ythaklbjcjoolcaa.P
namespace Go.Proofs.Ythaklbjcjoolcaa.P
open Go.RowKit Go.Shelf Go.Sort Go.Proofs.YthaklbjcjoolcaaW.PrintWords Go.Proofs.YthaklbjcjoolcaaW.PrintLast Go.Proofs.YthaklbjcjoolcaaW.PrintMore
set_option linter.unusedVariables false
set_option linter.unusedSimpArgs false
/-- the walk round a hull from corner to corner -/
def giftGo (l : List S31) (first : S31) : Nat → S31 → List S31 → Option (List S31)
  | 0, _, _ => none
  | k + 1, at_, out => if l.foldl (scStep at_) at_ = at_ ∨ l.foldl (scStep at_) at_ = first then some out else giftGo l first k (l.foldl (scStep at_) at_) (out ++ [l.foldl (scStep at_) at_])
theorem hull_next {l H : List S31} (h : IsHull l H) (i : Nat) (hi : i < H.length) : l.foldl (scStep (pt H i)) (pt H i) = pt H (nxt i H.length) := by
  by_cases h1 : H.length = 1
  · obtain rfl : i = 0 := by omega
    rw [show nxt 0 H.length = 0 by unfold nxt; rw [if_neg (by omega)]]
    have hall := h.one h1
    generalize pt H 0 = a at *
    clear h h1 hi
    induction l with
    | nil => rfl
    | cons p l ih =>
      rw [List.foldl_cons, show scStep a a p = a by unfold scStep; rw [if_pos (hall p (by simp))]]
      exact ih (fun r hr => hall r (by simp [hr]))
  · have hb : pt H (nxt i H.length) ≠ pt H i := by
      unfold nxt
      split
      · rename_i h2; exact fun e => h.ner i h2 e.symm
      · rename_i h2; exact fun e => h.ne i (by omega) hi e.symm
    have hm : pt H (nxt i H.length) ∈ l := by
      refine h.mem _ ?_
      unfold nxt; split <;> omega
    exact scan_is _ _ hb l _ (h.ed i hi) (Or.inl rfl) (Or.inl hm)
theorem gift_is {l H : List S31} (h : IsHull l H) : ∀ d i k, i < H.length → i + 1 + d = H.length → d < k → giftGo l (pt H 0) k (pt H i) (H.take (i + 1)) = some H := by
  intro d
  induction d with
  | zero =>
    intro i k hi hd hk
    obtain ⟨k, rfl⟩ : ∃ k', k = k' + 1 := ⟨k - 1, by omega⟩
    unfold giftGo
    rw [hull_next h i hi, show nxt i H.length = 0 by unfold nxt; rw [if_neg (by omega)], if_pos (Or.inr rfl), show i + 1 = H.length by omega, List.take_length]
  | succ d ih =>
    intro i k hi hd hk
    obtain ⟨k, rfl⟩ : ∃ k', k = k' + 1 := ⟨k - 1, by omega⟩
    unfold giftGo
    rw [hull_next h i hi, show nxt i H.length = i + 1 by unfold nxt; rw [if_pos (by omega)], if_neg, ← take_pt H (i + 1) (by omega)]
    · exact ih (i + 1) k (by omega) (by omega) (by omega)
    · rintro (e | e)
      · exact h.ner i (by omega) e.symm
      · exact h.ne (i + 1) (by omega) (by omega) e
theorem hull_unique {l A B : List S31} (ha : IsHull l A) (hb : IsHull l B) : A = B := by
  have e : pt A 0 = pt B 0 := by
    rcases ltP_tot (pt A 0) (pt B 0) with h | h | h
    · exact absurd h (hb.least _ (ha.mem 0 ha.pos))
    · exact h
    · exact absurd h (ha.least _ (hb.mem 0 hb.pos))
  have g1 := gift_is ha (A.length - 1) 0 (A.length + B.length) ha.pos (by have := ha.pos; omega) (by have := ha.pos; omega)
  have g2 := gift_is hb (B.length - 1) 0 (A.length + B.length) hb.pos (by have := hb.pos; omega) (by have := hb.pos; omega)
  rw [take_pt A 0 ha.pos, e] at g1
  rw [take_pt B 0 hb.pos] at g2
  have : some A = some B := by rw [← g1, ← g2]; rfl
  exact Option.some.inj this
theorem hull_same {l m H : List S31} (h : IsHull l H) (hlm : ∀ p, p ∈ m ↔ p ∈ l) : IsHull m H :=
  ⟨h.pos, fun i hi => (hlm _).2 (h.mem i hi), fun r hr => h.least r ((hlm r).1 hr), fun h1 r hr => h.one h1 r ((hlm r).1 hr), fun i hi r hr => h.ed i hi r ((hlm r).1 hr), h.ne, h.ner⟩
theorem hull_self {l H : List S31} (h : IsHull l H) : IsHull H H := by
  have hs : ∀ r ∈ H, r ∈ l := fun r hr => by obtain ⟨i, hi, rfl⟩ := mem_pt hr; exact h.mem i hi
  exact ⟨h.pos, fun i hi => pt_mem H i hi, fun r hr => h.least r (hs r hr), fun h1 r hr => h.one h1 r (hs r hr), fun i hi r hr => h.ed i hi r (hs r hr), h.ne, h.ner⟩
theorem corners_again {l : List S31} (h : 0 < l.length) : cornersS (cornersS l) = cornersS l := by
  have h1 := corners_hull l h
  exact hull_unique (corners_hull _ h1.pos) (hull_self h1)
theorem corners_same {l m : List S31} (h : 0 < l.length) (hm : 0 < m.length) (hlm : ∀ p, p ∈ m ↔ p ∈ l) : cornersS m = cornersS l :=
  hull_unique (corners_hull m hm) (hull_same (corners_hull l h) hlm)
theorem lf_unique {a b c : S31} (h1 : Lf a b c) (h2 : Lf a c b) : b = c := by
  have e := crs_swap a b c
  have n1 := h1.nn
  have n2 := h2.nn
  have o1 : onB a b c = true := by
    rcases h1 with h | h
    · omega
    · exact h
  have o2 : onB a c b = true := by
    rcases h2 with h | h
    · omega
    · exact h
  obtain ⟨_, x1, y1⟩ := (onB_iff' _ _ _).1 o1
  obtain ⟨_, x2, y2⟩ := (onB_iff' _ _ _).1 o2
  exact S31.ext' (by omega) (by omega)
theorem nxt_mod {i n : Nat} (h : i < n) : nxt i n = (i + 1) % n := by
  unfold nxt
  split
  · rename_i h1; rw [Nat.mod_eq_of_lt h1]
  · rw [show i + 1 = n by omega, Nat.mod_self]
theorem nxt_lt {i n : Nat} (h : 0 < n) : nxt i n < n := by unfold nxt; split <;> omega
theorem hull_inj {l H : List S31} (h : IsHull l H) : ∀ d i j, j + d = H.length → i < j → j < H.length → pt H i ≠ pt H j := by
  intro d
  induction d with
  | zero => intro i j h1 h2 h3; omega
  | succ d ih =>
    intro i j h1 h2 h3 e
    have l1 := h.ed i (by omega) _ (h.mem _ (nxt_lt (i := j) h.pos))
    have l2 := h.ed j h3 _ (h.mem _ (nxt_lt (i := i) h.pos))
    rw [← e] at l2
    have e2 := lf_unique l1 l2
    rw [show nxt i H.length = i + 1 by unfold nxt; rw [if_pos (by omega)]] at e2
    rcases Nat.lt_or_ge (j + 1) H.length with h4 | h4
    · rw [show nxt j H.length = j + 1 by unfold nxt; rw [if_pos h4]] at e2
      exact ih (i + 1) (j + 1) (by omega) (by omega) h4 e2
    · rw [show nxt j H.length = 0 by unfold nxt; rw [if_neg (by omega)]] at e2
      exact h.ne (i + 1) (by omega) (by omega) e2
theorem hull_ne {l H : List S31} (h : IsHull l H) {i j : Nat} (hi : i < H.length) (hj : j < H.length) (hij : i ≠ j) : pt H i ≠ pt H j := by
  rcases Nat.lt_or_ge i j with h1 | h1
  · exact hull_inj h (H.length - j) i j (by omega) h1 hj
  · exact fun e => hull_inj h (H.length - i) j i (by omega) (by omega) hi e.symm
theorem hull_left {l H : List S31} (h : IsHull l H) (h3 : 2 < H.length) (i : Nat) (hi : i < H.length) : 0 < crs (pt H i) (pt H (nxt i H.length)) (pt H (nxt (nxt i H.length) H.length)) := by
  have hb := nxt_lt (i := i) h.pos
  have hc := nxt_lt (i := nxt i H.length) h.pos
  have hac : pt H i ≠ pt H (nxt (nxt i H.length) H.length) := hull_ne h hi hc (by unfold nxt; split <;> split <;> omega)
  have l1 := h.ed i hi _ (h.mem _ hc)
  have l2 := h.ed _ hb _ (h.mem _ hi)
  generalize pt H (nxt (nxt i H.length) H.length) = c at *
  generalize pt H (nxt i H.length) = b at *
  generalize pt H i = a at *
  rcases l1 with l1 | l1
  · exact l1
  · exfalso
    obtain ⟨z, x1, y1⟩ := (onB_iff' _ _ _).1 l1
    have o2 : onB b c a = true := by
      rcases l2 with l2 | l2
      · rw [crs_rot] at l2; omega
      · exact l2
    obtain ⟨_, x2, y2⟩ := (onB_iff' _ _ _).1 o2
    exact hac (S31.ext' (by omega) (by omega))
/-- the value of a linear function at a point -/
def lin (u v : Int) (p : S31) : Int := u * p.f0 + v * p.f1
theorem lin_key (u v : Int) (a b c m : S31) : crs a b c * (lin u v m - lin u v b) = crs a b m * (lin u v c - lin u v b) + crs b c m * (lin u v a - lin u v b) := by
  unfold crs lin; grind
theorem lin_on (u v : Int) {a b r : S31} (h : onB a b r = true) : lin u v r ≤ lin u v a ∨ lin u v r ≤ lin u v b := by
  obtain ⟨hc, hx, hy⟩ := (onB_iff' _ _ _).1 h
  rcases Int.lt_or_le (lin u v a) (lin u v r) with h1 | h1
  · rcases Int.lt_or_le (lin u v b) (lin u v r) with h2 | h2
    · exfalso
      -- both ends are lower: the point cannot lie between them
      unfold lin at h1 h2
      unfold crs at hc
      have key1 : (u * (r.f0 - a.f0) + v * (r.f1 - a.f1)) * (b.f0 - r.f0) = (u * (b.f0 - r.f0) + v * (b.f1 - r.f1)) * (r.f0 - a.f0) := by grind
      have key2 : (u * (r.f0 - a.f0) + v * (r.f1 - a.f1)) * (b.f1 - r.f1) = (u * (b.f0 - r.f0) + v * (b.f1 - r.f1)) * (r.f1 - a.f1) := by grind
      have p1 : 0 < u * (r.f0 - a.f0) + v * (r.f1 - a.f1) := by grind
      have p2 : 0 < -(u * (b.f0 - r.f0) + v * (b.f1 - r.f1)) := by grind
      generalize hP : u * (r.f0 - a.f0) + v * (r.f1 - a.f1) = P at *
      generalize hQ : u * (b.f0 - r.f0) + v * (b.f1 - r.f1) = Q at *
      have zx : r.f0 = a.f0 ∧ b.f0 = r.f0 := by
        rcases hx with hx | hx
        · have n1 := nn_mul (a := P) (b := b.f0 - r.f0) (by omega) (by omega)
          have n2 := nn_mul (a := -Q) (b := r.f0 - a.f0) (by omega) (by omega)
          have n2' : 0 ≤ -(Q * (r.f0 - a.f0)) := by grind
          have z1 : P * (b.f0 - r.f0) = 0 := by omega
          have z2 : Q * (r.f0 - a.f0) = 0 := by omega
          rcases Int.mul_eq_zero.1 z1 with h | h <;> rcases Int.mul_eq_zero.1 z2 with h' | h' <;> omega
        · have n1 := nn_mul (a := P) (b := r.f0 - b.f0) (by omega) (by omega)
          have n2 := nn_mul (a := -Q) (b := a.f0 - r.f0) (by omega) (by omega)
          have n1' : 0 ≤ -(P * (b.f0 - r.f0)) := by grind
          have n2' : 0 ≤ Q * (r.f0 - a.f0) := by grind
          have z1 : P * (b.f0 - r.f0) = 0 := by omega
          have z2 : Q * (r.f0 - a.f0) = 0 := by omega
          rcases Int.mul_eq_zero.1 z1 with h | h <;> rcases Int.mul_eq_zero.1 z2 with h' | h' <;> omega
      have zy : r.f1 = a.f1 ∧ b.f1 = r.f1 := by
        rcases hy with hx | hx
        · have n1 := nn_mul (a := P) (b := b.f1 - r.f1) (by omega) (by omega)
          have n2 := nn_mul (a := -Q) (b := r.f1 - a.f1) (by omega) (by omega)
          have n2' : 0 ≤ -(Q * (r.f1 - a.f1)) := by grind
          have z1 : P * (b.f1 - r.f1) = 0 := by omega
          have z2 : Q * (r.f1 - a.f1) = 0 := by omega
          rcases Int.mul_eq_zero.1 z1 with h | h <;> rcases Int.mul_eq_zero.1 z2 with h' | h' <;> omega
        · have n1 := nn_mul (a := P) (b := r.f1 - b.f1) (by omega) (by omega)
          have n2 := nn_mul (a := -Q) (b := a.f1 - r.f1) (by omega) (by omega)
          have n1' : 0 ≤ -(P * (b.f1 - r.f1)) := by grind
          have n2' : 0 ≤ Q * (r.f1 - a.f1) := by grind
          have z1 : P * (b.f1 - r.f1) = 0 := by omega
          have z2 : Q * (r.f1 - a.f1) = 0 := by omega
          rcases Int.mul_eq_zero.1 z1 with h | h <;> rcases Int.mul_eq_zero.1 z2 with h' | h' <;> omega
      rw [zx.1, zy.1] at hP
      have : P = 0 := by rw [← hP]; grind
      omega
    · exact Or.inr h2
  · exact Or.inl h1
theorem max_at (f : S31 → Int) : ∀ (H : List S31), 0 < H.length → ∃ i, i < H.length ∧ ∀ j, j < H.length → f (pt H j) ≤ f (pt H i) := by
  intro H hH
  have key : ∀ n, 0 < n → ∃ i, i < n ∧ ∀ j, j < n → f (pt H j) ≤ f (pt H i) := by
    intro n
    induction n with
    | zero => intro h; omega
    | succ n ih =>
      intro _
      rcases Nat.eq_zero_or_pos n with rfl | hn
      · exact ⟨0, by omega, fun j hj => by obtain rfl : j = 0 := by omega
                                           exact Int.le_refl _⟩
      · obtain ⟨i, hi, hm⟩ := ih hn
        rcases Int.lt_or_le (f (pt H i)) (f (pt H n)) with h | h
        · refine ⟨n, by omega, fun j hj => ?_⟩
          rcases Nat.lt_or_ge j n with h1 | h1
          · have := hm j h1; omega
          · obtain rfl : j = n := by omega
            exact Int.le_refl _
        · refine ⟨i, by omega, fun j hj => ?_⟩
          rcases Nat.lt_or_ge j n with h1 | h1
          · exact hm j h1
          · obtain rfl : j = n := by omega
            exact h
  exact key H.length hH
/-- a linear function is greatest at a corner -/
theorem hull_max {l H : List S31} (h : IsHull l H) (u v : Int) : ∃ i, i < H.length ∧ ∀ p ∈ l, lin u v p ≤ lin u v (pt H i) := by
  obtain ⟨i, hi, hm⟩ := max_at (lin u v) H h.pos
  refine ⟨i, hi, fun p hp => ?_⟩
  by_cases h1 : H.length = 1
  · rw [h.one h1 p hp]; exact hm 0 (by omega)
  · by_cases h2 : H.length = 2
    · have he := h.ed 0 (by omega) p hp
      have he' := h.ed 1 (by omega) p hp
      rw [show nxt 0 H.length = 1 by unfold nxt; rw [if_pos (by omega)]] at he
      rw [show nxt 1 H.length = 0 by unfold nxt; rw [if_neg (by omega)]] at he'
      have n1 := he.nn
      have n2 := he'.nn
      have e : crs (pt H 1) (pt H 0) p = - crs (pt H 0) (pt H 1) p := by unfold crs; grind
      rcases he with h3 | h3
      · omega
      · rcases lin_on u v h3 with h4 | h4
        · have := hm 0 (by omega); omega
        · have := hm 1 (by omega); omega
    · -- the corner ahead of it
      obtain ⟨k, hk, hki⟩ : ∃ k, k < H.length ∧ nxt k H.length = i := by
        rcases Nat.eq_zero_or_pos i with rfl | h3
        · exact ⟨H.length - 1, by omega, by unfold nxt; rw [if_neg (by omega)]⟩
        · exact ⟨i - 1, by omega, by unfold nxt; rw [if_pos (by omega)]; omega⟩
      have ht := hull_left h (by omega) k hk
      have e1 := (h.ed k hk p hp).nn
      have e2 := (h.ed i hi p hp).nn
      rw [hki] at ht e1
      have f1 := hm k hk
      have f2 := hm _ (nxt_lt (i := i) h.pos)
      have key := lin_key u v (pt H k) (pt H i) (pt H (nxt i H.length)) p
      generalize pt H (nxt i H.length) = c at *
      generalize pt H i = b at *
      generalize pt H k = a at *
      rcases Int.lt_or_le (lin u v b) (lin u v p) with h4 | h4
      · exfalso
        have m1 := ps_mul (a := crs a b c) (b := lin u v p - lin u v b) ht (by omega)
        have m2 := nn_mul (a := crs a b p) (b := lin u v b - lin u v c) e1 (by omega)
        have m3 := nn_mul (a := crs b c p) (b := lin u v b - lin u v a) e2 (by omega)
        have m2' : crs a b p * (lin u v c - lin u v b) ≤ 0 := by grind
        have m3' : crs b c p * (lin u v a - lin u v b) ≤ 0 := by grind
        omega
      · exact h4
end Go.Proofs.Ythaklbjcjoolcaa.P
namespace Go.Proofs.Ythaklbjcjoolcaa.P
open Go.RowKit Go.Proofs.YthaklbjcjoolcaaW.PrintWords Go.Proofs.YthaklbjcjoolcaaW.PrintLast Go.Proofs.YthaklbjcjoolcaaW.PrintMore
attribute [local go_sem] max2_int min2_int max_two min_two max_three min_three max_four min_four   -- for this text's walks alone
set_option linter.unusedVariables false
set_option linter.unusedSimpArgs false

/-! ### plane_square: function 72 -/
def plane_square.f (a0_0 : Int) (a0_1 : Int) (a1_0 : Int) (a1_1 : Int) : Option (Int) := some (wrap64 ((wrap64 ((wrap64 (a0_0 - a1_0)) * (wrap64 (a0_0 - a1_0)))) + (wrap64 ((wrap64 (a0_1 - a1_1)) * (wrap64 (a0_1 - a1_1))))))
set_option maxHeartbeats 8000000 in
set_option maxRecDepth 100000 in
theorem plane_square.calls (a0_0 : Int) (a0_1 : Int) (a1_0 : Int) (a1_1 : Int) (r : Int) (w : World) (h : plane_square.f a0_0 a0_1 a1_0 a1_1 = some r) :
  Calls Try.prog 72 #[.agg #[.int .i64 a0_0, .int .i64 a0_1], .agg #[.int .i64 a1_0, .int .i64 a1_1]] w fun e w' => e = .returned (.int .i64 r) ∧ Below w.heap.size w w' := by
 have hu31 := Try.underlying31
 have HB := Aside0.mk (Below.refl w.heap.size w)
 have H : (some (wrap64 ((wrap64 ((wrap64 (a0_0 - a1_0)) * (wrap64 (a0_0 - a1_0)))) + (wrap64 ((wrap64 (a0_1 - a1_1)) * (wrap64 (a0_1 - a1_1))))))) = some r := h
 clear h
 obtain rfl := Option.some.inj H
 go_enter Try.func72, Try.ntmps72
 go_wp2_with (first | ((with_reducible refine gate_dst (N := 2) rfl ?_); refine box_event ?hg (N := 2) ?hd (cs := #[.int .i64 a0_0, .int .i64 a0_1]) (t := 31) ?hr ?_; (case hd => rfl); (case hg => rfl); (case hr => first | (go_simp; done) | (go_simp; rfl)); intro gb535 hg w3 hbox hb; have n0_ := Aside0.mk (below_step (by repeat (first | (with_reducible first | exact HB.out | apply lA | apply lN | apply lD) | exact HB.out)) hb); have n1_ := Aside0.mk (hbox); have n2_ := Aside0.mk ((by rw [hg]; exact (below_size (by repeat (first | (with_reducible first | exact HB.out | apply lA | apply lN | apply lD) | exact HB.out))) : w.heap.size ≤ gb535)); have n3_ := Aside0.mk ((by rw [hg]; exact (below_size (by repeat (first | (with_reducible first | exact HB.out | apply lA | apply lN | apply lD) | exact HB.out))) : w.heap.size ≤ gb535)); clear HB; have HB := n0_; have BK535 := n1_; have GW535 := n2_; have GE535 := n3_; clear n0_ n1_ n2_ n3_; clear hb hbox hg) | ((with_reducible refine gate_dst (N := 3) rfl ?_); refine box_event ?hg (N := 3) ?hd (cs := #[.int .i64 a1_0, .int .i64 a1_1]) (t := 31) ?hr ?_; (case hd => rfl); (case hg => rfl); (case hr => first | (go_simp; done) | (go_simp; rfl)); intro gb536 hg w4 hbox hb; have n0_ := Aside0.mk (blk_below (g := gb535) (o := .cells #[.int .i64 a0_0, .int .i64 a0_1] 31 (0, 0)) (kX BK535.out) hb); have n1_ := Aside0.mk (below_step (by repeat (first | (with_reducible first | exact HB.out | apply lA | apply lN | apply lD | refine lS ?_ GE535.out) | exact HB.out)) hb); have n2_ := Aside0.mk (hbox); have n3_ := Aside0.mk ((by rw [hg]; exact (below_size (by repeat (first | (with_reducible first | exact HB.out | apply lA | apply lN | apply lD | refine lS ?_ GE535.out) | exact HB.out))) : w.heap.size ≤ gb536)); have n4_ := Aside0.mk ((by rw [hg]; exact (below_size (by repeat (first | (with_reducible first | exact HB.out | apply lA | apply lN | apply lD | refine lS ?_ GE535.out) | exact HB.out))) : w.heap.size ≤ gb536)); have n5_ := Aside0.mk ((by rw [hg]; exact Nat.ne_of_lt (blk_lt (g := gb535) (o := .cells #[.int .i64 a0_0, .int .i64 a0_1] 31 (0, 0)) (kX BK535.out)) : gb535 ≠ gb536)); have n6_ := Aside0.mk ((by rw [hg]; exact Nat.ne_of_gt (blk_lt (g := gb535) (o := .cells #[.int .i64 a0_0, .int .i64 a0_1] 31 (0, 0)) (kX BK535.out)) : gb536 ≠ gb535)); clear BK535; clear HB; have BK535 := n0_; have HB := n1_; have BK536 := n2_; have GW536 := n3_; have GE536 := n4_; have NB535_536 := n5_; have NB536_535 := n6_; clear n0_ n1_ n2_ n3_ n4_ n5_ n6_; clear hb hbox hg; have hnb5 := NB535_536.out; have hnc5 := NB536_535.out; have hcz6_0 : w4.cell? ⟨gb535, 0, none⟩ = some (.int .i64 a0_0) := (blk_cell BK535.out 0).trans rfl; have hcz6_1 : w4.cell? ⟨gb535, 1, none⟩ = some (.int .i64 a0_1) := (blk_cell BK535.out 1).trans rfl; have hfz6_0 := blk_frozen BK535.out 0; have hfz6_1 := blk_frozen BK535.out 1; have hcz7_0 : w4.cell? ⟨gb536, 0, none⟩ = some (.int .i64 a1_0) := (blk_cell BK536.out 0).trans rfl; have hcz7_1 : w4.cell? ⟨gb536, 1, none⟩ = some (.int .i64 a1_1) := (blk_cell BK536.out 1).trans rfl; have hfz7_0 := blk_frozen BK536.out 0; have hfz7_1 := blk_frozen BK536.out 1))
 go_ret
 exact ⟨by first | rfl | (simp [errW_none, errW_some] <;> rfl) | (simp [*, errW_none, errW_some] <;> rfl), by repeat (first | (with_reducible first | exact HB.out | apply lA | apply lN | apply lD | refine lS ?_ GE535.out | refine lS ?_ GE536.out) | exact HB.out)⟩

end Go.Proofs.Ythaklbjcjoolcaa.P
namespace Go.Proofs.Ythaklbjcjoolcaa.P
open Go.RowKit Go.Shelf Go.Sort Go.Proofs.YthaklbjcjoolcaaW.PrintWords Go.Proofs.YthaklbjcjoolcaaW.PrintLast Go.Proofs.YthaklbjcjoolcaaW.PrintMore
set_option linter.unusedVariables false
set_option linter.unusedSimpArgs false
attribute [local go_sem] max2_int min2_int max_two min_two
theorem square_is {a b : S31} (ha : okPt a = true) (hb : okPt b = true) : plane_square.f a.f0 a.f1 b.f0 b.f1 = some (sqd a b) := by
  rw [okPt_iff] at ha hb
  have h1 := mul_bd (a := a.f0 - b.f0) (b := a.f0 - b.f0) (m := 8192) (n := 8192) (by omega) (by omega)
  have h2 := mul_bd (a := a.f1 - b.f1) (b := a.f1 - b.f1) (m := 8192) (n := 8192) (by omega) (by omega)
  unfold plane_square.f sqd
  rw [w64i (x := a.f0 - b.f0) (by omega) (by omega), w64i (x := a.f1 - b.f1) (by omega) (by omega), w64i (x := (a.f0 - b.f0) * (a.f0 - b.f0)) (by omega) (by omega), w64i (x := (a.f1 - b.f1) * (a.f1 - b.f1)) (by omega) (by omega), w64i (by omega) (by omega)]
/-- the greatest square of a distance from one point to those ahead of it -/
def widR (l : List S31) (i : Nat) : Nat → Int → Int
  | 0, m => m
  | j + 1, m => mx (widR l i j m) (sqd (pt l i) (pt l j))
/-- the greatest square of a distance -/
def widA (l : List S31) : Nat → Int
  | 0 => 0
  | i + 1 => widR l i i (widA l i)
def plane_Widest.f (l0 : List S31) : Option (Int × Int) := if isSetB l0 = true then some (widA (cornersS l0) (cornersS l0).length, 0) else some (0, 2)
set_option maxHeartbeats 4000000 in
set_option maxRecDepth 100000 in
theorem widest_yes (A0 : Option Addr) (c0 : Nat) (l0 : List S31) (w : World) (hr0 : Kd.C k31 w A0 l0.length l0) (hc0 : l0.length ≤ c0) (hs : isSetB l0 = true) :
    Calls Try.prog 42 #[.slice A0 l0.length c0] w fun e w' => e = .returned (.tuple #[.int .i64 (widA (cornersS l0) (cornersS l0).length), .int .i64 0]) ∧ Below w.heap.size w w' := by
  obtain ⟨⟨h1, h2⟩, h3⟩ := (isSetB_iff l0).1 hs
  have HS := Aside0.mk (fun W (hb : Below w.heap.size w W) => plane_isSet.calls A0 c0 l0 _ W (Kd.C_below hr0 hb) hc0 (isSet_is l0))
  have HC := Aside0.mk (fun W (hb : Below w.heap.size w W) => corners_calls A0 c0 l0 W (Kd.C_below hr0 hb) hc0 h1 (by omega) h3)
  have HB := Aside0.mk (Below.refl w.heap.size w)
  have HOK := Aside0.mk (cornersS_ok h3)
  have hcl := cornersS_len l0
  rw [hs] at HS
  generalize cornersS l0 = H at *
  clear hr0 h3 hs
  go_enter Try.func42, Try.ntmps42
  go_wp2_with (first | (go_at_call 55; go_must (refine (HS.out _ HB.out).mono ?_); rintro e w1 ⟨rfl, hb1⟩; have HB1 := Aside0.mk (below_step HB.out hb1); clear hb1) | (go_at_call 64; go_must (refine (HC.out _ HB1.out).mono ?_); rintro e w2 ⟨v5, rfl, hR, hb2⟩; have HB2 := Aside0.mk (below_step HB1.out hb2); have HR2 := Aside0.mk (Kd.R_lower hR HB1.out.size); clear hb2 hR; obtain ⟨Ao, co, rfl⟩ := Kd.R_slice HR2.out; have hmc : H.length ≤ co := (Kd.R_reads' HR2.out).2.1))
  clear HB HB1 HS HC
  go_loopw [4, 17] (fun v4 v17 wr => ∃ i : Nat, i ≤ H.length ∧ v17 = .int .i64 i ∧ v4 = .int .i64 (widA H i) ∧ Aside0 (Kd.R k31 31 wr w.heap.size (fun _ => True) (.slice Ao H.length co) H) ∧ Aside0 (Below w.heap.size w wr)) (fun _ v17 _ => H.length - (intOf v17).toNat)
  case atStart => exact ⟨0, by omega, rfl, rfl, HR2, HB2⟩
  case round =>
    clear HR2 HB2
    obtain ⟨i, hi, rfl, rfl, HR, HB⟩ := hrel
    by_cases hlt : i < H.length
    · obtain ⟨g, hgA⟩ : ∃ g, Ao = some ⟨g, 0, none⟩ := by
        obtain ⟨g, cap, e, _⟩ := Kd.R_form HR.out (by omega)
        injection e with e1
        exact ⟨g, e1⟩
      subst hgA
      obtain ⟨x0, x1, _⟩ := at31 HR.out i hlt
      have hltI : ((i : Nat) : Int) < ((H.length : Nat) : Int) := by omega
      have hcI : ((i : Nat) : Int) ≤ ((co : Nat) : Int) := by omega
      have HPI := Aside0.mk (allOk_pt HOK.out i hlt)
      have HW := Aside0.mk (show widA H (i + 1) = widR H i i (widA H i) from rfl)
      generalize hp : pt H i = p at *
      have HP := Aside0.mk hp
      clear hp
      obtain ⟨gA, hgA⟩ : ∃ g, g = wr.heap.size := ⟨_, rfl⟩
      have BA1 := Aside0.mk (heap_alloc_new wr (Obj.cells #[.int .i64 p.f0, .int .i64 p.f1] 31))
      have HR1 := Aside0.mk (Kd.R_alloc HR.out (Obj.cells #[.int .i64 p.f0, .int .i64 p.f1] 31))
      have HB1 := Aside0.mk (lA HB.out (Obj.cells #[.int .i64 p.f0, .int .i64 p.f1] 31))
      rw [← hgA] at BA1
      generalize widA H i = m0 at *
      go_wp2
      rw [← hgA]
      have HGA := Aside0.mk (show w.heap.size ≤ gA by have := HB.out.size; omega)
      clear hgA x0 x1 HR HB
      go_loopw [4, 26] (fun v4 v26 wx => ∃ j : Nat, j ≤ i ∧ v26 = .int .i64 j ∧ v4 = .int .i64 (widR H i j m0) ∧ Aside0 (Kd.R k31 31 wx w.heap.size (fun _ => True) (.slice (some ⟨g, 0, none⟩) H.length co) H) ∧ Aside0 (wx.heap[gA]? = some (.cells #[.int .i64 p.f0, .int .i64 p.f1] 31 (0, 0))) ∧ Aside0 (Below w.heap.size w wx)) (fun _ v26 _ => i - (intOf v26).toNat)
      case atStart => exact ⟨0, by omega, rfl, rfl, HR1, BA1, HB1⟩
      case round =>
        clear HR1 BA1 HB1
        obtain ⟨j, hj, rfl, rfl, HR, BA, HB⟩ := hrel
        by_cases hjt : j < i
        · have hjI : ((j : Nat) : Int) < ((i : Nat) : Int) := by omega
          obtain ⟨y0, y1, _⟩ := at31 HR.out j (by omega)
          have HPJ := Aside0.mk (allOk_pt HOK.out j (by omega))
          have HWJ := Aside0.mk (show widR H i (j + 1) m0 = mx (widR H i j m0) (sqd p (pt H j)) by rw [← HP.out]; rfl)
          generalize widR H i j m0 = m1 at *
          generalize pt H j = q at *
          have HSQ := Aside0.mk (square_is HPI.out HPJ.out)
          generalize sqd p q = d at *
          have BA1 := Aside0.mk (kA BA.out (Obj.cells #[.int .i64 q.f0, .int .i64 q.f1] 31))
          have HR1 := Aside0.mk (Kd.R_alloc HR.out (Obj.cells #[.int .i64 q.f0, .int .i64 q.f1] 31))
          have HB1 := Aside0.mk (lA HB.out (Obj.cells #[.int .i64 q.f0, .int .i64 q.f1] 31))
          have a0 : (wr.alloc (Obj.cells #[.int .i64 q.f0, .int .i64 q.f1] 31)).cell? ⟨gA, 0, none⟩ = some (.int .i64 p.f0) := blk_cell BA1.out 0
          have a1 : (wr.alloc (Obj.cells #[.int .i64 q.f0, .int .i64 q.f1] 31)).cell? ⟨gA, 1, none⟩ = some (.int .i64 p.f1) := blk_cell BA1.out 1
          go_wp2_with (first | (go_at_call 72; go_must (refine (plane_square.calls p.f0 p.f1 q.f0 q.f1 _ _ HSQ.out).mono ?_); rintro e w3 ⟨rfl, hb3⟩; have HR3 := Aside0.mk (Kd.R_below HR1.out hb3); have BA3 := Aside0.mk (blk_below BA1.out hb3); have HB3 := Aside0.mk (below_step HB1.out hb3); clear hb3))
          go_roundw
          case rel => exact ⟨j + 1, by omega, by go_num, by rw [HWJ.out]; rfl, HR3, BA3, HB3⟩
          case measure => simp [intOf]; omega
        · obtain rfl : j = i := by omega
          go_wp2
          go_roundw
          case rel => exact ⟨j + 1, by omega, by go_num, by rw [HW.out], HR, HB⟩
          case measure => simp [intOf]; omega
    · obtain rfl : i = H.length := by omega
      go_wp2
      go_ret2
      exact ⟨rfl, HB.out⟩
set_option maxHeartbeats 4000000 in
theorem widest_no (A0 : Option Addr) (c0 : Nat) (l0 : List S31) (w : World) (hr0 : Kd.C k31 w A0 l0.length l0) (hc0 : l0.length ≤ c0) (hs : isSetB l0 = false) :
    Calls Try.prog 42 #[.slice A0 l0.length c0] w fun e w' => e = .returned (.tuple #[.int .i64 0, .int .i64 2]) ∧ Below w.heap.size w w' := by
  have HS := Aside0.mk (fun W (hb : Below w.heap.size w W) => plane_isSet.calls A0 c0 l0 _ W (Kd.C_below hr0 hb) hc0 (isSet_is l0))
  have HB := Aside0.mk (Below.refl w.heap.size w)
  rw [hs] at HS
  clear hr0 hs
  go_enter Try.func42, Try.ntmps42
  go_wp2_with (first | (go_at_call 55; go_must (refine (HS.out _ HB.out).mono ?_); rintro e w1 ⟨rfl, hb1⟩; have HB1 := Aside0.mk (below_step HB.out hb1); clear hb1))
  go_ret2
  exact ⟨rfl, HB1.out⟩
theorem plane_Widest.calls (A0 : Option Addr) (c0 : Nat) (l0 : List S31) (r1 r2 : Int) (w : World) (hr0 : Kd.C k31 w A0 l0.length l0) (hc0 : l0.length ≤ c0) (h : plane_Widest.f l0 = some (r1, r2)) :
    Calls Try.prog 42 #[.slice A0 l0.length c0] w fun e w' => e = .returned (.tuple #[.int .i64 r1, .int .i64 r2]) ∧ Below w.heap.size w w' := by
  unfold plane_Widest.f at h
  by_cases hs : isSetB l0 = true
  · rw [if_pos hs] at h
    simp only [Option.some.injEq, Prod.mk.injEq] at h
    obtain ⟨rfl, rfl⟩ := h
    exact widest_yes A0 c0 l0 w hr0 hc0 hs
  · rw [if_neg hs] at h
    simp only [Option.some.injEq, Prod.mk.injEq] at h
    obtain ⟨rfl, rfl⟩ := h
    exact widest_no A0 c0 l0 w hr0 hc0 (by simpa using hs)
end Go.Proofs.Ythaklbjcjoolcaa.P
namespace Go.Proofs.Ythaklbjcjoolcaa.P
open Go.RowKit Go.Shelf Go.Sort Go.Proofs.YthaklbjcjoolcaaW.PrintWords Go.Proofs.YthaklbjcjoolcaaW.PrintLast Go.Proofs.YthaklbjcjoolcaaW.PrintMore
set_option linter.unusedVariables false
set_option linter.unusedSimpArgs false
attribute [local go_sem] max2_int min2_int max_two min_two
/-- the least square of a distance from one point to the c points ahead of it -/
def mnD (l : List S31) (i : Nat) : Nat → Int → Int
  | 0, m => m
  | c + 1, m => mn (mnD l i c m) (sqd (pt l i) (pt l (i - 1 - c)))
/-- the least square of a distance among the first points -/
def nrA (l : List S31) : Nat → Int → Int
  | 0, m => m
  | i + 1, m => mnD l i i (nrA l i m)
theorem sqd_nn (a b : S31) : 0 ≤ sqd a b := by
  unfold sqd
  have h1 : ∀ x : Int, 0 ≤ x * x := fun x => by
    rcases Int.le_total 0 x with h | h
    · exact nn_mul h h
    · have := nn_mul (a := -x) (b := -x) (by omega) (by omega); grind
  have := h1 (a.f0 - b.f0); have := h1 (a.f1 - b.f1); omega
theorem mn_or (a b : Int) : mn a b = a ∧ a ≤ b ∨ mn a b = b ∧ b ≤ a := by unfold mn; split <;> omega
theorem mnD_le (l : List S31) (i : Nat) (m : Int) : ∀ c, mnD l i c m ≤ m
  | 0 => Int.le_refl _
  | c + 1 => by
    have := mnD_le l i m c
    unfold mnD
    rcases mn_or (mnD l i c m) (sqd (pt l i) (pt l (i - 1 - c))) with h | h <;> omega
theorem mnD_nn (l : List S31) (i : Nat) (m : Int) (hm : 0 ≤ m) : ∀ c, 0 ≤ mnD l i c m
  | 0 => hm
  | c + 1 => by
    have := mnD_nn l i m hm c
    have := sqd_nn (pt l i) (pt l (i - 1 - c))
    unfold mnD
    rcases mn_or (mnD l i c m) (sqd (pt l i) (pt l (i - 1 - c))) with h | h <;> omega
theorem nrA_le (l : List S31) (m : Int) : ∀ i j, i ≤ j → nrA l j m ≤ nrA l i m
  | i, 0, h => by obtain rfl : i = 0 := by omega
                  exact Int.le_refl _
  | i, j + 1, h => by
    rcases Nat.lt_or_ge i (j + 1) with h1 | h1
    · have := nrA_le l m i j (by omega)
      have := mnD_le l j (nrA l j m) j
      show mnD l j j (nrA l j m) ≤ nrA l i m
      omega
    · obtain rfl : i = j + 1 := by omega
      exact Int.le_refl _
theorem nrA_nn (l : List S31) (m : Int) (hm : 0 ≤ m) : ∀ i, 0 ≤ nrA l i m
  | 0 => hm
  | i + 1 => mnD_nn l i _ (nrA_nn l m hm i) i
theorem mnD_anti (l : List S31) (i : Nat) (m : Int) : ∀ d c, mnD l i (c + d) m ≤ mnD l i c m
  | 0, c => Int.le_refl _
  | d + 1, c => by
    have ih := mnD_anti l i m d c
    show mn (mnD l i (c + d) m) (sqd (pt l i) (pt l (i - 1 - (c + d)))) ≤ _
    rcases mn_or (mnD l i (c + d) m) (sqd (pt l i) (pt l (i - 1 - (c + d)))) with h | h <;> omega
theorem near_zero (l : List S31) (m : Int) (hm : 0 ≤ m) (i c : Nat) (hi : i < l.length) (hc : c ≤ i) (h : mnD l i c (nrA l i m) = 0) : nrA l l.length m = 0 := by
  have h1 := mnD_anti l i (nrA l i m) (i - c) c
  rw [show c + (i - c) = i by omega] at h1
  have h2 := nrA_le l m (i + 1) l.length (by omega)
  have h3 : nrA l (i + 1) m = mnD l i i (nrA l i m) := rfl
  have h4 := nrA_nn l m hm l.length
  omega
theorem near_bd (l : List S31) (m : Int) (hm : 0 ≤ m) (hb : m ≤ 134217728) (i c : Nat) : mnD l i c (nrA l i m) ≤ 134217728 ∧ 0 ≤ mnD l i c (nrA l i m) := by
  have h1 := mnD_le l i (nrA l i m) c
  have h2 := nrA_le l m 0 i (by omega)
  have e : nrA l 0 m = m := rfl
  exact ⟨by omega, mnD_nn l i _ (nrA_nn l m hm i) c⟩
/-- the points that are not looked at change nothing -/
theorem mnD_rest (l : List S31) (i : Nat) (m : Int) (c : Nat) (h : ∀ e, c ≤ e → e < i → mnD l i c m ≤ sqd (pt l i) (pt l (i - 1 - e))) : ∀ d, c + d ≤ i → mnD l i (c + d) m = mnD l i c m
  | 0, _ => rfl
  | d + 1, hd => by
    have ih := mnD_rest l i m c h d (by omega)
    have := h (c + d) (by omega) (by omega)
    show mn (mnD l i (c + d) m) (sqd (pt l i) (pt l (i - 1 - (c + d)))) = _
    rw [ih]
    rcases mn_or (mnD l i c m) (sqd (pt l i) (pt l (i - 1 - (c + d)))) with h | h <;> omega
theorem mnD_skip (l : List S31) (i c : Nat) (m : Int) (hs : ∀ a b, a ≤ b → b < l.length → (pt l a).f0 ≤ (pt l b).f0) (hi : i < l.length) (hc : c < i) (h : mnD l i c m ≤ ((pt l i).f0 - (pt l (i - 1 - c)).f0) * ((pt l i).f0 - (pt l (i - 1 - c)).f0)) : mnD l i i m = mnD l i c m := by
  have key := mnD_rest l i m c (fun e h1 h2 => by
    have a1 := hs (i - 1 - e) (i - 1 - c) (by omega) (by omega)
    have a2 := hs (i - 1 - c) i (by omega) hi
    have a3 := sq_mono (s := (pt l i).f0 - (pt l (i - 1 - c)).f0) (t := (pt l i).f0 - (pt l (i - 1 - e)).f0) (Or.inl ⟨by omega, by omega⟩)
    have a4 : 0 ≤ ((pt l i).f1 - (pt l (i - 1 - e)).f1) * ((pt l i).f1 - (pt l (i - 1 - e)).f1) := by
      rcases Int.le_total 0 ((pt l i).f1 - (pt l (i - 1 - e)).f1) with h | h
      · exact nn_mul h h
      · have := nn_mul (a := -((pt l i).f1 - (pt l (i - 1 - e)).f1)) (b := -((pt l i).f1 - (pt l (i - 1 - e)).f1)) (by omega) (by omega); grind
    unfold sqd; omega) (i - c) (by omega)
  rwa [show c + (i - c) = i by omega] at key
theorem sortP_le (l : List S31) (a b : Nat) (h : a ≤ b) (hb : b < (sortP l).length) : (pt (sortP l) a).f0 ≤ (pt (sortP l) b).f0 := by
  rcases Nat.lt_or_ge a b with h1 | h1
  · have := sortP_asc l a b h1 hb
    unfold ltP at this; rw [decide_eq_true_eq] at this; omega
  · obtain rfl : a = b := by omega
    exact Int.le_refl _
theorem sqd_bd {a b : S31} (ha : okPt a = true) (hb : okPt b = true) : sqd a b ≤ 134217728 := by
  rw [okPt_iff] at ha hb
  have h1 := mul_bd (a := a.f0 - b.f0) (b := a.f0 - b.f0) (m := 8192) (n := 8192) (by omega) (by omega)
  have h2 := mul_bd (a := a.f1 - b.f1) (b := a.f1 - b.f1) (m := 8192) (n := 8192) (by omega) (by omega)
  unfold sqd; omega
def nearV (l : List S31) : Int := nrA (sortP l) (sortP l).length (sqd (pt (sortP l) 0) (pt (sortP l) 1))
def plane_Nearest.f (l0 : List S31) : Option (Int × Int) := if isSetB l0 = true ∧ l0.length ≠ 1 then some (nearV l0, 0) else some (0, 2)
def nearR.T14 : Bool × List (List Nat × List Nat) := (true, [([], []), ([], []), ([], []), ([], []), ([2, 3], [2, 3]), ([4], [4]), ([1, 5], [1, 5]), ([0, 6], [0, 6]), ([7, 6, 0, 1, 2, 3, 4, 5, 6, 7], [0, 7])])
def nearR.B14 : List Nat := [0, 0, 0, 0, 12, 28, 62, 127, 255]
theorem nearR.tab14 : rtab .any (opsOf Try.f45 14) = nearR.T14 := by kernel_rfl
theorem nearR.bits14 : waitsOk nearR.T14.2 nearR.B14 = true := by kernel_rfl
set_option maxHeartbeats 4000000 in
set_option maxRecDepth 100000 in
theorem nearest_yes (A0 : Option Addr) (c0 : Nat) (l0 : List S31) (w : World) (hr0 : Kd.C k31 w A0 l0.length l0) (hc0 : l0.length ≤ c0) (hs : isSetB l0 = true) (hl2 : 2 ≤ l0.length) :
    Calls Try.prog 45 #[.slice A0 l0.length c0] w fun e w' => e = .returned (.tuple #[.int .i64 (nearV l0), .int .i64 0]) ∧ Below w.heap.size w w' := by
  obtain ⟨⟨h1, h2⟩, h3⟩ := (isSetB_iff l0).1 hs
  have HS := Aside0.mk (fun W (hb : Below w.heap.size w W) => plane_isSet.calls A0 c0 l0 _ W (Kd.C_below hr0 hb) hc0 (isSet_is l0))
  have HC := Aside0.mk (fun W (hb : Below w.heap.size w W) => clone_calls A0 c0 l0 W (Kd.C_below hr0 hb) h1 (by omega))
  have HB := Aside0.mk (Below.refl w.heap.size w)
  have HSL := Aside0.mk (sortP_len l0)
  have HAS := Aside0.mk (sortP_le l0)
  have HOK := Aside0.mk (show allOk (sortP l0) = true from List.all_eq_true.2 (fun p hp => List.all_eq_true.1 h3 p ((sortP_mem l0 p).1 hp)))
  have h1B : (((l0.length : Nat) : Int) == 1) = false := by rw [beq_eq_false_iff_ne]; omega
  obtain ⟨r, hrv⟩ : ∃ r, r = nearV l0 := ⟨_, rfl⟩
  have HV := Aside0.mk hrv
  unfold nearV at HV
  rw [← hrv]
  rw [hs] at HS
  clear hr0 h3 hs hrv
  go_enter Try.func45, Try.ntmps45
  go_wp2
  go_step3
  go_wp2_with (first | (go_at_call 55; go_must (refine (HS.out _ HB.out).mono ?_); rintro e w1 ⟨rfl, hb1⟩; have HB1 := Aside0.mk (below_step HB.out hb1); clear hb1) | (go_at_call 73; go_must (refine (HC.out _ HB1.out).mono ?_); rintro e w2 ⟨v4, rfl, hr2, hb2⟩; have HR2 := Aside0.mk (Kd.R_lower hr2 HB1.out.size); have HB2 := Aside0.mk (below_step HB1.out hb2); clear hr2 hb2) | (go_at_call 74; go_must (refine (sort_calls w2 w.heap.size _ v4 l0 HR2.out (by omega)).mono ?_); rintro e w3 ⟨rfl, hr3, hg3⟩; have HR3 := Aside0.mk hr3; have HB3 := Aside0.mk (HB2.out.grown hg3 HB2.out.size (fun k e => Kd.R_base HR2.out k e)); clear hr3 hg3))
  have hln : (sortP l0).length = l0.length := HSL.out
  generalize hL : sortP l0 = L at *
  clear hL HR2 HB HB1 HB2 HS HC
  rw [← hln] at h1B
  obtain ⟨g, c4, rfl, _⟩ := Kd.R_form HR3.out (by omega)
  have z0 := at31 HR3.out 0 (by omega)
  have z1 := at31 HR3.out 1 (by omega)
  obtain ⟨z00, z01, _⟩ := z0
  obtain ⟨z10, z11, _⟩ := z1
  simp only [Nat.zero_mul, Nat.zero_add, Nat.one_mul, Nat.reduceAdd] at z00 z01 z10 z11
  have HQ := Aside0.mk (square_is (allOk_pt HOK.out 0 (by omega)) (allOk_pt HOK.out 1 (by omega)))
  have HM := Aside0.mk (sqd_nn (pt L 0) (pt L 1))
  have HMB := Aside0.mk (sqd_bd (allOk_pt HOK.out 0 (by omega)) (allOk_pt HOK.out 1 (by omega)))
  have i0 : (0 : Int) < ((l0.length : Nat) : Int) := by omega
  have i1 : (1 : Int) < ((l0.length : Nat) : Int) := by omega
  have n0 : 0 < l0.length := by omega
  have n1 : 1 < l0.length := by omega
  generalize sqd (pt L 0) (pt L 1) = m0 at *
  generalize pt L 0 = p0 at *
  generalize pt L 1 = p1 at *
  go_still_tail 6, (by kernel_rfl)
  change wpList _ _ _ _ _ w3.drew
  have HR4 := Aside0.mk (Kd.R_drew HR3.out)
  have HB4 := Aside0.mk (lD HB3.out)
  clear HR3 HB3
  generalize w3.drew = w4 at *
  go_wp2_with (first | (go_at_call 72; go_must (refine (plane_square.calls p0.f0 p0.f1 p1.f0 p1.f1 _ _ HQ.out).mono ?_); rintro e w5 ⟨rfl, hb5⟩; have HR5 := Aside0.mk (Kd.R_below HR4.out hb5); have HB5 := Aside0.mk (below_step HB4.out hb5); clear hb5))
  go_step3
  go_wp2
  clear z00 z01 z10 z11 HB4 HR4 HQ i0 i1 n0 n1
  have HM := Aside0.mk HM.out
  go_loopg [5, 31] L.length (fun kq v5 v31 wr => ∃ i : Nat, i + kq = L.length ∧ v31 = .int .i64 i ∧ v5 = .int .i64 (nrA L i m0) ∧ Aside0 (Kd.R k31 31 wr w.heap.size (fun _ => True) (.slice (some ⟨g, 0, none⟩) L.length c4) L) ∧ Aside0 (Below w.heap.size w wr))
  case atStart => exact ⟨0, by omega, rfl, rfl, HR5, HB5⟩
  case round =>
    clear HR5 HB5
    obtain ⟨i, hik, rfl, rfl, HR, HB⟩ := hrel
    by_cases hlt : i < L.length
    · obtain ⟨x0, x1, _⟩ := at31 HR.out i hlt
      have hltI : ((i : Nat) : Int) < ((l0.length : Nat) : Int) := by omega
      have hltN : i < l0.length := by omega
      have HPA := Aside0.mk (allOk_pt HOK.out i hlt)
      have HNS := Aside0.mk (show nrA L (i + 1) m0 = mnD L i i (nrA L i m0) from rfl)
      have HZ := Aside0.mk (near_zero L m0 HM.out i)
      have HSK := Aside0.mk (fun c => mnD_skip L i c (nrA L i m0) HAS.out hlt)
      have HBD := Aside0.mk (near_bd L m0 HM.out HMB.out i)
      have hs1 : IntKind.i64.wrap (((i : Nat) : Int) - 1) = ((i : Nat) : Int) - 1 := IntWalk.i64_in _ (by omega)
      generalize hp : pt L i = p at *
      have HP := Aside0.mk hp
      clear hp
      obtain ⟨gA, hgA⟩ : ∃ g, g = wr.heap.size := ⟨_, rfl⟩
      have BA1 := Aside0.mk (heap_alloc_new wr (Obj.cells #[.int .i64 p.f0, .int .i64 p.f1] 31))
      have HR1 := Aside0.mk (Kd.R_alloc HR.out (Obj.cells #[.int .i64 p.f0, .int .i64 p.f1] 31))
      have HB1 := Aside0.mk (lA HB.out (Obj.cells #[.int .i64 p.f0, .int .i64 p.f1] 31))
      rw [← hgA] at BA1
      obtain ⟨go, hgo⟩ : ∃ x, x = gk := ⟨_, rfl⟩
      obtain ⟨n0, hn0⟩ : ∃ n, n = nrA L i m0 := ⟨_, rfl⟩
      rw [← hn0] at HNS HZ HSK HBD
      go_wp2
      rw [← hgA, ← hn0]
      have HN0 := Aside0.mk hn0
      clear hgA hn0 x0 x1 HR HB
      go_loopg [5, 8] i (fun kq v5 v8 wx => ∃ c : Nat, c + kq = i ∧ v8 = .int .i64 (((i : Nat) : Int) - 1 - ((c : Nat) : Int)) ∧ v5 = .int .i64 (mnD L i c n0) ∧ Aside0 (Kd.R k31 31 wx w.heap.size (fun _ => True) (.slice (some ⟨g, 0, none⟩) L.length c4) L) ∧ Aside0 (wx.heap[gA]? = some (.cells #[.int .i64 p.f0, .int .i64 p.f1] 31 (0, 0))) ∧ Aside0 (Below w.heap.size w wx))
      case atStart => exact ⟨0, by omega, by simp, rfl, HR1, BA1, HB1⟩
      case round =>
        clear HR1 BA1 HB1
        obtain ⟨c, hck, rfl, rfl, HR, BA, HB⟩ := hrel
        by_cases hc : c < i
        · obtain ⟨k, hk⟩ : ∃ k : Nat, ((i : Nat) : Int) - 1 - ((c : Nat) : Int) = ((k : Nat) : Int) := ⟨i - 1 - c, by omega⟩
          have hkn : i - 1 - c = k := by omega
          rw [hk]
          have hkI : ((k : Nat) : Int) < ((l0.length : Nat) : Int) := by omega
          have hkN : k < l0.length := by omega
          have hk0 : (0 : Int) ≤ ((k : Nat) : Int) := by omega
          have hs2 : IntKind.i64.wrap (((k : Nat) : Int) - 1) = ((k : Nat) : Int) - 1 := IntWalk.i64_in _ (by omega)
          obtain ⟨y0, y1, _⟩ := at31 HR.out k (by omega)
          have a0 : wr.cell? ⟨gA, 0, none⟩ = some (.int .i64 p.f0) := blk_cell BA.out 0
          have a1 : wr.cell? ⟨gA, 1, none⟩ = some (.int .i64 p.f1) := blk_cell BA.out 1
          have HPB := Aside0.mk (allOk_pt HOK.out k (by omega))
          have HST := Aside0.mk (show mnD L i (c + 1) n0 = mn (mnD L i c n0) (sqd p (pt L k)) by rw [← HP.out, ← hkn]; rfl)
          have HSK1 := Aside0.mk (HSK.out c hc)
          rw [hkn] at HSK1
          have HB1 := Aside0.mk (HBD.out c)
          have HB2 := Aside0.mk (HBD.out (c + 1))
          have HZ1 := Aside0.mk (HZ.out (c + 1) hlt (by omega))
          generalize hq : pt L k = q at *
          have HQQ := Aside0.mk hq
          clear hq
          have HDX : Aside0 (wrap64 (wrap64 (p.f0 - q.f0) * wrap64 (p.f0 - q.f0)) = (p.f0 - q.f0) * (p.f0 - q.f0)) := ⟨by
            have h1 := (okPt_iff p).1 HPA.out
            have h2 := (okPt_iff q).1 HPB.out
            have h3 := mul_bd (a := p.f0 - q.f0) (b := p.f0 - q.f0) (m := 8192) (n := 8192) (by omega) (by omega)
            rw [w64i (x := p.f0 - q.f0) (by omega) (by omega), w64i (by omega) (by omega)]⟩
          have HQ := Aside0.mk (square_is HPA.out HPB.out)
          rw [← HDX.out] at HSK1
          generalize sqd p q = sq at *
          generalize hm1 : mnD L i c n0 = m1 at *
          clear hm1 HDX
          by_cases hge : m1 ≤ wrap64 (wrap64 (p.f0 - q.f0) * wrap64 (p.f0 - q.f0))
          · have hgB : decide (m1 ≤ wrap64 (wrap64 (p.f0 - q.f0) * wrap64 (p.f0 - q.f0))) = true := decide_eq_true hge
            have HF := Aside0.mk (HSK1.out hge)
            clear hge HSK1
            go_wp2
            go_quiet (fail)
            go_wp2
            go_roundg (go - 1)
            case measure => omega
            case rel => exact ⟨i + 1, by omega, by go_num, by rw [HNS.out, HF.out], ⟨Kd.R_drewN HR.out nq⟩, ⟨lN HB.out nq⟩⟩
          · have hgB : decide (m1 ≤ wrap64 (wrap64 (p.f0 - q.f0) * wrap64 (p.f0 - q.f0))) = false := decide_eq_false hge
            clear hge HSK1
            go_wp2
            go_quiet (fail)
            have HR2 := Aside0.mk (Kd.R_drewN HR.out nq)
            have BA2 := Aside0.mk (kN BA.out nq)
            have HB2' := Aside0.mk (lN HB.out nq)
            clear HR BA HB a0 a1 y0 y1
            go_wp2
            generalize wr.drewN nq = w2 at *
            have a0 : w2.cell? ⟨gA, 0, none⟩ = some (.int .i64 p.f0) := blk_cell BA2.out 0
            have a1 : w2.cell? ⟨gA, 1, none⟩ = some (.int .i64 p.f1) := blk_cell BA2.out 1
            obtain ⟨y0, y1, _⟩ := at31 HR2.out k (by omega)
            rw [HQQ.out] at y0 y1
            have HRk := HR2
            by_cases hlt2 : sq < m1
            · have HVL := Aside0.mk (show mnD L i (c + 1) n0 = sq by rw [HST.out]; unfold mn; rw [if_pos hlt2])
              by_cases hz : sq = 0
              · have hzB : (sq == (0 : Int)) = true := by rw [beq_iff_eq]; exact hz
                have HR0 := Aside0.mk (show r = sq by rw [HV.out, HZ1.out (by rw [HVL.out]; exact hz)]; exact hz.symm)
                clear hz
                refine start_ (n := 9) (S := fun w' => w'.cell? ⟨gA, 0, none⟩ = some (.int .i64 p.f0) ∧ w'.cell? ⟨gA, 1, none⟩ = some (.int .i64 p.f1) ∧ w'.cell? ⟨g, k * 2, none⟩ = some (.int .i64 q.f0) ∧ w'.cell? ⟨g, k * 2 + 1, none⟩ = some (.int .i64 q.f1)) (ds := []) #[false, false, false, false, false, false, false, false, false] (by kernel_rfl) rfl rfl ⟨a0, a1, y0, y1⟩ (fun hHeld => ?_)
                refine with_tabW nearR.tab14 nearR.bits14 (fun HT_ HW_ => ?_)
                refine pure_ (i := 0) (N := some 55) (v := ?_) (a' := ?_) #[true, false, false, false, false, false, false, false, false] rfl rfl (any_of HT_.out (by kernel_rfl)) (fun _ _ _ h => h) (Or.inl ⟨by rfl, ?_⟩) ?_ ?_
                rotate_left
                · intro w'
                  go_simp
                  with_reducible rfl
                rotate_left
                · simp only [Act.put, List.setIfInBounds_toArray, List.set_cons_zero, List.set_cons_succ, i64_w, i32_w]
                  rfl
                refine pure_ (i := 2) (N := some 57) (v := ?_) (a' := ?_) #[true, false, true, false, false, false, false, false, false] rfl rfl (any_of HT_.out (by kernel_rfl)) (fun _ _ _ h => h) (Or.inl ⟨by rfl, ?_⟩) ?_ ?_
                rotate_left
                · intro w'
                  go_simp
                  with_reducible rfl
                rotate_left
                · simp only [Act.put, List.setIfInBounds_toArray, List.set_cons_zero, List.set_cons_succ, i64_w, i32_w]
                  rfl
                refine pure_ (i := 3) (N := some 58) (v := ?_) (a' := ?_) #[true, false, true, true, false, false, false, false, false] rfl rfl (any_of HT_.out (by kernel_rfl)) (fun _ _ _ h => h) (Or.inl ⟨by rfl, ?_⟩) ?_ ?_
                rotate_left
                · intro w'
                  go_simp
                  with_reducible rfl
                rotate_left
                · simp only [Act.put, List.setIfInBounds_toArray, List.set_cons_zero, List.set_cons_succ, i64_w, i32_w]
                  rfl
                refine pure_ (i := 4) (N := some 59) (v := ?_) (a' := ?_) #[true, false, true, true, true, false, false, false, false] rfl rfl (any_of HT_.out (by kernel_rfl)) (fun _ _ _ h => h) (Or.inl ⟨by rfl, ?_⟩) ?_ ?_
                rotate_left
                · intro w'
                  go_simp
                  with_reducible rfl
                rotate_left
                · simp only [Act.put, List.setIfInBounds_toArray, List.set_cons_zero, List.set_cons_succ, i64_w, i32_w]
                  rfl
                refine take_ (i := 1) (N := some 56) (v := ?_) (a' := ?_) #[true, true, true, true, true, false, false, false, false] rfl rfl (take_ofW HT_.out HW_.out (by kernel_rfl)) (fun _ _ _ h => h) (Or.inl ⟨by rfl, ?_⟩) hHeld ?_ ?_
                rotate_left
                · rintro w' ⟨s0, s1, s2, s3⟩
                  go_simp
                  with_reducible rfl
                rotate_left
                · simp only [Act.put, List.setIfInBounds_toArray, List.set_cons_zero, List.set_cons_succ, i64_w, i32_w]
                  rfl
                refine take_ (i := 5) (N := some 60) (v := ?_) (a' := ?_) #[true, true, true, true, true, true, false, false, false] rfl rfl (take_ofW HT_.out HW_.out (by kernel_rfl)) (fun _ _ _ h => h) (Or.inl ⟨by rfl, ?_⟩) hHeld ?_ ?_
                rotate_left
                · rintro w' ⟨s0, s1, s2, s3⟩
                  go_simp
                  with_reducible rfl
                rotate_left
                · simp only [Act.put, List.setIfInBounds_toArray, List.set_cons_zero, List.set_cons_succ, i64_w, i32_w]
                  rfl
                refine one_ (i := 6) (N := some 61) #[true, true, true, true, true, true, true, false, false] rfl rfl (one_of HT_.out (by kernel_rfl)) (by decide) (fun K hK => ?_)
                refine goes_ Try.func72 (by kernel_rfl) rfl #[.agg #[.int .i64 p.f0, .int .i64 p.f1], .agg #[.int .i64 q.f0, .int .i64 q.f1]] (by rfl) rfl rfl (by simp only [List.map_toArray, List.map_cons, List.map_nil]; rfl) ?_
                with_reducible refine (plane_square.calls _ _ _ _ _ _ HQ.out).mono ?_
                rintro e w4 ⟨rfl, hb4⟩
                refine ⟨_, rfl, ?_⟩
                have HR4 := Aside0.mk (Kd.R_below (Kd.R_drew HR2.out) hb4)
                have BA4 := Aside0.mk (blk_below (kD BA2.out) hb4)
                have HB4 := Aside0.mk (below_step (lD HB2'.out) hb4)
                refine hK.out _ _ ⟨(hb4.cell (World.block_lt_of_cell? _ _ a0)).trans a0, (hb4.cell (World.block_lt_of_cell? _ _ a1)).trans a1, (hb4.cell (World.block_lt_of_cell? _ _ y0)).trans y0, (hb4.cell (World.block_lt_of_cell? _ _ y1)).trans y1⟩ (fun hHeld => ?_)
                clear hK K
                refine norm_ (a' := ?_) ?_ ?_
                rotate_left
                · show Act.put _ (some 61) _ = _
                  simp only [Act.put, List.setIfInBounds_toArray, List.set_cons_zero, List.set_cons_succ, i64_w, i32_w]
                  rfl
                refine pure_ (i := 7) (N := some 62) (v := ?_) (a' := ?_) #[true, true, true, true, true, true, true, true, false] rfl rfl (any_of HT_.out (by kernel_rfl)) (fun _ _ _ h => h) (Or.inl ⟨by rfl, ?_⟩) ?_ ?_
                rotate_left
                · intro w'
                  go_simp
                  with_reducible rfl
                rotate_left
                · simp only [Act.put, List.setIfInBounds_toArray, List.set_cons_zero, List.set_cons_succ, i64_w, i32_w]
                  rfl
                refine pure_ (i := 8) (N := some 5) (v := ?_) (a' := ?_) #[true, true, true, true, true, true, true, true, true] rfl rfl (any_of HT_.out (by kernel_rfl)) (fun _ _ _ h => h) (Or.inl ⟨by rfl, ?_⟩) ?_ ?_
                rotate_left
                · intro w'
                  go_simp
                  with_reducible rfl
                rotate_left
                · simp only [Act.put, List.setIfInBounds_toArray, List.set_cons_zero, List.set_cons_succ, i64_w, i32_w]
                  rfl
                refine done_ (done_of HT_.out (by kernel_rfl)) ?_
                go_wp2
                try rw [Exit.noGoto_ret]
                go_ret2
                exact ⟨by rw [HR0.out]; rfl, HB4.out⟩
              · have hzB : (sq == (0 : Int)) = false := by rw [beq_eq_false_iff_ne]; exact hz
                clear hz
                refine start_ (n := 9) (S := fun w' => w'.cell? ⟨gA, 0, none⟩ = some (.int .i64 p.f0) ∧ w'.cell? ⟨gA, 1, none⟩ = some (.int .i64 p.f1) ∧ w'.cell? ⟨g, k * 2, none⟩ = some (.int .i64 q.f0) ∧ w'.cell? ⟨g, k * 2 + 1, none⟩ = some (.int .i64 q.f1)) (ds := []) #[false, false, false, false, false, false, false, false, false] (by kernel_rfl) rfl rfl ⟨a0, a1, y0, y1⟩ (fun hHeld => ?_)
                refine with_tabW nearR.tab14 nearR.bits14 (fun HT_ HW_ => ?_)
                refine pure_ (i := 0) (N := some 55) (v := ?_) (a' := ?_) #[true, false, false, false, false, false, false, false, false] rfl rfl (any_of HT_.out (by kernel_rfl)) (fun _ _ _ h => h) (Or.inl ⟨by rfl, ?_⟩) ?_ ?_
                rotate_left
                · intro w'
                  go_simp
                  with_reducible rfl
                rotate_left
                · simp only [Act.put, List.setIfInBounds_toArray, List.set_cons_zero, List.set_cons_succ, i64_w, i32_w]
                  rfl
                refine pure_ (i := 2) (N := some 57) (v := ?_) (a' := ?_) #[true, false, true, false, false, false, false, false, false] rfl rfl (any_of HT_.out (by kernel_rfl)) (fun _ _ _ h => h) (Or.inl ⟨by rfl, ?_⟩) ?_ ?_
                rotate_left
                · intro w'
                  go_simp
                  with_reducible rfl
                rotate_left
                · simp only [Act.put, List.setIfInBounds_toArray, List.set_cons_zero, List.set_cons_succ, i64_w, i32_w]
                  rfl
                refine pure_ (i := 3) (N := some 58) (v := ?_) (a' := ?_) #[true, false, true, true, false, false, false, false, false] rfl rfl (any_of HT_.out (by kernel_rfl)) (fun _ _ _ h => h) (Or.inl ⟨by rfl, ?_⟩) ?_ ?_
                rotate_left
                · intro w'
                  go_simp
                  with_reducible rfl
                rotate_left
                · simp only [Act.put, List.setIfInBounds_toArray, List.set_cons_zero, List.set_cons_succ, i64_w, i32_w]
                  rfl
                refine pure_ (i := 4) (N := some 59) (v := ?_) (a' := ?_) #[true, false, true, true, true, false, false, false, false] rfl rfl (any_of HT_.out (by kernel_rfl)) (fun _ _ _ h => h) (Or.inl ⟨by rfl, ?_⟩) ?_ ?_
                rotate_left
                · intro w'
                  go_simp
                  with_reducible rfl
                rotate_left
                · simp only [Act.put, List.setIfInBounds_toArray, List.set_cons_zero, List.set_cons_succ, i64_w, i32_w]
                  rfl
                refine take_ (i := 1) (N := some 56) (v := ?_) (a' := ?_) #[true, true, true, true, true, false, false, false, false] rfl rfl (take_ofW HT_.out HW_.out (by kernel_rfl)) (fun _ _ _ h => h) (Or.inl ⟨by rfl, ?_⟩) hHeld ?_ ?_
                rotate_left
                · rintro w' ⟨s0, s1, s2, s3⟩
                  go_simp
                  with_reducible rfl
                rotate_left
                · simp only [Act.put, List.setIfInBounds_toArray, List.set_cons_zero, List.set_cons_succ, i64_w, i32_w]
                  rfl
                refine take_ (i := 5) (N := some 60) (v := ?_) (a' := ?_) #[true, true, true, true, true, true, false, false, false] rfl rfl (take_ofW HT_.out HW_.out (by kernel_rfl)) (fun _ _ _ h => h) (Or.inl ⟨by rfl, ?_⟩) hHeld ?_ ?_
                rotate_left
                · rintro w' ⟨s0, s1, s2, s3⟩
                  go_simp
                  with_reducible rfl
                rotate_left
                · simp only [Act.put, List.setIfInBounds_toArray, List.set_cons_zero, List.set_cons_succ, i64_w, i32_w]
                  rfl
                refine one_ (i := 6) (N := some 61) #[true, true, true, true, true, true, true, false, false] rfl rfl (one_of HT_.out (by kernel_rfl)) (by decide) (fun K hK => ?_)
                refine goes_ Try.func72 (by kernel_rfl) rfl #[.agg #[.int .i64 p.f0, .int .i64 p.f1], .agg #[.int .i64 q.f0, .int .i64 q.f1]] (by rfl) rfl rfl (by simp only [List.map_toArray, List.map_cons, List.map_nil]; rfl) ?_
                with_reducible refine (plane_square.calls _ _ _ _ _ _ HQ.out).mono ?_
                rintro e w4 ⟨rfl, hb4⟩
                refine ⟨_, rfl, ?_⟩
                have HR4 := Aside0.mk (Kd.R_below (Kd.R_drew HR2.out) hb4)
                have BA4 := Aside0.mk (blk_below (kD BA2.out) hb4)
                have HB4 := Aside0.mk (below_step (lD HB2'.out) hb4)
                refine hK.out _ _ ⟨(hb4.cell (World.block_lt_of_cell? _ _ a0)).trans a0, (hb4.cell (World.block_lt_of_cell? _ _ a1)).trans a1, (hb4.cell (World.block_lt_of_cell? _ _ y0)).trans y0, (hb4.cell (World.block_lt_of_cell? _ _ y1)).trans y1⟩ (fun hHeld => ?_)
                clear hK K
                refine norm_ (a' := ?_) ?_ ?_
                rotate_left
                · show Act.put _ (some 61) _ = _
                  simp only [Act.put, List.setIfInBounds_toArray, List.set_cons_zero, List.set_cons_succ, i64_w, i32_w]
                  rfl
                refine pure_ (i := 7) (N := some 62) (v := ?_) (a' := ?_) #[true, true, true, true, true, true, true, true, false] rfl rfl (any_of HT_.out (by kernel_rfl)) (fun _ _ _ h => h) (Or.inl ⟨by rfl, ?_⟩) ?_ ?_
                rotate_left
                · intro w'
                  go_simp
                  with_reducible rfl
                rotate_left
                · simp only [Act.put, List.setIfInBounds_toArray, List.set_cons_zero, List.set_cons_succ, i64_w, i32_w]
                  rfl
                refine pure_ (i := 8) (N := some 5) (v := ?_) (a' := ?_) #[true, true, true, true, true, true, true, true, true] rfl rfl (any_of HT_.out (by kernel_rfl)) (fun _ _ _ h => h) (Or.inl ⟨by rfl, ?_⟩) ?_ ?_
                rotate_left
                · intro w'
                  go_simp
                  with_reducible rfl
                rotate_left
                · simp only [Act.put, List.setIfInBounds_toArray, List.set_cons_zero, List.set_cons_succ, i64_w, i32_w]
                  rfl
                refine done_ (done_of HT_.out (by kernel_rfl)) ?_
                go_wp2
                go_roundg (gk - 1)
                case measure => omega
                case rel => exact ⟨c + 1, by omega, by rw [← hk]; congr 1; omega, by rw [HVL.out], HR4, BA4, HB4⟩
            · have HVL := Aside0.mk (show mnD L i (c + 1) n0 = m1 by rw [HST.out]; unfold mn; rw [if_neg hlt2])
              have hle2 : m1 ≤ sq := by omega
              by_cases hz : m1 = 0
              · have hzB : (m1 == (0 : Int)) = true := by rw [beq_iff_eq]; exact hz
                have HR0 := Aside0.mk (show r = m1 by rw [HV.out, HZ1.out (by rw [HVL.out]; exact hz)]; exact hz.symm)
                clear hz
                refine start_ (n := 9) (S := fun w' => w'.cell? ⟨gA, 0, none⟩ = some (.int .i64 p.f0) ∧ w'.cell? ⟨gA, 1, none⟩ = some (.int .i64 p.f1) ∧ w'.cell? ⟨g, k * 2, none⟩ = some (.int .i64 q.f0) ∧ w'.cell? ⟨g, k * 2 + 1, none⟩ = some (.int .i64 q.f1)) (ds := []) #[false, false, false, false, false, false, false, false, false] (by kernel_rfl) rfl rfl ⟨a0, a1, y0, y1⟩ (fun hHeld => ?_)
                refine with_tabW nearR.tab14 nearR.bits14 (fun HT_ HW_ => ?_)
                refine pure_ (i := 0) (N := some 55) (v := ?_) (a' := ?_) #[true, false, false, false, false, false, false, false, false] rfl rfl (any_of HT_.out (by kernel_rfl)) (fun _ _ _ h => h) (Or.inl ⟨by rfl, ?_⟩) ?_ ?_
                rotate_left
                · intro w'
                  go_simp
                  with_reducible rfl
                rotate_left
                · simp only [Act.put, List.setIfInBounds_toArray, List.set_cons_zero, List.set_cons_succ, i64_w, i32_w]
                  rfl
                refine pure_ (i := 2) (N := some 57) (v := ?_) (a' := ?_) #[true, false, true, false, false, false, false, false, false] rfl rfl (any_of HT_.out (by kernel_rfl)) (fun _ _ _ h => h) (Or.inl ⟨by rfl, ?_⟩) ?_ ?_
                rotate_left
                · intro w'
                  go_simp
                  with_reducible rfl
                rotate_left
                · simp only [Act.put, List.setIfInBounds_toArray, List.set_cons_zero, List.set_cons_succ, i64_w, i32_w]
                  rfl
                refine pure_ (i := 3) (N := some 58) (v := ?_) (a' := ?_) #[true, false, true, true, false, false, false, false, false] rfl rfl (any_of HT_.out (by kernel_rfl)) (fun _ _ _ h => h) (Or.inl ⟨by rfl, ?_⟩) ?_ ?_
                rotate_left
                · intro w'
                  go_simp
                  with_reducible rfl
                rotate_left
                · simp only [Act.put, List.setIfInBounds_toArray, List.set_cons_zero, List.set_cons_succ, i64_w, i32_w]
                  rfl
                refine pure_ (i := 4) (N := some 59) (v := ?_) (a' := ?_) #[true, false, true, true, true, false, false, false, false] rfl rfl (any_of HT_.out (by kernel_rfl)) (fun _ _ _ h => h) (Or.inl ⟨by rfl, ?_⟩) ?_ ?_
                rotate_left
                · intro w'
                  go_simp
                  with_reducible rfl
                rotate_left
                · simp only [Act.put, List.setIfInBounds_toArray, List.set_cons_zero, List.set_cons_succ, i64_w, i32_w]
                  rfl
                refine take_ (i := 1) (N := some 56) (v := ?_) (a' := ?_) #[true, true, true, true, true, false, false, false, false] rfl rfl (take_ofW HT_.out HW_.out (by kernel_rfl)) (fun _ _ _ h => h) (Or.inl ⟨by rfl, ?_⟩) hHeld ?_ ?_
                rotate_left
                · rintro w' ⟨s0, s1, s2, s3⟩
                  go_simp
                  with_reducible rfl
                rotate_left
                · simp only [Act.put, List.setIfInBounds_toArray, List.set_cons_zero, List.set_cons_succ, i64_w, i32_w]
                  rfl
                refine take_ (i := 5) (N := some 60) (v := ?_) (a' := ?_) #[true, true, true, true, true, true, false, false, false] rfl rfl (take_ofW HT_.out HW_.out (by kernel_rfl)) (fun _ _ _ h => h) (Or.inl ⟨by rfl, ?_⟩) hHeld ?_ ?_
                rotate_left
                · rintro w' ⟨s0, s1, s2, s3⟩
                  go_simp
                  with_reducible rfl
                rotate_left
                · simp only [Act.put, List.setIfInBounds_toArray, List.set_cons_zero, List.set_cons_succ, i64_w, i32_w]
                  rfl
                refine one_ (i := 6) (N := some 61) #[true, true, true, true, true, true, true, false, false] rfl rfl (one_of HT_.out (by kernel_rfl)) (by decide) (fun K hK => ?_)
                refine goes_ Try.func72 (by kernel_rfl) rfl #[.agg #[.int .i64 p.f0, .int .i64 p.f1], .agg #[.int .i64 q.f0, .int .i64 q.f1]] (by rfl) rfl rfl (by simp only [List.map_toArray, List.map_cons, List.map_nil]; rfl) ?_
                with_reducible refine (plane_square.calls _ _ _ _ _ _ HQ.out).mono ?_
                rintro e w4 ⟨rfl, hb4⟩
                refine ⟨_, rfl, ?_⟩
                have HR4 := Aside0.mk (Kd.R_below (Kd.R_drew HR2.out) hb4)
                have BA4 := Aside0.mk (blk_below (kD BA2.out) hb4)
                have HB4 := Aside0.mk (below_step (lD HB2'.out) hb4)
                refine hK.out _ _ ⟨(hb4.cell (World.block_lt_of_cell? _ _ a0)).trans a0, (hb4.cell (World.block_lt_of_cell? _ _ a1)).trans a1, (hb4.cell (World.block_lt_of_cell? _ _ y0)).trans y0, (hb4.cell (World.block_lt_of_cell? _ _ y1)).trans y1⟩ (fun hHeld => ?_)
                clear hK K
                refine norm_ (a' := ?_) ?_ ?_
                rotate_left
                · show Act.put _ (some 61) _ = _
                  simp only [Act.put, List.setIfInBounds_toArray, List.set_cons_zero, List.set_cons_succ, i64_w, i32_w]
                  rfl
                refine pure_ (i := 7) (N := some 62) (v := ?_) (a' := ?_) #[true, true, true, true, true, true, true, true, false] rfl rfl (any_of HT_.out (by kernel_rfl)) (fun _ _ _ h => h) (Or.inl ⟨by rfl, ?_⟩) ?_ ?_
                rotate_left
                · intro w'
                  go_simp
                  with_reducible rfl
                rotate_left
                · simp only [Act.put, List.setIfInBounds_toArray, List.set_cons_zero, List.set_cons_succ, i64_w, i32_w]
                  rfl
                refine pure_ (i := 8) (N := some 5) (v := ?_) (a' := ?_) #[true, true, true, true, true, true, true, true, true] rfl rfl (any_of HT_.out (by kernel_rfl)) (fun _ _ _ h => h) (Or.inl ⟨by rfl, ?_⟩) ?_ ?_
                rotate_left
                · intro w'
                  go_simp
                  with_reducible rfl
                rotate_left
                · simp only [Act.put, List.setIfInBounds_toArray, List.set_cons_zero, List.set_cons_succ, i64_w, i32_w]
                  rfl
                refine done_ (done_of HT_.out (by kernel_rfl)) ?_
                go_wp2
                try rw [Exit.noGoto_ret]
                go_ret2
                exact ⟨by rw [HR0.out]; rfl, HB4.out⟩
              · have hzB : (m1 == (0 : Int)) = false := by rw [beq_eq_false_iff_ne]; exact hz
                clear hz
                refine start_ (n := 9) (S := fun w' => w'.cell? ⟨gA, 0, none⟩ = some (.int .i64 p.f0) ∧ w'.cell? ⟨gA, 1, none⟩ = some (.int .i64 p.f1) ∧ w'.cell? ⟨g, k * 2, none⟩ = some (.int .i64 q.f0) ∧ w'.cell? ⟨g, k * 2 + 1, none⟩ = some (.int .i64 q.f1)) (ds := []) #[false, false, false, false, false, false, false, false, false] (by kernel_rfl) rfl rfl ⟨a0, a1, y0, y1⟩ (fun hHeld => ?_)
                refine with_tabW nearR.tab14 nearR.bits14 (fun HT_ HW_ => ?_)
                refine pure_ (i := 0) (N := some 55) (v := ?_) (a' := ?_) #[true, false, false, false, false, false, false, false, false] rfl rfl (any_of HT_.out (by kernel_rfl)) (fun _ _ _ h => h) (Or.inl ⟨by rfl, ?_⟩) ?_ ?_
                rotate_left
                · intro w'
                  go_simp
                  with_reducible rfl
                rotate_left
                · simp only [Act.put, List.setIfInBounds_toArray, List.set_cons_zero, List.set_cons_succ, i64_w, i32_w]
                  rfl
                refine pure_ (i := 2) (N := some 57) (v := ?_) (a' := ?_) #[true, false, true, false, false, false, false, false, false] rfl rfl (any_of HT_.out (by kernel_rfl)) (fun _ _ _ h => h) (Or.inl ⟨by rfl, ?_⟩) ?_ ?_
                rotate_left
                · intro w'
                  go_simp
                  with_reducible rfl
                rotate_left
                · simp only [Act.put, List.setIfInBounds_toArray, List.set_cons_zero, List.set_cons_succ, i64_w, i32_w]
                  rfl
                refine pure_ (i := 3) (N := some 58) (v := ?_) (a' := ?_) #[true, false, true, true, false, false, false, false, false] rfl rfl (any_of HT_.out (by kernel_rfl)) (fun _ _ _ h => h) (Or.inl ⟨by rfl, ?_⟩) ?_ ?_
                rotate_left
                · intro w'
                  go_simp
                  with_reducible rfl
                rotate_left
                · simp only [Act.put, List.setIfInBounds_toArray, List.set_cons_zero, List.set_cons_succ, i64_w, i32_w]
                  rfl
                refine pure_ (i := 4) (N := some 59) (v := ?_) (a' := ?_) #[true, false, true, true, true, false, false, false, false] rfl rfl (any_of HT_.out (by kernel_rfl)) (fun _ _ _ h => h) (Or.inl ⟨by rfl, ?_⟩) ?_ ?_
                rotate_left
                · intro w'
                  go_simp
                  with_reducible rfl
                rotate_left
                · simp only [Act.put, List.setIfInBounds_toArray, List.set_cons_zero, List.set_cons_succ, i64_w, i32_w]
                  rfl
                refine take_ (i := 1) (N := some 56) (v := ?_) (a' := ?_) #[true, true, true, true, true, false, false, false, false] rfl rfl (take_ofW HT_.out HW_.out (by kernel_rfl)) (fun _ _ _ h => h) (Or.inl ⟨by rfl, ?_⟩) hHeld ?_ ?_
                rotate_left
                · rintro w' ⟨s0, s1, s2, s3⟩
                  go_simp
                  with_reducible rfl
                rotate_left
                · simp only [Act.put, List.setIfInBounds_toArray, List.set_cons_zero, List.set_cons_succ, i64_w, i32_w]
                  rfl
                refine take_ (i := 5) (N := some 60) (v := ?_) (a' := ?_) #[true, true, true, true, true, true, false, false, false] rfl rfl (take_ofW HT_.out HW_.out (by kernel_rfl)) (fun _ _ _ h => h) (Or.inl ⟨by rfl, ?_⟩) hHeld ?_ ?_
                rotate_left
                · rintro w' ⟨s0, s1, s2, s3⟩
                  go_simp
                  with_reducible rfl
                rotate_left
                · simp only [Act.put, List.setIfInBounds_toArray, List.set_cons_zero, List.set_cons_succ, i64_w, i32_w]
                  rfl
                refine one_ (i := 6) (N := some 61) #[true, true, true, true, true, true, true, false, false] rfl rfl (one_of HT_.out (by kernel_rfl)) (by decide) (fun K hK => ?_)
                refine goes_ Try.func72 (by kernel_rfl) rfl #[.agg #[.int .i64 p.f0, .int .i64 p.f1], .agg #[.int .i64 q.f0, .int .i64 q.f1]] (by rfl) rfl rfl (by simp only [List.map_toArray, List.map_cons, List.map_nil]; rfl) ?_
                with_reducible refine (plane_square.calls _ _ _ _ _ _ HQ.out).mono ?_
                rintro e w4 ⟨rfl, hb4⟩
                refine ⟨_, rfl, ?_⟩
                have HR4 := Aside0.mk (Kd.R_below (Kd.R_drew HR2.out) hb4)
                have BA4 := Aside0.mk (blk_below (kD BA2.out) hb4)
                have HB4 := Aside0.mk (below_step (lD HB2'.out) hb4)
                refine hK.out _ _ ⟨(hb4.cell (World.block_lt_of_cell? _ _ a0)).trans a0, (hb4.cell (World.block_lt_of_cell? _ _ a1)).trans a1, (hb4.cell (World.block_lt_of_cell? _ _ y0)).trans y0, (hb4.cell (World.block_lt_of_cell? _ _ y1)).trans y1⟩ (fun hHeld => ?_)
                clear hK K
                refine norm_ (a' := ?_) ?_ ?_
                rotate_left
                · show Act.put _ (some 61) _ = _
                  simp only [Act.put, List.setIfInBounds_toArray, List.set_cons_zero, List.set_cons_succ, i64_w, i32_w]
                  rfl
                refine pure_ (i := 7) (N := some 62) (v := ?_) (a' := ?_) #[true, true, true, true, true, true, true, true, false] rfl rfl (any_of HT_.out (by kernel_rfl)) (fun _ _ _ h => h) (Or.inl ⟨by rfl, ?_⟩) ?_ ?_
                rotate_left
                · intro w'
                  go_simp
                  with_reducible rfl
                rotate_left
                · simp only [Act.put, List.setIfInBounds_toArray, List.set_cons_zero, List.set_cons_succ, i64_w, i32_w]
                  rfl
                refine pure_ (i := 8) (N := some 5) (v := ?_) (a' := ?_) #[true, true, true, true, true, true, true, true, true] rfl rfl (any_of HT_.out (by kernel_rfl)) (fun _ _ _ h => h) (Or.inl ⟨by rfl, ?_⟩) ?_ ?_
                rotate_left
                · intro w'
                  go_simp
                  with_reducible rfl
                rotate_left
                · simp only [Act.put, List.setIfInBounds_toArray, List.set_cons_zero, List.set_cons_succ, i64_w, i32_w]
                  rfl
                refine done_ (done_of HT_.out (by kernel_rfl)) ?_
                go_wp2
                go_roundg (gk - 1)
                case measure => omega
                case rel => exact ⟨c + 1, by omega, by rw [← hk]; congr 1; omega, by rw [HVL.out], HR4, BA4, HB4⟩
        · obtain rfl : c = i := by omega
          have hk : ((c : Nat) : Int) - 1 - ((c : Nat) : Int) = -1 := by omega
          rw [hk]
          go_wp2
          go_roundg (go - 1)
          case measure => omega
          case rel => exact ⟨c + 1, by omega, by go_num, by rw [HNS.out], HR, HB⟩
    · obtain rfl : i = L.length := by omega
      have HR0 := Aside0.mk (show r = nrA L L.length m0 from HV.out)
      go_wp2
      try rw [Exit.noGoto_ret]
      go_ret2
      exact ⟨by rw [HR0.out]; rfl, HB.out⟩
set_option maxHeartbeats 4000000 in
theorem nearest_no (A0 : Option Addr) (c0 : Nat) (l0 : List S31) (w : World) (hr0 : Kd.C k31 w A0 l0.length l0) (hc0 : l0.length ≤ c0) (hs : ¬ (isSetB l0 = true ∧ l0.length ≠ 1)) :
    Calls Try.prog 45 #[.slice A0 l0.length c0] w fun e w' => e = .returned (.tuple #[.int .i64 0, .int .i64 2]) ∧ Below w.heap.size w w' := by
  have HS := Aside0.mk (fun W (hb : Below w.heap.size w W) => plane_isSet.calls A0 c0 l0 _ W (Kd.C_below hr0 hb) hc0 (isSet_is l0))
  have HB := Aside0.mk (Below.refl w.heap.size w)
  clear hr0
  by_cases hb : isSetB l0 = true
  · have h1B : (((l0.length : Nat) : Int) == 1) = true := by
      rw [beq_iff_eq]
      have : l0.length = 1 := Classical.byContradiction fun h => hs ⟨hb, h⟩
      omega
    rw [hb] at HS
    clear hs hb
    go_enter Try.func45, Try.ntmps45
    go_wp2
    go_step3
    go_wp2_with (first | (go_at_call 55; go_must (refine (HS.out _ HB.out).mono ?_); rintro e w1 ⟨rfl, hb1⟩; have HB1 := Aside0.mk (below_step HB.out hb1); clear hb1))
    try rw [Exit.noGoto_ret]
    go_ret2
    exact ⟨rfl, HB1.out⟩
  · rw [Bool.not_eq_true] at hb
    rw [hb] at HS
    clear hs hb
    go_enter Try.func45, Try.ntmps45
    go_wp2
    go_step3
    go_wp2_with (first | (go_at_call 55; go_must (refine (HS.out _ HB.out).mono ?_); rintro e w1 ⟨rfl, hb1⟩; have HB1 := Aside0.mk (below_step HB.out hb1); clear hb1))
    try rw [Exit.noGoto_ret]
    go_ret2
    exact ⟨rfl, HB1.out⟩
theorem plane_Nearest.calls (A0 : Option Addr) (c0 : Nat) (l0 : List S31) (r1 r2 : Int) (w : World) (hr0 : Kd.C k31 w A0 l0.length l0) (hc0 : l0.length ≤ c0) (h : plane_Nearest.f l0 = some (r1, r2)) :
    Calls Try.prog 45 #[.slice A0 l0.length c0] w fun e w' => e = .returned (.tuple #[.int .i64 r1, .int .i64 r2]) ∧ Below w.heap.size w w' := by
  unfold plane_Nearest.f at h
  by_cases hs : isSetB l0 = true ∧ l0.length ≠ 1
  · rw [if_pos hs] at h
    simp only [Option.some.injEq, Prod.mk.injEq] at h
    obtain ⟨rfl, rfl⟩ := h
    have := ((isSetB_iff l0).1 hs.1).1
    exact nearest_yes A0 c0 l0 w hr0 hc0 hs.1 (by have := hs.2; omega)
  · rw [if_neg hs] at h
    simp only [Option.some.injEq, Prod.mk.injEq] at h
    obtain ⟨rfl, rfl⟩ := h
    exact nearest_no A0 c0 l0 w hr0 hc0 hs
end Go.Proofs.Ythaklbjcjoolcaa.P
namespace Go.Proofs.Ythaklbjcjoolcaa.P
open Go.RowKit Go.Proofs.YthaklbjcjoolcaaW.PrintWords Go.Proofs.YthaklbjcjoolcaaW.PrintLast Go.Proofs.YthaklbjcjoolcaaW.PrintMore
attribute [local go_sem] max2_int min2_int max_two min_two max_three min_three max_four min_four   -- for this text's walks alone
set_option linter.unusedVariables false
set_option linter.unusedSimpArgs false

/-! ### silversidelaw01_PlaneSpans: function 15 -/
def silversidelaw01_PlaneSpans.j0 : Nat → List (S31) → Int → Int → Bool → Option (Bool)
 | 0, _, _, _, _ => none
 | k + 1, x3, x6, x7, x47 => if x47 = true then (some false) else (if (x3.length : Int) = 1 then (if x6 = 0 then (if x7 = 2 then ((silversidelaw01_awake.f k).bind fun t596 => (some t596)) else (some false)) else (some false)) else ((silversideref01_Nearest.f k x3).bind fun t597 => (if x6 = t597 then (if x7 = 0 then ((silversidelaw01_awake.f k).bind fun t598 => (some t598)) else (some false)) else (some false))))
def silversidelaw01_PlaneSpans.f (k : Nat) (l0 : List (S31)) : Option (Bool) := (silversidelaw01_some.f l0 120).bind fun t586 => ((plane_Widest.f t586).bind fun bt589 => ((plane_Nearest.f t586).bind fun bt591 => ((silversideref01_Set.f k t586).bind fun t593 => (if t593 = true then ((silversideref01_Widest.f k t586).bind fun t595 => (if bt589.1 = t595 then (silversidelaw01_PlaneSpans.j0 k t586 bt591.1 bt591.2 (bt589.2 != 0)) else (silversidelaw01_PlaneSpans.j0 k t586 bt591.1 bt591.2 true))) else (if bt589.1 = 0 then (if bt589.2 = 2 then (if bt591.1 = 0 then (if bt591.2 = 2 then ((silversidelaw01_awake.f k).bind fun t594 => (some t594)) else (some false)) else (some false)) else (some false)) else (some false))))))
theorem silversidelaw01_PlaneSpans.mono_l : ∀ k, (∀ y0 y1 y2 y3, LeO (silversidelaw01_PlaneSpans.j0 k y0 y1 y2 y3) (silversidelaw01_PlaneSpans.j0 (k + 1) y0 y1 y2 y3))
 | 0 => fun _ _ _ _ r h => by simp [silversidelaw01_PlaneSpans.j0] at h
 | k + 1 => by
  have ih0 := silversidelaw01_PlaneSpans.mono_l k
  ·intro y0 y1 y2 y3
   unfold silversidelaw01_PlaneSpans.j0
   repeat' first
   | (with_reducible exact ih0 _ _ _ _)
   | (with_reducible exact silversidelaw01_awake.mono _)
   | (with_reducible exact silversideref01_Nearest.mono _ _)
   | (with_reducible exact silversideref01_Set.mono _ _)
   | (with_reducible exact silversideref01_Widest.mono _ _)
   | (with_reducible exact LeO.refl _)
   | (with_reducible exact LeO.none _)
   | (with_reducible refine LeO.ite ?_ ?_)
   | (with_reducible refine LeO.bind ?_ (fun _ => ?_))
   | exact ih0 _ _ _ _
   | exact silversidelaw01_awake.mono _
   | exact silversideref01_Nearest.mono _ _
   | exact silversideref01_Set.mono _ _
   | exact silversideref01_Widest.mono _ _
   | exact LeO.none _
   | refine LeO.ite ?_ ?_
   | refine LeO.bind ?_ (fun _ => ?_)
theorem silversidelaw01_PlaneSpans.mono : ∀ a0 k, LeO (silversidelaw01_PlaneSpans.f k a0) (silversidelaw01_PlaneSpans.f (k + 1) a0) := by
 intro a0 k
 have ih0 := silversidelaw01_PlaneSpans.mono_l k
 unfold silversidelaw01_PlaneSpans.f
 repeat' first
   | (with_reducible exact ih0 _ _ _ _)
   | (with_reducible exact silversidelaw01_awake.mono _)
   | (with_reducible exact silversideref01_Nearest.mono _ _)
   | (with_reducible exact silversideref01_Set.mono _ _)
   | (with_reducible exact silversideref01_Widest.mono _ _)
   | (with_reducible exact LeO.refl _)
   | (with_reducible exact LeO.none _)
   | (with_reducible refine LeO.ite ?_ ?_)
   | (with_reducible refine LeO.bind ?_ (fun _ => ?_))
   | exact ih0 _ _ _ _
   | exact silversidelaw01_awake.mono _
   | exact silversideref01_Nearest.mono _ _
   | exact silversideref01_Set.mono _ _
   | exact silversideref01_Widest.mono _ _
   | exact LeO.none _
   | refine LeO.ite ?_ ?_
   | refine LeO.bind ?_ (fun _ => ?_)
set_option maxHeartbeats 8000000 in
set_option maxRecDepth 100000 in
theorem silversidelaw01_PlaneSpans.calls (k : Nat) (A0 : Option Addr) (c0 : Nat) (l0 : List (S31)) (r : Bool) (w : World) (hr0 : Kd.C k31 w A0 l0.length l0) (hc0 : l0.length ≤ c0) (h : silversidelaw01_PlaneSpans.f k l0 = some r) :
  Calls Try.prog 15 #[.slice A0 l0.length c0] w fun e w' => e = .returned (.bool r) ∧ Below w.heap.size w w' := by
 have HR0 := Aside0.mk hr0
 have HC0 := Aside0.mk hc0
 clear hr0 hc0
 have HB := Aside0.mk (Below.refl w.heap.size w)
 have H : ((silversidelaw01_some.f l0 120).bind fun t586 => ((plane_Widest.f t586).bind fun bt589 => ((plane_Nearest.f t586).bind fun bt591 => ((silversideref01_Set.f k t586).bind fun t593 => (if t593 = true then ((silversideref01_Widest.f k t586).bind fun t595 => (if bt589.1 = t595 then (silversidelaw01_PlaneSpans.j0 k t586 bt591.1 bt591.2 (bt589.2 != 0)) else (silversidelaw01_PlaneSpans.j0 k t586 bt591.1 bt591.2 true))) else (if bt589.1 = 0 then (if bt589.2 = 2 then (if bt591.1 = 0 then (if bt591.2 = 2 then ((silversidelaw01_awake.f k).bind fun t594 => (some t594)) else (some false)) else (some false)) else (some false)) else (some false))))))) = some r := h
 clear h
 replace H := Option.bind_eq_some_iff.mp H
 obtain ⟨t586, A20, H⟩ := H
 replace H : ((plane_Widest.f t586).bind fun bt589 => ((plane_Nearest.f t586).bind fun bt591 => ((silversideref01_Set.f k t586).bind fun t593 => (if t593 = true then ((silversideref01_Widest.f k t586).bind fun t595 => (if bt589.1 = t595 then (silversidelaw01_PlaneSpans.j0 k t586 bt591.1 bt591.2 (bt589.2 != 0)) else (silversidelaw01_PlaneSpans.j0 k t586 bt591.1 bt591.2 true))) else (if bt589.1 = 0 then (if bt589.2 = 2 then (if bt591.1 = 0 then (if bt591.2 = 2 then ((silversidelaw01_awake.f k).bind fun t594 => (some t594)) else (some false)) else (some false)) else (some false)) else (some false)))))) = some r := H
 have A2 := Aside0.mk A20
 clear A20
 replace H := Option.bind_eq_some_iff.mp H
 obtain ⟨⟨t589, t590⟩, A30, H⟩ := H
 replace H : ((plane_Nearest.f t586).bind fun bt591 => ((silversideref01_Set.f k t586).bind fun t593 => (if t593 = true then ((silversideref01_Widest.f k t586).bind fun t595 => (if t589 = t595 then (silversidelaw01_PlaneSpans.j0 k t586 bt591.1 bt591.2 (t590 != 0)) else (silversidelaw01_PlaneSpans.j0 k t586 bt591.1 bt591.2 true))) else (if t589 = 0 then (if t590 = 2 then (if bt591.1 = 0 then (if bt591.2 = 2 then ((silversidelaw01_awake.f k).bind fun t594 => (some t594)) else (some false)) else (some false)) else (some false)) else (some false))))) = some r := H
 have A3 := Aside0.mk A30
 clear A30
 replace H := Option.bind_eq_some_iff.mp H
 obtain ⟨⟨t591, t592⟩, A40, H⟩ := H
 replace H : ((silversideref01_Set.f k t586).bind fun t593 => (if t593 = true then ((silversideref01_Widest.f k t586).bind fun t595 => (if t589 = t595 then (silversidelaw01_PlaneSpans.j0 k t586 t591 t592 (t590 != 0)) else (silversidelaw01_PlaneSpans.j0 k t586 t591 t592 true))) else (if t589 = 0 then (if t590 = 2 then (if t591 = 0 then (if t592 = 2 then ((silversidelaw01_awake.f k).bind fun t594 => (some t594)) else (some false)) else (some false)) else (some false)) else (some false)))) = some r := H
 have A4 := Aside0.mk A40
 clear A40
 replace H := Option.bind_eq_some_iff.mp H
 obtain ⟨t593, A50, H⟩ := H
 replace H : (if t593 = true then ((silversideref01_Widest.f k t586).bind fun t595 => (if t589 = t595 then (silversidelaw01_PlaneSpans.j0 k t586 t591 t592 (t590 != 0)) else (silversidelaw01_PlaneSpans.j0 k t586 t591 t592 true))) else (if t589 = 0 then (if t590 = 2 then (if t591 = 0 then (if t592 = 2 then ((silversidelaw01_awake.f k).bind fun t594 => (some t594)) else (some false)) else (some false)) else (some false)) else (some false))) = some r := H
 have A5 := Aside0.mk A50
 clear A50
 by_cases c6 : t593 = true
 ·subst c6
  have H1 : ((silversideref01_Widest.f k t586).bind fun t595 => (if t589 = t595 then (silversidelaw01_PlaneSpans.j0 k t586 t591 t592 (t590 != 0)) else (silversidelaw01_PlaneSpans.j0 k t586 t591 t592 true))) = some r := by rw [if_pos rfl] at H; exact H
  clear H
  have H := H1
  clear H1
  have HC7 := Aside0.mk H
  clear H
  go_enter Try.func15, Try.ntmps15
  go_upto_region 6 with (first | ((with_reducible refine gate_callee (f := 20) rfl ?_); refine goesL_ (some 9) rfl rfl Try.func20 (by kernel_rfl) rfl #[.slice A0 l0.length c0, .int .i64 120] rfl (by (try simp only [List.map_toArray, List.map_cons, List.map_nil]); first | done | rfl | (simp only [List.length_drop, List.length_take]; rfl)) ?_; (with_reducible refine (silversidelaw01_some.calls _ _ l0 120 t586 _ ?side1 ?side2 A2.out).mono ?_); (case side1 => repeat (first | exact HR0.out | (with_reducible refine Kd.C_alloc ?_ _) | (with_reducible refine Kd.C_drewN ?_ _) | (with_reducible refine Kd.C_drew ?_))); (case side2 => exact HC0.out); rintro e w8 ⟨v587, rfl, ho0, hb⟩; refine ⟨_, rfl, ?_⟩; have n0_ := Aside0.mk (Kd.R_lower ho0 (below_size (by repeat (first | (with_reducible first | exact HB.out | apply lA | apply lN | apply lD) | exact HB.out)))); have n1_ := Aside0.mk (below_step (by repeat (first | (with_reducible first | exact HB.out | apply lA | apply lN | apply lD) | exact HB.out)) hb); clear HB; have HO588 := n0_; have HB := n1_; clear n0_ n1_; (try clear hb); (try clear hb2); (try clear hk); (try clear hi); (try clear ho0); obtain ⟨Ao9, co9, eo9⟩ := Kd.R_slice HO588.out; subst eo9) | ((with_reducible refine gate_callee (f := 42) rfl ?_); refine goesL_ (some 12) rfl rfl Try.func42 (by kernel_rfl) rfl #[.slice Ao9 t586.length co9] rfl (by (try simp only [List.map_toArray, List.map_cons, List.map_nil]); first | done | rfl | (simp only [List.length_drop, List.length_take]; rfl)) ?_; (with_reducible refine (plane_Widest.calls _ _ t586 t589 t590 _ ?side1 ?side2 A3.out).mono ?_); (case side1 => repeat (first | exact (Kd.R_reads' HO588.out).2.2 | (with_reducible refine Kd.C_alloc ?_ _) | (with_reducible refine Kd.C_drewN ?_ _) | (with_reducible refine Kd.C_drew ?_))); (case side2 => exact (Kd.R_reads' HO588.out).2.1); rintro e w10 ⟨rfl, hb⟩; refine ⟨_, rfl, ?_⟩; have n0_ := Aside0.mk (Kd.R_below (by (with_reducible repeat (first | apply Kd.R_alloc | apply Kd.R_drewN | apply Kd.R_drew)); exact HO588.out) hb); have n1_ := Aside0.mk (below_step (by repeat (first | (with_reducible first | exact HB.out | apply lA | apply lN | apply lD) | exact HB.out)) hb); clear HO588; clear HB; have HO588 := n0_; have HB := n1_; clear n0_ n1_; (try clear hb); (try clear hb2); (try clear hk); (try clear hi)) | ((with_reducible refine gate_callee (f := 45) rfl ?_); refine goesL_ (some 17) rfl rfl Try.func45 (by kernel_rfl) rfl #[.slice Ao9 t586.length co9] rfl (by (try simp only [List.map_toArray, List.map_cons, List.map_nil]); first | done | rfl | (simp only [List.length_drop, List.length_take]; rfl)) ?_; (with_reducible refine (plane_Nearest.calls _ _ t586 t591 t592 _ ?side1 ?side2 A4.out).mono ?_); (case side1 => repeat (first | exact (Kd.R_reads' HO588.out).2.2 | (with_reducible refine Kd.C_alloc ?_ _) | (with_reducible refine Kd.C_drewN ?_ _) | (with_reducible refine Kd.C_drew ?_))); (case side2 => exact (Kd.R_reads' HO588.out).2.1); rintro e w11 ⟨rfl, hb⟩; refine ⟨_, rfl, ?_⟩; have n0_ := Aside0.mk (Kd.R_below (by (with_reducible repeat (first | apply Kd.R_alloc | apply Kd.R_drewN | apply Kd.R_drew)); exact HO588.out) hb); have n1_ := Aside0.mk (below_step (by repeat (first | (with_reducible first | exact HB.out | apply lA | apply lN | apply lD) | exact HB.out)) hb); clear HO588; clear HB; have HO588 := n0_; have HB := n1_; clear n0_ n1_; (try clear hb); (try clear hb2); (try clear hk); (try clear hi)) | ((with_reducible refine gate_callee (f := 33) rfl ?_); refine goesL_ (some 21) rfl rfl Try.func33 (by kernel_rfl) rfl #[.slice Ao9 t586.length co9] rfl (by (try simp only [List.map_toArray, List.map_cons, List.map_nil]); first | done | rfl | (simp only [List.length_drop, List.length_take]; rfl)) ?_; (with_reducible refine (silversideref01_Set.calls k _ _ t586 true _ ?side1 ?side2 A5.out).mono ?_); (case side1 => repeat (first | exact (Kd.R_reads' HO588.out).2.2 | (with_reducible refine Kd.C_alloc ?_ _) | (with_reducible refine Kd.C_drewN ?_ _) | (with_reducible refine Kd.C_drew ?_))); (case side2 => exact (Kd.R_reads' HO588.out).2.1); rintro e w12 ⟨rfl, hb⟩; refine ⟨_, rfl, ?_⟩; have n0_ := Aside0.mk (Kd.R_below (by (with_reducible repeat (first | apply Kd.R_alloc | apply Kd.R_drewN | apply Kd.R_drew)); exact HO588.out) hb); have n1_ := Aside0.mk (below_step (by repeat (first | (with_reducible first | exact HB.out | apply lA | apply lN | apply lD) | exact HB.out)) hb); clear HO588; clear HB; have HO588 := n0_; have HB := n1_; clear n0_ n1_; (try clear hb); (try clear hb2); (try clear hk); (try clear hi)))
  (try simp only [Act.put, sA, sB, sC])
  go_cut [47] (fun v47 wc => ∃ (kq : Nat) (x47_6 : Bool), v47 = .bool x47_6 ∧ Aside0 (silversidelaw01_PlaneSpans.j0 kq t586 t591 t592 x47_6 = some r) ∧ Aside0 (kq ≤ k) ∧ Aside0 (Kd.R k31 31 wc w.heap.size (fun _ => True) (.slice Ao9 t586.length co9) t586) ∧ Aside0 (Below w.heap.size w wc))
  case first =>
   have H := HC7.out
   clear HC7
   replace H := Option.bind_eq_some_iff.mp H
   obtain ⟨t595, A130, H⟩ := H
   replace H : (if t589 = t595 then (silversidelaw01_PlaneSpans.j0 k t586 t591 t592 (t590 != 0)) else (silversidelaw01_PlaneSpans.j0 k t586 t591 t592 true)) = some r := H
   have A13 := Aside0.mk A130
   clear A130
   by_cases c14 : t589 = t595
   ·rw [if_pos c14] at H
    have c14b0 : (t589 == t595) = true := beq_iff_eq.mpr c14
    have c14b1 : (t589 != t595) = false := bne_eq_false_iff_eq.mpr c14
    clear c14
    (first | rw [c14b0] | (simp only [i64_w, i32_w]; rw [c14b0]) | skip)
    have H' := Aside0.mk H
    clear H
    go_wp2_with (first | ((with_reducible refine gate_callee (f := 46) rfl ?_); refine goesL_ (some 42) rfl rfl Try.func46 (by kernel_rfl) rfl #[.slice Ao9 t586.length co9] rfl (by (try simp only [List.map_toArray, List.map_cons, List.map_nil]); first | done | rfl | (simp only [List.length_drop, List.length_take]; rfl)) ?_; (with_reducible refine (silversideref01_Widest.calls k _ _ t586 t595 _ ?side1 ?side2 A13.out).mono ?_); (case side1 => repeat (first | exact (Kd.R_reads' HO588.out).2.2 | (with_reducible refine Kd.C_alloc ?_ _) | (with_reducible refine Kd.C_drewN ?_ _) | (with_reducible refine Kd.C_drew ?_))); (case side2 => exact (Kd.R_reads' HO588.out).2.1); rintro e w15 ⟨rfl, hb⟩; refine ⟨_, rfl, ?_⟩; have n0_ := Aside0.mk (Kd.R_below (by (with_reducible repeat (first | apply Kd.R_alloc | apply Kd.R_drewN | apply Kd.R_drew)); exact HO588.out) hb); have n1_ := Aside0.mk (below_step (by repeat (first | (with_reducible first | exact HB.out | apply lA | apply lN | apply lD) | exact HB.out)) hb); clear HO588; clear HB; have HO588 := n0_; have HB := n1_; clear n0_ n1_; (try clear hb); (try clear hb2); (try clear hk); (try clear hi)))
    go_meet
    case rel => exact ⟨_, ((t590 != 0)), (by first | rfl | (simp; done) | (simp [*]; done)), H', ⟨by first | omega | exact Nat.le_refl _⟩, ⟨by (with_reducible repeat (first | apply Kd.R_alloc | apply Kd.R_drewN | apply Kd.R_drew)); exact HO588.out⟩, ⟨by repeat (first | (with_reducible first | exact HB.out | apply lA | apply lN | apply lD) | exact HB.out)⟩⟩
   rw [if_neg c14] at H
   have c14b0 : (t589 == t595) = false := beq_eq_false_iff_ne.mpr c14
   have c14b1 : (t589 != t595) = true := bne_iff_ne.mpr c14
   (first | rw [c14b0] | (simp only [i64_w, i32_w]; rw [c14b0]) | skip)
   have H' := Aside0.mk H
   clear H
   go_wp2_with (first | ((with_reducible refine gate_callee (f := 46) rfl ?_); refine goesL_ (some 42) rfl rfl Try.func46 (by kernel_rfl) rfl #[.slice Ao9 t586.length co9] rfl (by (try simp only [List.map_toArray, List.map_cons, List.map_nil]); first | done | rfl | (simp only [List.length_drop, List.length_take]; rfl)) ?_; (with_reducible refine (silversideref01_Widest.calls k _ _ t586 t595 _ ?side1 ?side2 A13.out).mono ?_); (case side1 => repeat (first | exact (Kd.R_reads' HO588.out).2.2 | (with_reducible refine Kd.C_alloc ?_ _) | (with_reducible refine Kd.C_drewN ?_ _) | (with_reducible refine Kd.C_drew ?_))); (case side2 => exact (Kd.R_reads' HO588.out).2.1); rintro e w16 ⟨rfl, hb⟩; refine ⟨_, rfl, ?_⟩; have n0_ := Aside0.mk (Kd.R_below (by (with_reducible repeat (first | apply Kd.R_alloc | apply Kd.R_drewN | apply Kd.R_drew)); exact HO588.out) hb); have n1_ := Aside0.mk (below_step (by repeat (first | (with_reducible first | exact HB.out | apply lA | apply lN | apply lD) | exact HB.out)) hb); clear HO588; clear HB; have HO588 := n0_; have HB := n1_; clear n0_ n1_; (try clear hb); (try clear hb2); (try clear hk); (try clear hi)))
   go_meet
   case rel => exact ⟨_, (true), (by first | rfl | (simp; done) | (simp [*]; done)), H', ⟨by first | omega | exact Nat.le_refl _⟩, ⟨by (with_reducible repeat (first | apply Kd.R_alloc | apply Kd.R_drewN | apply Kd.R_drew)); exact HO588.out⟩, ⟨by repeat (first | (with_reducible first | exact HB.out | apply lA | apply lN | apply lD) | exact HB.out)⟩⟩
  case rest =>
   clear HC7
   try clear c1
   try clear c2
   try clear p2
   try clear c3
   try clear c4
   try clear c6
   try clear c14
   try clear c14b0
   try clear c14b1
   try clear c15
   obtain ⟨kq, x47_6, rfl, HA, HJ6, HO_3, HB⟩ := hcut
   cases kq with
   | zero => exact absurd HA.out (by simp [silversidelaw01_PlaneSpans.j0])
   | succ kj6 =>
    have H := HA.out
    clear HA
    simp only [silversidelaw01_PlaneSpans.j0] at H
    by_cases c17 : x47_6 = true
    ·subst c17
     have H1 : (some false) = some r := by rw [if_pos rfl] at H; exact H
     clear H
     have H := H1
     clear H1
     obtain rfl := Option.some.inj H
     go_wp2
     go_ret
     exact ⟨by first | rfl | (simp [errW_none, errW_some] <;> rfl) | (simp [*, errW_none, errW_some] <;> rfl), by repeat (first | (with_reducible first | exact HB.out | apply lA | apply lN | apply lD) | exact HB.out)⟩
    ·replace c17 := Bool.eq_false_iff.mpr c17
     subst c17
     have H1 : (if (t586.length : Int) = 1 then (if t591 = 0 then (if t592 = 2 then ((silversidelaw01_awake.f kj6).bind fun t596 => (some t596)) else (some false)) else (some false)) else ((silversideref01_Nearest.f kj6 t586).bind fun t597 => (if t591 = t597 then (if t592 = 0 then ((silversidelaw01_awake.f kj6).bind fun t598 => (some t598)) else (some false)) else (some false)))) = some r := by rw [if_neg (show ¬ (false = true) by decide)] at H; exact H
     clear H
     have H := H1
     clear H1
     by_cases c18 : (t586.length : Int) = 1
     ·rw [if_pos c18] at H
      have c18b0 : ((t586.length : Int) == 1) = true := beq_iff_eq.mpr c18
      have c18b1 : ((t586.length : Int) != 1) = false := bne_eq_false_iff_eq.mpr c18
      clear c18
      by_cases c19 : t591 = 0
      ·rw [if_pos c19] at H
       have c19b0 : (t591 == 0) = true := beq_iff_eq.mpr c19
       have c19b1 : (t591 != 0) = false := bne_eq_false_iff_eq.mpr c19
       clear c19
       by_cases c20 : t592 = 2
       ·rw [if_pos c20] at H
        have c20b0 : (t592 == 2) = true := beq_iff_eq.mpr c20
        have c20b1 : (t592 != 2) = false := bne_eq_false_iff_eq.mpr c20
        clear c20
        replace H := Option.bind_eq_some_iff.mp H
        obtain ⟨t596, A210, H⟩ := H
        replace H : (some t596) = some r := H
        have A21 := Aside0.mk A210
        clear A210
        obtain rfl := Option.some.inj H
        go_wp2_with (first | (go_at_call 23; (with_reducible refine (silversidelaw01_awake.calls kj6  t596 _ A21.out).mono ?_); rintro e w22 ⟨rfl, hb⟩; have n0_ := Aside0.mk (Kd.R_below (by (with_reducible repeat (first | apply Kd.R_alloc | apply Kd.R_drewN | apply Kd.R_drew)); exact HO_3.out) hb); have n1_ := Aside0.mk (below_step (by repeat (first | (with_reducible first | exact HB.out | apply lA | apply lN | apply lD) | exact HB.out)) hb); clear HO_3; clear HB; have HO_3 := n0_; have HB := n1_; clear n0_ n1_; (try clear hb); (try clear hb2); (try clear hk); (try clear hi)))
        go_ret
        exact ⟨by first | rfl | (simp [errW_none, errW_some] <;> rfl) | (simp [*, errW_none, errW_some] <;> rfl), by repeat (first | (with_reducible first | exact HB.out | apply lA | apply lN | apply lD) | exact HB.out)⟩
       ·rw [if_neg c20] at H
        have c20b0 : (t592 == 2) = false := beq_eq_false_iff_ne.mpr c20
        have c20b1 : (t592 != 2) = true := bne_iff_ne.mpr c20
        obtain rfl := Option.some.inj H
        go_wp2
        go_ret
        exact ⟨by first | rfl | (simp [errW_none, errW_some] <;> rfl) | (simp [*, errW_none, errW_some] <;> rfl), by repeat (first | (with_reducible first | exact HB.out | apply lA | apply lN | apply lD) | exact HB.out)⟩
      ·rw [if_neg c19] at H
       have c19b0 : (t591 == 0) = false := beq_eq_false_iff_ne.mpr c19
       have c19b1 : (t591 != 0) = true := bne_iff_ne.mpr c19
       obtain rfl := Option.some.inj H
       go_wp2
       go_ret
       exact ⟨by first | rfl | (simp [errW_none, errW_some] <;> rfl) | (simp [*, errW_none, errW_some] <;> rfl), by repeat (first | (with_reducible first | exact HB.out | apply lA | apply lN | apply lD) | exact HB.out)⟩
     ·rw [if_neg c18] at H
      have c18b0 : ((t586.length : Int) == 1) = false := beq_eq_false_iff_ne.mpr c18
      have c18b1 : ((t586.length : Int) != 1) = true := bne_iff_ne.mpr c18
      replace H := Option.bind_eq_some_iff.mp H
      obtain ⟨t597, A230, H⟩ := H
      replace H : (if t591 = t597 then (if t592 = 0 then ((silversidelaw01_awake.f kj6).bind fun t598 => (some t598)) else (some false)) else (some false)) = some r := H
      have A23 := Aside0.mk A230
      clear A230
      by_cases c24 : t591 = t597
      ·rw [if_pos c24] at H
       have c24b0 : (t591 == t597) = true := beq_iff_eq.mpr c24
       have c24b1 : (t591 != t597) = false := bne_eq_false_iff_eq.mpr c24
       clear c24
       by_cases c25 : t592 = 0
       ·rw [if_pos c25] at H
        have c25b0 : (t592 == 0) = true := beq_iff_eq.mpr c25
        have c25b1 : (t592 != 0) = false := bne_eq_false_iff_eq.mpr c25
        clear c25
        replace H := Option.bind_eq_some_iff.mp H
        obtain ⟨t598, A260, H⟩ := H
        replace H : (some t598) = some r := H
        have A26 := Aside0.mk A260
        clear A260
        obtain rfl := Option.some.inj H
        go_wp2_with (first | ((with_reducible refine gate_callee (f := 47) rfl ?_); refine goesL_ (some 62) rfl rfl Try.func47 (by kernel_rfl) rfl #[.slice Ao9 t586.length co9] rfl (by (try simp only [List.map_toArray, List.map_cons, List.map_nil]); first | done | rfl | (simp only [List.length_drop, List.length_take]; rfl)) ?_; (with_reducible refine (silversideref01_Nearest.calls kj6 _ _ t586 t597 _ ?side1 ?side2 A23.out).mono ?_); (case side1 => repeat (first | exact (Kd.R_reads' HO_3.out).2.2 | (with_reducible refine Kd.C_alloc ?_ _) | (with_reducible refine Kd.C_drewN ?_ _) | (with_reducible refine Kd.C_drew ?_))); (case side2 => exact (Kd.R_reads' HO_3.out).2.1); rintro e w27 ⟨rfl, hb⟩; refine ⟨_, rfl, ?_⟩; have n0_ := Aside0.mk (Kd.R_below (by (with_reducible repeat (first | apply Kd.R_alloc | apply Kd.R_drewN | apply Kd.R_drew)); exact HO_3.out) hb); have n1_ := Aside0.mk (below_step (by repeat (first | (with_reducible first | exact HB.out | apply lA | apply lN | apply lD) | exact HB.out)) hb); clear HO_3; clear HB; have HO_3 := n0_; have HB := n1_; clear n0_ n1_; (try clear hb); (try clear hb2); (try clear hk); (try clear hi)) | (go_at_call 23; (with_reducible refine (silversidelaw01_awake.calls kj6  t598 _ A26.out).mono ?_); rintro e w28 ⟨rfl, hb⟩; have n0_ := Aside0.mk (Kd.R_below (by (with_reducible repeat (first | apply Kd.R_alloc | apply Kd.R_drewN | apply Kd.R_drew)); exact HO_3.out) hb); have n1_ := Aside0.mk (below_step (by repeat (first | (with_reducible first | exact HB.out | apply lA | apply lN | apply lD) | exact HB.out)) hb); clear HO_3; clear HB; have HO_3 := n0_; have HB := n1_; clear n0_ n1_; (try clear hb); (try clear hb2); (try clear hk); (try clear hi)))
        go_ret
        exact ⟨by first | rfl | (simp [errW_none, errW_some] <;> rfl) | (simp [*, errW_none, errW_some] <;> rfl), by repeat (first | (with_reducible first | exact HB.out | apply lA | apply lN | apply lD) | exact HB.out)⟩
       ·rw [if_neg c25] at H
        have c25b0 : (t592 == 0) = false := beq_eq_false_iff_ne.mpr c25
        have c25b1 : (t592 != 0) = true := bne_iff_ne.mpr c25
        obtain rfl := Option.some.inj H
        go_wp2_with (first | ((with_reducible refine gate_callee (f := 47) rfl ?_); refine goesL_ (some 62) rfl rfl Try.func47 (by kernel_rfl) rfl #[.slice Ao9 t586.length co9] rfl (by (try simp only [List.map_toArray, List.map_cons, List.map_nil]); first | done | rfl | (simp only [List.length_drop, List.length_take]; rfl)) ?_; (with_reducible refine (silversideref01_Nearest.calls kj6 _ _ t586 t597 _ ?side1 ?side2 A23.out).mono ?_); (case side1 => repeat (first | exact (Kd.R_reads' HO_3.out).2.2 | (with_reducible refine Kd.C_alloc ?_ _) | (with_reducible refine Kd.C_drewN ?_ _) | (with_reducible refine Kd.C_drew ?_))); (case side2 => exact (Kd.R_reads' HO_3.out).2.1); rintro e w29 ⟨rfl, hb⟩; refine ⟨_, rfl, ?_⟩; have n0_ := Aside0.mk (Kd.R_below (by (with_reducible repeat (first | apply Kd.R_alloc | apply Kd.R_drewN | apply Kd.R_drew)); exact HO_3.out) hb); have n1_ := Aside0.mk (below_step (by repeat (first | (with_reducible first | exact HB.out | apply lA | apply lN | apply lD) | exact HB.out)) hb); clear HO_3; clear HB; have HO_3 := n0_; have HB := n1_; clear n0_ n1_; (try clear hb); (try clear hb2); (try clear hk); (try clear hi)))
        go_ret
        exact ⟨by first | rfl | (simp [errW_none, errW_some] <;> rfl) | (simp [*, errW_none, errW_some] <;> rfl), by repeat (first | (with_reducible first | exact HB.out | apply lA | apply lN | apply lD) | exact HB.out)⟩
      ·rw [if_neg c24] at H
       have c24b0 : (t591 == t597) = false := beq_eq_false_iff_ne.mpr c24
       have c24b1 : (t591 != t597) = true := bne_iff_ne.mpr c24
       obtain rfl := Option.some.inj H
       go_wp2_with (first | ((with_reducible refine gate_callee (f := 47) rfl ?_); refine goesL_ (some 62) rfl rfl Try.func47 (by kernel_rfl) rfl #[.slice Ao9 t586.length co9] rfl (by (try simp only [List.map_toArray, List.map_cons, List.map_nil]); first | done | rfl | (simp only [List.length_drop, List.length_take]; rfl)) ?_; (with_reducible refine (silversideref01_Nearest.calls kj6 _ _ t586 t597 _ ?side1 ?side2 A23.out).mono ?_); (case side1 => repeat (first | exact (Kd.R_reads' HO_3.out).2.2 | (with_reducible refine Kd.C_alloc ?_ _) | (with_reducible refine Kd.C_drewN ?_ _) | (with_reducible refine Kd.C_drew ?_))); (case side2 => exact (Kd.R_reads' HO_3.out).2.1); rintro e w30 ⟨rfl, hb⟩; refine ⟨_, rfl, ?_⟩; have n0_ := Aside0.mk (Kd.R_below (by (with_reducible repeat (first | apply Kd.R_alloc | apply Kd.R_drewN | apply Kd.R_drew)); exact HO_3.out) hb); have n1_ := Aside0.mk (below_step (by repeat (first | (with_reducible first | exact HB.out | apply lA | apply lN | apply lD) | exact HB.out)) hb); clear HO_3; clear HB; have HO_3 := n0_; have HB := n1_; clear n0_ n1_; (try clear hb); (try clear hb2); (try clear hk); (try clear hi)))
       go_ret
       exact ⟨by first | rfl | (simp [errW_none, errW_some] <;> rfl) | (simp [*, errW_none, errW_some] <;> rfl), by repeat (first | (with_reducible first | exact HB.out | apply lA | apply lN | apply lD) | exact HB.out)⟩
 replace c6 := Bool.eq_false_iff.mpr c6
 subst c6
 have H1 : (if t589 = 0 then (if t590 = 2 then (if t591 = 0 then (if t592 = 2 then ((silversidelaw01_awake.f k).bind fun t594 => (some t594)) else (some false)) else (some false)) else (some false)) else (some false)) = some r := by rw [if_neg (show ¬ (false = true) by decide)] at H; exact H
 clear H
 have H := H1
 clear H1
 by_cases c31 : t589 = 0
 ·rw [if_pos c31] at H
  have c31b0 : (t589 == 0) = true := beq_iff_eq.mpr c31
  have c31b1 : (t589 != 0) = false := bne_eq_false_iff_eq.mpr c31
  clear c31
  by_cases c32 : t590 = 2
  ·rw [if_pos c32] at H
   have c32b0 : (t590 == 2) = true := beq_iff_eq.mpr c32
   have c32b1 : (t590 != 2) = false := bne_eq_false_iff_eq.mpr c32
   clear c32
   by_cases c33 : t591 = 0
   ·rw [if_pos c33] at H
    have c33b0 : (t591 == 0) = true := beq_iff_eq.mpr c33
    have c33b1 : (t591 != 0) = false := bne_eq_false_iff_eq.mpr c33
    clear c33
    by_cases c34 : t592 = 2
    ·rw [if_pos c34] at H
     have c34b0 : (t592 == 2) = true := beq_iff_eq.mpr c34
     have c34b1 : (t592 != 2) = false := bne_eq_false_iff_eq.mpr c34
     clear c34
     replace H := Option.bind_eq_some_iff.mp H
     obtain ⟨t594, A350, H⟩ := H
     replace H : (some t594) = some r := H
     have A35 := Aside0.mk A350
     clear A350
     obtain rfl := Option.some.inj H
     go_enter Try.func15, Try.ntmps15
     go_wp2_with (first | ((with_reducible refine gate_callee (f := 20) rfl ?_); refine goesL_ (some 9) rfl rfl Try.func20 (by kernel_rfl) rfl #[.slice A0 l0.length c0, .int .i64 120] rfl (by (try simp only [List.map_toArray, List.map_cons, List.map_nil]); first | done | rfl | (simp only [List.length_drop, List.length_take]; rfl)) ?_; (with_reducible refine (silversidelaw01_some.calls _ _ l0 120 t586 _ ?side1 ?side2 A2.out).mono ?_); (case side1 => repeat (first | exact HR0.out | (with_reducible refine Kd.C_alloc ?_ _) | (with_reducible refine Kd.C_drewN ?_ _) | (with_reducible refine Kd.C_drew ?_))); (case side2 => exact HC0.out); rintro e w36 ⟨v587, rfl, ho0, hb⟩; refine ⟨_, rfl, ?_⟩; have n0_ := Aside0.mk (Kd.R_lower ho0 (below_size (by repeat (first | (with_reducible first | exact HB.out | apply lA | apply lN | apply lD) | exact HB.out)))); have n1_ := Aside0.mk (below_step (by repeat (first | (with_reducible first | exact HB.out | apply lA | apply lN | apply lD) | exact HB.out)) hb); clear HB; have HO588 := n0_; have HB := n1_; clear n0_ n1_; (try clear hb); (try clear hb2); (try clear hk); (try clear hi); (try clear ho0); obtain ⟨Ao37, co37, eo37⟩ := Kd.R_slice HO588.out; subst eo37) | ((with_reducible refine gate_callee (f := 42) rfl ?_); refine goesL_ (some 12) rfl rfl Try.func42 (by kernel_rfl) rfl #[.slice Ao37 t586.length co37] rfl (by (try simp only [List.map_toArray, List.map_cons, List.map_nil]); first | done | rfl | (simp only [List.length_drop, List.length_take]; rfl)) ?_; (with_reducible refine (plane_Widest.calls _ _ t586 t589 t590 _ ?side1 ?side2 A3.out).mono ?_); (case side1 => repeat (first | exact (Kd.R_reads' HO588.out).2.2 | (with_reducible refine Kd.C_alloc ?_ _) | (with_reducible refine Kd.C_drewN ?_ _) | (with_reducible refine Kd.C_drew ?_))); (case side2 => exact (Kd.R_reads' HO588.out).2.1); rintro e w38 ⟨rfl, hb⟩; refine ⟨_, rfl, ?_⟩; have n0_ := Aside0.mk (Kd.R_below (by (with_reducible repeat (first | apply Kd.R_alloc | apply Kd.R_drewN | apply Kd.R_drew)); exact HO588.out) hb); have n1_ := Aside0.mk (below_step (by repeat (first | (with_reducible first | exact HB.out | apply lA | apply lN | apply lD) | exact HB.out)) hb); clear HO588; clear HB; have HO588 := n0_; have HB := n1_; clear n0_ n1_; (try clear hb); (try clear hb2); (try clear hk); (try clear hi)) | ((with_reducible refine gate_callee (f := 45) rfl ?_); refine goesL_ (some 17) rfl rfl Try.func45 (by kernel_rfl) rfl #[.slice Ao37 t586.length co37] rfl (by (try simp only [List.map_toArray, List.map_cons, List.map_nil]); first | done | rfl | (simp only [List.length_drop, List.length_take]; rfl)) ?_; (with_reducible refine (plane_Nearest.calls _ _ t586 t591 t592 _ ?side1 ?side2 A4.out).mono ?_); (case side1 => repeat (first | exact (Kd.R_reads' HO588.out).2.2 | (with_reducible refine Kd.C_alloc ?_ _) | (with_reducible refine Kd.C_drewN ?_ _) | (with_reducible refine Kd.C_drew ?_))); (case side2 => exact (Kd.R_reads' HO588.out).2.1); rintro e w39 ⟨rfl, hb⟩; refine ⟨_, rfl, ?_⟩; have n0_ := Aside0.mk (Kd.R_below (by (with_reducible repeat (first | apply Kd.R_alloc | apply Kd.R_drewN | apply Kd.R_drew)); exact HO588.out) hb); have n1_ := Aside0.mk (below_step (by repeat (first | (with_reducible first | exact HB.out | apply lA | apply lN | apply lD) | exact HB.out)) hb); clear HO588; clear HB; have HO588 := n0_; have HB := n1_; clear n0_ n1_; (try clear hb); (try clear hb2); (try clear hk); (try clear hi)) | ((with_reducible refine gate_callee (f := 33) rfl ?_); refine goesL_ (some 21) rfl rfl Try.func33 (by kernel_rfl) rfl #[.slice Ao37 t586.length co37] rfl (by (try simp only [List.map_toArray, List.map_cons, List.map_nil]); first | done | rfl | (simp only [List.length_drop, List.length_take]; rfl)) ?_; (with_reducible refine (silversideref01_Set.calls k _ _ t586 false _ ?side1 ?side2 A5.out).mono ?_); (case side1 => repeat (first | exact (Kd.R_reads' HO588.out).2.2 | (with_reducible refine Kd.C_alloc ?_ _) | (with_reducible refine Kd.C_drewN ?_ _) | (with_reducible refine Kd.C_drew ?_))); (case side2 => exact (Kd.R_reads' HO588.out).2.1); rintro e w40 ⟨rfl, hb⟩; refine ⟨_, rfl, ?_⟩; have n0_ := Aside0.mk (Kd.R_below (by (with_reducible repeat (first | apply Kd.R_alloc | apply Kd.R_drewN | apply Kd.R_drew)); exact HO588.out) hb); have n1_ := Aside0.mk (below_step (by repeat (first | (with_reducible first | exact HB.out | apply lA | apply lN | apply lD) | exact HB.out)) hb); clear HO588; clear HB; have HO588 := n0_; have HB := n1_; clear n0_ n1_; (try clear hb); (try clear hb2); (try clear hk); (try clear hi)) | (go_at_call 23; (with_reducible refine (silversidelaw01_awake.calls k  t594 _ A35.out).mono ?_); rintro e w41 ⟨rfl, hb⟩; have n0_ := Aside0.mk (Kd.R_below (by (with_reducible repeat (first | apply Kd.R_alloc | apply Kd.R_drewN | apply Kd.R_drew)); exact HO588.out) hb); have n1_ := Aside0.mk (below_step (by repeat (first | (with_reducible first | exact HB.out | apply lA | apply lN | apply lD) | exact HB.out)) hb); clear HO588; clear HB; have HO588 := n0_; have HB := n1_; clear n0_ n1_; (try clear hb); (try clear hb2); (try clear hk); (try clear hi)))
     go_ret
     exact ⟨by first | rfl | (simp [errW_none, errW_some] <;> rfl) | (simp [*, errW_none, errW_some] <;> rfl), by repeat (first | (with_reducible first | exact HB.out | apply lA | apply lN | apply lD) | exact HB.out)⟩
    rw [if_neg c34] at H
    have c34b0 : (t592 == 2) = false := beq_eq_false_iff_ne.mpr c34
    have c34b1 : (t592 != 2) = true := bne_iff_ne.mpr c34
    obtain rfl := Option.some.inj H
    go_enter Try.func15, Try.ntmps15
    go_wp2_with (first | ((with_reducible refine gate_callee (f := 20) rfl ?_); refine goesL_ (some 9) rfl rfl Try.func20 (by kernel_rfl) rfl #[.slice A0 l0.length c0, .int .i64 120] rfl (by (try simp only [List.map_toArray, List.map_cons, List.map_nil]); first | done | rfl | (simp only [List.length_drop, List.length_take]; rfl)) ?_; (with_reducible refine (silversidelaw01_some.calls _ _ l0 120 t586 _ ?side1 ?side2 A2.out).mono ?_); (case side1 => repeat (first | exact HR0.out | (with_reducible refine Kd.C_alloc ?_ _) | (with_reducible refine Kd.C_drewN ?_ _) | (with_reducible refine Kd.C_drew ?_))); (case side2 => exact HC0.out); rintro e w42 ⟨v587, rfl, ho0, hb⟩; refine ⟨_, rfl, ?_⟩; have n0_ := Aside0.mk (Kd.R_lower ho0 (below_size (by repeat (first | (with_reducible first | exact HB.out | apply lA | apply lN | apply lD) | exact HB.out)))); have n1_ := Aside0.mk (below_step (by repeat (first | (with_reducible first | exact HB.out | apply lA | apply lN | apply lD) | exact HB.out)) hb); clear HB; have HO588 := n0_; have HB := n1_; clear n0_ n1_; (try clear hb); (try clear hb2); (try clear hk); (try clear hi); (try clear ho0); obtain ⟨Ao43, co43, eo43⟩ := Kd.R_slice HO588.out; subst eo43) | ((with_reducible refine gate_callee (f := 42) rfl ?_); refine goesL_ (some 12) rfl rfl Try.func42 (by kernel_rfl) rfl #[.slice Ao43 t586.length co43] rfl (by (try simp only [List.map_toArray, List.map_cons, List.map_nil]); first | done | rfl | (simp only [List.length_drop, List.length_take]; rfl)) ?_; (with_reducible refine (plane_Widest.calls _ _ t586 t589 t590 _ ?side1 ?side2 A3.out).mono ?_); (case side1 => repeat (first | exact (Kd.R_reads' HO588.out).2.2 | (with_reducible refine Kd.C_alloc ?_ _) | (with_reducible refine Kd.C_drewN ?_ _) | (with_reducible refine Kd.C_drew ?_))); (case side2 => exact (Kd.R_reads' HO588.out).2.1); rintro e w44 ⟨rfl, hb⟩; refine ⟨_, rfl, ?_⟩; have n0_ := Aside0.mk (Kd.R_below (by (with_reducible repeat (first | apply Kd.R_alloc | apply Kd.R_drewN | apply Kd.R_drew)); exact HO588.out) hb); have n1_ := Aside0.mk (below_step (by repeat (first | (with_reducible first | exact HB.out | apply lA | apply lN | apply lD) | exact HB.out)) hb); clear HO588; clear HB; have HO588 := n0_; have HB := n1_; clear n0_ n1_; (try clear hb); (try clear hb2); (try clear hk); (try clear hi)) | ((with_reducible refine gate_callee (f := 45) rfl ?_); refine goesL_ (some 17) rfl rfl Try.func45 (by kernel_rfl) rfl #[.slice Ao43 t586.length co43] rfl (by (try simp only [List.map_toArray, List.map_cons, List.map_nil]); first | done | rfl | (simp only [List.length_drop, List.length_take]; rfl)) ?_; (with_reducible refine (plane_Nearest.calls _ _ t586 t591 t592 _ ?side1 ?side2 A4.out).mono ?_); (case side1 => repeat (first | exact (Kd.R_reads' HO588.out).2.2 | (with_reducible refine Kd.C_alloc ?_ _) | (with_reducible refine Kd.C_drewN ?_ _) | (with_reducible refine Kd.C_drew ?_))); (case side2 => exact (Kd.R_reads' HO588.out).2.1); rintro e w45 ⟨rfl, hb⟩; refine ⟨_, rfl, ?_⟩; have n0_ := Aside0.mk (Kd.R_below (by (with_reducible repeat (first | apply Kd.R_alloc | apply Kd.R_drewN | apply Kd.R_drew)); exact HO588.out) hb); have n1_ := Aside0.mk (below_step (by repeat (first | (with_reducible first | exact HB.out | apply lA | apply lN | apply lD) | exact HB.out)) hb); clear HO588; clear HB; have HO588 := n0_; have HB := n1_; clear n0_ n1_; (try clear hb); (try clear hb2); (try clear hk); (try clear hi)) | ((with_reducible refine gate_callee (f := 33) rfl ?_); refine goesL_ (some 21) rfl rfl Try.func33 (by kernel_rfl) rfl #[.slice Ao43 t586.length co43] rfl (by (try simp only [List.map_toArray, List.map_cons, List.map_nil]); first | done | rfl | (simp only [List.length_drop, List.length_take]; rfl)) ?_; (with_reducible refine (silversideref01_Set.calls k _ _ t586 false _ ?side1 ?side2 A5.out).mono ?_); (case side1 => repeat (first | exact (Kd.R_reads' HO588.out).2.2 | (with_reducible refine Kd.C_alloc ?_ _) | (with_reducible refine Kd.C_drewN ?_ _) | (with_reducible refine Kd.C_drew ?_))); (case side2 => exact (Kd.R_reads' HO588.out).2.1); rintro e w46 ⟨rfl, hb⟩; refine ⟨_, rfl, ?_⟩; have n0_ := Aside0.mk (Kd.R_below (by (with_reducible repeat (first | apply Kd.R_alloc | apply Kd.R_drewN | apply Kd.R_drew)); exact HO588.out) hb); have n1_ := Aside0.mk (below_step (by repeat (first | (with_reducible first | exact HB.out | apply lA | apply lN | apply lD) | exact HB.out)) hb); clear HO588; clear HB; have HO588 := n0_; have HB := n1_; clear n0_ n1_; (try clear hb); (try clear hb2); (try clear hk); (try clear hi)))
    go_ret
    exact ⟨by first | rfl | (simp [errW_none, errW_some] <;> rfl) | (simp [*, errW_none, errW_some] <;> rfl), by repeat (first | (with_reducible first | exact HB.out | apply lA | apply lN | apply lD) | exact HB.out)⟩
   rw [if_neg c33] at H
   have c33b0 : (t591 == 0) = false := beq_eq_false_iff_ne.mpr c33
   have c33b1 : (t591 != 0) = true := bne_iff_ne.mpr c33
   obtain rfl := Option.some.inj H
   go_enter Try.func15, Try.ntmps15
   go_wp2_with (first | ((with_reducible refine gate_callee (f := 20) rfl ?_); refine goesL_ (some 9) rfl rfl Try.func20 (by kernel_rfl) rfl #[.slice A0 l0.length c0, .int .i64 120] rfl (by (try simp only [List.map_toArray, List.map_cons, List.map_nil]); first | done | rfl | (simp only [List.length_drop, List.length_take]; rfl)) ?_; (with_reducible refine (silversidelaw01_some.calls _ _ l0 120 t586 _ ?side1 ?side2 A2.out).mono ?_); (case side1 => repeat (first | exact HR0.out | (with_reducible refine Kd.C_alloc ?_ _) | (with_reducible refine Kd.C_drewN ?_ _) | (with_reducible refine Kd.C_drew ?_))); (case side2 => exact HC0.out); rintro e w47 ⟨v587, rfl, ho0, hb⟩; refine ⟨_, rfl, ?_⟩; have n0_ := Aside0.mk (Kd.R_lower ho0 (below_size (by repeat (first | (with_reducible first | exact HB.out | apply lA | apply lN | apply lD) | exact HB.out)))); have n1_ := Aside0.mk (below_step (by repeat (first | (with_reducible first | exact HB.out | apply lA | apply lN | apply lD) | exact HB.out)) hb); clear HB; have HO588 := n0_; have HB := n1_; clear n0_ n1_; (try clear hb); (try clear hb2); (try clear hk); (try clear hi); (try clear ho0); obtain ⟨Ao48, co48, eo48⟩ := Kd.R_slice HO588.out; subst eo48) | ((with_reducible refine gate_callee (f := 42) rfl ?_); refine goesL_ (some 12) rfl rfl Try.func42 (by kernel_rfl) rfl #[.slice Ao48 t586.length co48] rfl (by (try simp only [List.map_toArray, List.map_cons, List.map_nil]); first | done | rfl | (simp only [List.length_drop, List.length_take]; rfl)) ?_; (with_reducible refine (plane_Widest.calls _ _ t586 t589 t590 _ ?side1 ?side2 A3.out).mono ?_); (case side1 => repeat (first | exact (Kd.R_reads' HO588.out).2.2 | (with_reducible refine Kd.C_alloc ?_ _) | (with_reducible refine Kd.C_drewN ?_ _) | (with_reducible refine Kd.C_drew ?_))); (case side2 => exact (Kd.R_reads' HO588.out).2.1); rintro e w49 ⟨rfl, hb⟩; refine ⟨_, rfl, ?_⟩; have n0_ := Aside0.mk (Kd.R_below (by (with_reducible repeat (first | apply Kd.R_alloc | apply Kd.R_drewN | apply Kd.R_drew)); exact HO588.out) hb); have n1_ := Aside0.mk (below_step (by repeat (first | (with_reducible first | exact HB.out | apply lA | apply lN | apply lD) | exact HB.out)) hb); clear HO588; clear HB; have HO588 := n0_; have HB := n1_; clear n0_ n1_; (try clear hb); (try clear hb2); (try clear hk); (try clear hi)) | ((with_reducible refine gate_callee (f := 45) rfl ?_); refine goesL_ (some 17) rfl rfl Try.func45 (by kernel_rfl) rfl #[.slice Ao48 t586.length co48] rfl (by (try simp only [List.map_toArray, List.map_cons, List.map_nil]); first | done | rfl | (simp only [List.length_drop, List.length_take]; rfl)) ?_; (with_reducible refine (plane_Nearest.calls _ _ t586 t591 t592 _ ?side1 ?side2 A4.out).mono ?_); (case side1 => repeat (first | exact (Kd.R_reads' HO588.out).2.2 | (with_reducible refine Kd.C_alloc ?_ _) | (with_reducible refine Kd.C_drewN ?_ _) | (with_reducible refine Kd.C_drew ?_))); (case side2 => exact (Kd.R_reads' HO588.out).2.1); rintro e w50 ⟨rfl, hb⟩; refine ⟨_, rfl, ?_⟩; have n0_ := Aside0.mk (Kd.R_below (by (with_reducible repeat (first | apply Kd.R_alloc | apply Kd.R_drewN | apply Kd.R_drew)); exact HO588.out) hb); have n1_ := Aside0.mk (below_step (by repeat (first | (with_reducible first | exact HB.out | apply lA | apply lN | apply lD) | exact HB.out)) hb); clear HO588; clear HB; have HO588 := n0_; have HB := n1_; clear n0_ n1_; (try clear hb); (try clear hb2); (try clear hk); (try clear hi)) | ((with_reducible refine gate_callee (f := 33) rfl ?_); refine goesL_ (some 21) rfl rfl Try.func33 (by kernel_rfl) rfl #[.slice Ao48 t586.length co48] rfl (by (try simp only [List.map_toArray, List.map_cons, List.map_nil]); first | done | rfl | (simp only [List.length_drop, List.length_take]; rfl)) ?_; (with_reducible refine (silversideref01_Set.calls k _ _ t586 false _ ?side1 ?side2 A5.out).mono ?_); (case side1 => repeat (first | exact (Kd.R_reads' HO588.out).2.2 | (with_reducible refine Kd.C_alloc ?_ _) | (with_reducible refine Kd.C_drewN ?_ _) | (with_reducible refine Kd.C_drew ?_))); (case side2 => exact (Kd.R_reads' HO588.out).2.1); rintro e w51 ⟨rfl, hb⟩; refine ⟨_, rfl, ?_⟩; have n0_ := Aside0.mk (Kd.R_below (by (with_reducible repeat (first | apply Kd.R_alloc | apply Kd.R_drewN | apply Kd.R_drew)); exact HO588.out) hb); have n1_ := Aside0.mk (below_step (by repeat (first | (with_reducible first | exact HB.out | apply lA | apply lN | apply lD) | exact HB.out)) hb); clear HO588; clear HB; have HO588 := n0_; have HB := n1_; clear n0_ n1_; (try clear hb); (try clear hb2); (try clear hk); (try clear hi)))
   go_ret
   exact ⟨by first | rfl | (simp [errW_none, errW_some] <;> rfl) | (simp [*, errW_none, errW_some] <;> rfl), by repeat (first | (with_reducible first | exact HB.out | apply lA | apply lN | apply lD) | exact HB.out)⟩
  rw [if_neg c32] at H
  have c32b0 : (t590 == 2) = false := beq_eq_false_iff_ne.mpr c32
  have c32b1 : (t590 != 2) = true := bne_iff_ne.mpr c32
  obtain rfl := Option.some.inj H
  go_enter Try.func15, Try.ntmps15
  go_wp2_with (first | ((with_reducible refine gate_callee (f := 20) rfl ?_); refine goesL_ (some 9) rfl rfl Try.func20 (by kernel_rfl) rfl #[.slice A0 l0.length c0, .int .i64 120] rfl (by (try simp only [List.map_toArray, List.map_cons, List.map_nil]); first | done | rfl | (simp only [List.length_drop, List.length_take]; rfl)) ?_; (with_reducible refine (silversidelaw01_some.calls _ _ l0 120 t586 _ ?side1 ?side2 A2.out).mono ?_); (case side1 => repeat (first | exact HR0.out | (with_reducible refine Kd.C_alloc ?_ _) | (with_reducible refine Kd.C_drewN ?_ _) | (with_reducible refine Kd.C_drew ?_))); (case side2 => exact HC0.out); rintro e w52 ⟨v587, rfl, ho0, hb⟩; refine ⟨_, rfl, ?_⟩; have n0_ := Aside0.mk (Kd.R_lower ho0 (below_size (by repeat (first | (with_reducible first | exact HB.out | apply lA | apply lN | apply lD) | exact HB.out)))); have n1_ := Aside0.mk (below_step (by repeat (first | (with_reducible first | exact HB.out | apply lA | apply lN | apply lD) | exact HB.out)) hb); clear HB; have HO588 := n0_; have HB := n1_; clear n0_ n1_; (try clear hb); (try clear hb2); (try clear hk); (try clear hi); (try clear ho0); obtain ⟨Ao53, co53, eo53⟩ := Kd.R_slice HO588.out; subst eo53) | ((with_reducible refine gate_callee (f := 42) rfl ?_); refine goesL_ (some 12) rfl rfl Try.func42 (by kernel_rfl) rfl #[.slice Ao53 t586.length co53] rfl (by (try simp only [List.map_toArray, List.map_cons, List.map_nil]); first | done | rfl | (simp only [List.length_drop, List.length_take]; rfl)) ?_; (with_reducible refine (plane_Widest.calls _ _ t586 t589 t590 _ ?side1 ?side2 A3.out).mono ?_); (case side1 => repeat (first | exact (Kd.R_reads' HO588.out).2.2 | (with_reducible refine Kd.C_alloc ?_ _) | (with_reducible refine Kd.C_drewN ?_ _) | (with_reducible refine Kd.C_drew ?_))); (case side2 => exact (Kd.R_reads' HO588.out).2.1); rintro e w54 ⟨rfl, hb⟩; refine ⟨_, rfl, ?_⟩; have n0_ := Aside0.mk (Kd.R_below (by (with_reducible repeat (first | apply Kd.R_alloc | apply Kd.R_drewN | apply Kd.R_drew)); exact HO588.out) hb); have n1_ := Aside0.mk (below_step (by repeat (first | (with_reducible first | exact HB.out | apply lA | apply lN | apply lD) | exact HB.out)) hb); clear HO588; clear HB; have HO588 := n0_; have HB := n1_; clear n0_ n1_; (try clear hb); (try clear hb2); (try clear hk); (try clear hi)) | ((with_reducible refine gate_callee (f := 45) rfl ?_); refine goesL_ (some 17) rfl rfl Try.func45 (by kernel_rfl) rfl #[.slice Ao53 t586.length co53] rfl (by (try simp only [List.map_toArray, List.map_cons, List.map_nil]); first | done | rfl | (simp only [List.length_drop, List.length_take]; rfl)) ?_; (with_reducible refine (plane_Nearest.calls _ _ t586 t591 t592 _ ?side1 ?side2 A4.out).mono ?_); (case side1 => repeat (first | exact (Kd.R_reads' HO588.out).2.2 | (with_reducible refine Kd.C_alloc ?_ _) | (with_reducible refine Kd.C_drewN ?_ _) | (with_reducible refine Kd.C_drew ?_))); (case side2 => exact (Kd.R_reads' HO588.out).2.1); rintro e w55 ⟨rfl, hb⟩; refine ⟨_, rfl, ?_⟩; have n0_ := Aside0.mk (Kd.R_below (by (with_reducible repeat (first | apply Kd.R_alloc | apply Kd.R_drewN | apply Kd.R_drew)); exact HO588.out) hb); have n1_ := Aside0.mk (below_step (by repeat (first | (with_reducible first | exact HB.out | apply lA | apply lN | apply lD) | exact HB.out)) hb); clear HO588; clear HB; have HO588 := n0_; have HB := n1_; clear n0_ n1_; (try clear hb); (try clear hb2); (try clear hk); (try clear hi)) | ((with_reducible refine gate_callee (f := 33) rfl ?_); refine goesL_ (some 21) rfl rfl Try.func33 (by kernel_rfl) rfl #[.slice Ao53 t586.length co53] rfl (by (try simp only [List.map_toArray, List.map_cons, List.map_nil]); first | done | rfl | (simp only [List.length_drop, List.length_take]; rfl)) ?_; (with_reducible refine (silversideref01_Set.calls k _ _ t586 false _ ?side1 ?side2 A5.out).mono ?_); (case side1 => repeat (first | exact (Kd.R_reads' HO588.out).2.2 | (with_reducible refine Kd.C_alloc ?_ _) | (with_reducible refine Kd.C_drewN ?_ _) | (with_reducible refine Kd.C_drew ?_))); (case side2 => exact (Kd.R_reads' HO588.out).2.1); rintro e w56 ⟨rfl, hb⟩; refine ⟨_, rfl, ?_⟩; have n0_ := Aside0.mk (Kd.R_below (by (with_reducible repeat (first | apply Kd.R_alloc | apply Kd.R_drewN | apply Kd.R_drew)); exact HO588.out) hb); have n1_ := Aside0.mk (below_step (by repeat (first | (with_reducible first | exact HB.out | apply lA | apply lN | apply lD) | exact HB.out)) hb); clear HO588; clear HB; have HO588 := n0_; have HB := n1_; clear n0_ n1_; (try clear hb); (try clear hb2); (try clear hk); (try clear hi)))
  go_ret
  exact ⟨by first | rfl | (simp [errW_none, errW_some] <;> rfl) | (simp [*, errW_none, errW_some] <;> rfl), by repeat (first | (with_reducible first | exact HB.out | apply lA | apply lN | apply lD) | exact HB.out)⟩
 rw [if_neg c31] at H
 have c31b0 : (t589 == 0) = false := beq_eq_false_iff_ne.mpr c31
 have c31b1 : (t589 != 0) = true := bne_iff_ne.mpr c31
 obtain rfl := Option.some.inj H
 go_enter Try.func15, Try.ntmps15
 go_wp2_with (first | ((with_reducible refine gate_callee (f := 20) rfl ?_); refine goesL_ (some 9) rfl rfl Try.func20 (by kernel_rfl) rfl #[.slice A0 l0.length c0, .int .i64 120] rfl (by (try simp only [List.map_toArray, List.map_cons, List.map_nil]); first | done | rfl | (simp only [List.length_drop, List.length_take]; rfl)) ?_; (with_reducible refine (silversidelaw01_some.calls _ _ l0 120 t586 _ ?side1 ?side2 A2.out).mono ?_); (case side1 => repeat (first | exact HR0.out | (with_reducible refine Kd.C_alloc ?_ _) | (with_reducible refine Kd.C_drewN ?_ _) | (with_reducible refine Kd.C_drew ?_))); (case side2 => exact HC0.out); rintro e w57 ⟨v587, rfl, ho0, hb⟩; refine ⟨_, rfl, ?_⟩; have n0_ := Aside0.mk (Kd.R_lower ho0 (below_size (by repeat (first | (with_reducible first | exact HB.out | apply lA | apply lN | apply lD) | exact HB.out)))); have n1_ := Aside0.mk (below_step (by repeat (first | (with_reducible first | exact HB.out | apply lA | apply lN | apply lD) | exact HB.out)) hb); clear HB; have HO588 := n0_; have HB := n1_; clear n0_ n1_; (try clear hb); (try clear hb2); (try clear hk); (try clear hi); (try clear ho0); obtain ⟨Ao58, co58, eo58⟩ := Kd.R_slice HO588.out; subst eo58) | ((with_reducible refine gate_callee (f := 42) rfl ?_); refine goesL_ (some 12) rfl rfl Try.func42 (by kernel_rfl) rfl #[.slice Ao58 t586.length co58] rfl (by (try simp only [List.map_toArray, List.map_cons, List.map_nil]); first | done | rfl | (simp only [List.length_drop, List.length_take]; rfl)) ?_; (with_reducible refine (plane_Widest.calls _ _ t586 t589 t590 _ ?side1 ?side2 A3.out).mono ?_); (case side1 => repeat (first | exact (Kd.R_reads' HO588.out).2.2 | (with_reducible refine Kd.C_alloc ?_ _) | (with_reducible refine Kd.C_drewN ?_ _) | (with_reducible refine Kd.C_drew ?_))); (case side2 => exact (Kd.R_reads' HO588.out).2.1); rintro e w59 ⟨rfl, hb⟩; refine ⟨_, rfl, ?_⟩; have n0_ := Aside0.mk (Kd.R_below (by (with_reducible repeat (first | apply Kd.R_alloc | apply Kd.R_drewN | apply Kd.R_drew)); exact HO588.out) hb); have n1_ := Aside0.mk (below_step (by repeat (first | (with_reducible first | exact HB.out | apply lA | apply lN | apply lD) | exact HB.out)) hb); clear HO588; clear HB; have HO588 := n0_; have HB := n1_; clear n0_ n1_; (try clear hb); (try clear hb2); (try clear hk); (try clear hi)) | ((with_reducible refine gate_callee (f := 45) rfl ?_); refine goesL_ (some 17) rfl rfl Try.func45 (by kernel_rfl) rfl #[.slice Ao58 t586.length co58] rfl (by (try simp only [List.map_toArray, List.map_cons, List.map_nil]); first | done | rfl | (simp only [List.length_drop, List.length_take]; rfl)) ?_; (with_reducible refine (plane_Nearest.calls _ _ t586 t591 t592 _ ?side1 ?side2 A4.out).mono ?_); (case side1 => repeat (first | exact (Kd.R_reads' HO588.out).2.2 | (with_reducible refine Kd.C_alloc ?_ _) | (with_reducible refine Kd.C_drewN ?_ _) | (with_reducible refine Kd.C_drew ?_))); (case side2 => exact (Kd.R_reads' HO588.out).2.1); rintro e w60 ⟨rfl, hb⟩; refine ⟨_, rfl, ?_⟩; have n0_ := Aside0.mk (Kd.R_below (by (with_reducible repeat (first | apply Kd.R_alloc | apply Kd.R_drewN | apply Kd.R_drew)); exact HO588.out) hb); have n1_ := Aside0.mk (below_step (by repeat (first | (with_reducible first | exact HB.out | apply lA | apply lN | apply lD) | exact HB.out)) hb); clear HO588; clear HB; have HO588 := n0_; have HB := n1_; clear n0_ n1_; (try clear hb); (try clear hb2); (try clear hk); (try clear hi)) | ((with_reducible refine gate_callee (f := 33) rfl ?_); refine goesL_ (some 21) rfl rfl Try.func33 (by kernel_rfl) rfl #[.slice Ao58 t586.length co58] rfl (by (try simp only [List.map_toArray, List.map_cons, List.map_nil]); first | done | rfl | (simp only [List.length_drop, List.length_take]; rfl)) ?_; (with_reducible refine (silversideref01_Set.calls k _ _ t586 false _ ?side1 ?side2 A5.out).mono ?_); (case side1 => repeat (first | exact (Kd.R_reads' HO588.out).2.2 | (with_reducible refine Kd.C_alloc ?_ _) | (with_reducible refine Kd.C_drewN ?_ _) | (with_reducible refine Kd.C_drew ?_))); (case side2 => exact (Kd.R_reads' HO588.out).2.1); rintro e w61 ⟨rfl, hb⟩; refine ⟨_, rfl, ?_⟩; have n0_ := Aside0.mk (Kd.R_below (by (with_reducible repeat (first | apply Kd.R_alloc | apply Kd.R_drewN | apply Kd.R_drew)); exact HO588.out) hb); have n1_ := Aside0.mk (below_step (by repeat (first | (with_reducible first | exact HB.out | apply lA | apply lN | apply lD) | exact HB.out)) hb); clear HO588; clear HB; have HO588 := n0_; have HB := n1_; clear n0_ n1_; (try clear hb); (try clear hb2); (try clear hk); (try clear hi)))
 go_ret
 exact ⟨by first | rfl | (simp [errW_none, errW_some] <;> rfl) | (simp [*, errW_none, errW_some] <;> rfl), by repeat (first | (with_reducible first | exact HB.out | apply lA | apply lN | apply lD) | exact HB.out)⟩

end Go.Proofs.Ythaklbjcjoolcaa.P
namespace Go.Proofs.Ythaklbjcjoolcaa.P
open Go.RowKit Go.Proofs.YthaklbjcjoolcaaW.PrintWords Go.Proofs.YthaklbjcjoolcaaW.PrintLast Go.Proofs.YthaklbjcjoolcaaW.PrintMore
set_option linter.unusedVariables false
set_option linter.unusedSimpArgs false
theorem sqd_comm (a b : S31) : sqd a b = sqd b a := by unfold sqd; grind
theorem sqd_self (a : S31) : sqd a a = 0 := by unfold sqd; grind
theorem mx_or (a b : Int) : mx a b = a ∧ b ≤ a ∨ mx a b = b ∧ a ≤ b := by unfold mx; split <;> omega
/-! the greatest distance -/
theorem widR_le (l : List S31) (i : Nat) (m : Int) : ∀ j, m ≤ widR l i j m
  | 0 => Int.le_refl _
  | j + 1 => by
    have := widR_le l i m j
    show m ≤ mx (widR l i j m) (sqd (pt l i) (pt l j))
    rcases mx_or (widR l i j m) (sqd (pt l i) (pt l j)) with h | h <;> omega
theorem widR_ge (l : List S31) (i : Nat) (m : Int) : ∀ j b, b < j → sqd (pt l i) (pt l b) ≤ widR l i j m
  | 0, b, h => by omega
  | j + 1, b, h => by
    show _ ≤ mx (widR l i j m) (sqd (pt l i) (pt l j))
    rcases Nat.lt_or_ge b j with h1 | h1
    · have := widR_ge l i m j b h1
      rcases mx_or (widR l i j m) (sqd (pt l i) (pt l j)) with h | h <;> omega
    · obtain rfl : b = j := by omega
      rcases mx_or (widR l i b m) (sqd (pt l i) (pt l b)) with h | h <;> omega
theorem widR_at (l : List S31) (i : Nat) (m : Int) : ∀ j, widR l i j m = m ∨ ∃ b, b < j ∧ widR l i j m = sqd (pt l i) (pt l b)
  | 0 => Or.inl rfl
  | j + 1 => by
    show mx (widR l i j m) (sqd (pt l i) (pt l j)) = m ∨ ∃ b, b < j + 1 ∧ mx (widR l i j m) (sqd (pt l i) (pt l j)) = sqd (pt l i) (pt l b)
    rcases mx_or (widR l i j m) (sqd (pt l i) (pt l j)) with ⟨h, _⟩ | ⟨h, _⟩
    · rw [h]
      rcases widR_at l i m j with h1 | ⟨b, hb, h1⟩
      · exact Or.inl h1
      · exact Or.inr ⟨b, by omega, h1⟩
    · rw [h]; exact Or.inr ⟨j, by omega, rfl⟩
theorem widA_nn (l : List S31) : ∀ n, 0 ≤ widA l n
  | 0 => Int.le_refl _
  | n + 1 => by have := widA_nn l n; have := widR_le l n (widA l n) n; show 0 ≤ widR l n n (widA l n); omega
theorem widA_ge (l : List S31) : ∀ n a b, b < a → a < n → sqd (pt l a) (pt l b) ≤ widA l n
  | 0, a, b, _, h => by omega
  | n + 1, a, b, h1, h2 => by
    show _ ≤ widR l n n (widA l n)
    rcases Nat.lt_or_ge a n with h3 | h3
    · have := widA_ge l n a b h1 h3; have := widR_le l n (widA l n) n; omega
    · obtain rfl : a = n := by omega
      exact widR_ge l a _ a b h1
theorem widA_at (l : List S31) : ∀ n, widA l n = 0 ∨ ∃ a b, b < a ∧ a < n ∧ widA l n = sqd (pt l a) (pt l b)
  | 0 => Or.inl rfl
  | n + 1 => by
    show widR l n n (widA l n) = 0 ∨ ∃ a b, b < a ∧ a < n + 1 ∧ widR l n n (widA l n) = sqd (pt l a) (pt l b)
    rcases widR_at l n (widA l n) n with h | ⟨b, hb, h⟩
    · rw [h]
      rcases widA_at l n with h1 | ⟨a, b, h1, h2, h3⟩
      · exact Or.inl h1
      · exact Or.inr ⟨a, b, h1, by omega, h3⟩
    · exact Or.inr ⟨n, b, hb, by omega, h⟩
theorem widA_mem (l : List S31) {p q : S31} (hp : p ∈ l) (hq : q ∈ l) : sqd p q ≤ widA l l.length := by
  obtain ⟨a, ha, rfl⟩ := mem_pt hp
  obtain ⟨b, hb, rfl⟩ := mem_pt hq
  rcases Nat.lt_trichotomy a b with h | h | h
  · rw [sqd_comm]; exact widA_ge l _ b a h hb
  · subst h; rw [sqd_self]; exact widA_nn l _
  · exact widA_ge l _ a b h ha
theorem sqd_far {p q c : S31} (h : lin (p.f0 - q.f0) (p.f1 - q.f1) p ≤ lin (p.f0 - q.f0) (p.f1 - q.f1) c) : sqd p q ≤ sqd c q := by
  have h1 := sqd_nn c p
  have e : sqd c q = sqd c p + 2 * (lin (p.f0 - q.f0) (p.f1 - q.f1) c - lin (p.f0 - q.f0) (p.f1 - q.f1) p) + sqd p q := by unfold sqd lin; grind
  omega
/-- the corners tell the greatest distance -/
theorem wide_corners {l : List S31} (h : 0 < l.length) : widA (cornersS l) (cornersS l).length = widA l l.length := by
  have hH := corners_hull l h
  have hmem : ∀ p ∈ cornersS l, p ∈ l := fun p hp => by obtain ⟨i, hi, rfl⟩ := mem_pt hp; exact hH.mem i hi
  have a1 : widA (cornersS l) (cornersS l).length ≤ widA l l.length := by
    rcases widA_at (cornersS l) (cornersS l).length with h1 | ⟨a, b, h1, h2, h3⟩
    · rw [h1]; exact widA_nn l _
    · rw [h3]; exact widA_mem l (hmem _ (pt_mem _ a h2)) (hmem _ (pt_mem _ b (by omega)))
  have a2 : widA l l.length ≤ widA (cornersS l) (cornersS l).length := by
    rcases widA_at l l.length with h1 | ⟨a, b, h1, h2, h3⟩
    · rw [h1]; exact widA_nn _ _
    · rw [h3]
      obtain ⟨i, hi, hm⟩ := hull_max hH ((pt l a).f0 - (pt l b).f0) ((pt l a).f1 - (pt l b).f1)
      have s1 := sqd_far (hm _ (pt_mem l a h2))
      obtain ⟨j, hj, hm2⟩ := hull_max hH ((pt l b).f0 - (pt (cornersS l) i).f0) ((pt l b).f1 - (pt (cornersS l) i).f1)
      have s2 := sqd_far (hm2 _ (pt_mem l b (by omega)))
      have s3 := widA_mem (cornersS l) (pt_mem _ j hj) (pt_mem _ i hi)
      have := sqd_comm (pt (cornersS l) i) (pt l b)
      omega
  omega
/-! the least distance -/
/-- the least square of a distance from one point to those ahead of it, in order -/
def mnR (l : List S31) (i : Nat) : Nat → Int → Int
  | 0, m => m
  | j + 1, m => mn (mnR l i j m) (sqd (pt l i) (pt l j))
def rnA (l : List S31) : Nat → Int → Int
  | 0, m => m
  | i + 1, m => mnR l i i (rnA l i m)
/-- a number is no greater than any distance, and one of them -/
structure Least (l : List S31) (m : Int) : Prop where
  le : ∀ a b, b < a → a < l.length → m ≤ sqd (pt l a) (pt l b)
  at_ : ∃ a b, b < a ∧ a < l.length ∧ m = sqd (pt l a) (pt l b)
theorem mnR_le (l : List S31) (i : Nat) (m : Int) : ∀ j, mnR l i j m ≤ m
  | 0 => Int.le_refl _
  | j + 1 => by
    have := mnR_le l i m j
    show mn (mnR l i j m) (sqd (pt l i) (pt l j)) ≤ m
    rcases mn_or (mnR l i j m) (sqd (pt l i) (pt l j)) with h | h <;> omega
theorem mnR_ge (l : List S31) (i : Nat) (m : Int) : ∀ j b, b < j → mnR l i j m ≤ sqd (pt l i) (pt l b)
  | 0, b, h => by omega
  | j + 1, b, h => by
    show mn (mnR l i j m) (sqd (pt l i) (pt l j)) ≤ _
    rcases Nat.lt_or_ge b j with h1 | h1
    · have := mnR_ge l i m j b h1
      rcases mn_or (mnR l i j m) (sqd (pt l i) (pt l j)) with h | h <;> omega
    · obtain rfl : b = j := by omega
      rcases mn_or (mnR l i b m) (sqd (pt l i) (pt l b)) with h | h <;> omega
theorem mnR_at (l : List S31) (i : Nat) (m : Int) : ∀ j, mnR l i j m = m ∨ ∃ b, b < j ∧ mnR l i j m = sqd (pt l i) (pt l b)
  | 0 => Or.inl rfl
  | j + 1 => by
    show mn (mnR l i j m) (sqd (pt l i) (pt l j)) = m ∨ ∃ b, b < j + 1 ∧ mn (mnR l i j m) (sqd (pt l i) (pt l j)) = sqd (pt l i) (pt l b)
    rcases mn_or (mnR l i j m) (sqd (pt l i) (pt l j)) with ⟨h, _⟩ | ⟨h, _⟩
    · rw [h]
      rcases mnR_at l i m j with h1 | ⟨b, hb, h1⟩
      · exact Or.inl h1
      · exact Or.inr ⟨b, by omega, h1⟩
    · rw [h]; exact Or.inr ⟨j, by omega, rfl⟩
theorem mnD_ge (l : List S31) (i : Nat) (m : Int) : ∀ c e, e < c → mnD l i c m ≤ sqd (pt l i) (pt l (i - 1 - e))
  | 0, e, h => by omega
  | c + 1, e, h => by
    show mn (mnD l i c m) (sqd (pt l i) (pt l (i - 1 - c))) ≤ _
    rcases Nat.lt_or_ge e c with h1 | h1
    · have := mnD_ge l i m c e h1
      rcases mn_or (mnD l i c m) (sqd (pt l i) (pt l (i - 1 - c))) with h | h <;> omega
    · obtain rfl : e = c := by omega
      rcases mn_or (mnD l i e m) (sqd (pt l i) (pt l (i - 1 - e))) with h | h <;> omega
theorem mnD_at (l : List S31) (i : Nat) (m : Int) : ∀ c, c ≤ i → mnD l i c m = m ∨ ∃ b, b < i ∧ mnD l i c m = sqd (pt l i) (pt l b)
  | 0, _ => Or.inl rfl
  | c + 1, hc => by
    show mn (mnD l i c m) (sqd (pt l i) (pt l (i - 1 - c))) = m ∨ ∃ b, b < i ∧ mn (mnD l i c m) (sqd (pt l i) (pt l (i - 1 - c))) = sqd (pt l i) (pt l b)
    rcases mn_or (mnD l i c m) (sqd (pt l i) (pt l (i - 1 - c))) with ⟨h, _⟩ | ⟨h, _⟩
    · rw [h]; exact mnD_at l i m c (by omega)
    · rw [h]; exact Or.inr ⟨i - 1 - c, by omega, rfl⟩
theorem rnA_le (l : List S31) (m : Int) : ∀ n a b, b < a → a < n → rnA l n m ≤ sqd (pt l a) (pt l b)
  | 0, a, b, _, h => by omega
  | n + 1, a, b, h1, h2 => by
    show mnR l n n (rnA l n m) ≤ _
    rcases Nat.lt_or_ge a n with h3 | h3
    · have := rnA_le l m n a b h1 h3; have := mnR_le l n (rnA l n m) n; omega
    · obtain rfl : a = n := by omega
      exact mnR_ge l a _ a b h1
theorem rnA_at (l : List S31) (m : Int) : ∀ n, rnA l n m = m ∨ ∃ a b, b < a ∧ a < n ∧ rnA l n m = sqd (pt l a) (pt l b)
  | 0 => Or.inl rfl
  | n + 1 => by
    show mnR l n n (rnA l n m) = m ∨ ∃ a b, b < a ∧ a < n + 1 ∧ mnR l n n (rnA l n m) = sqd (pt l a) (pt l b)
    rcases mnR_at l n (rnA l n m) n with h | ⟨b, hb, h⟩
    · rw [h]
      rcases rnA_at l m n with h1 | ⟨a, b, h1, h2, h3⟩
      · exact Or.inl h1
      · exact Or.inr ⟨a, b, h1, by omega, h3⟩
    · exact Or.inr ⟨n, b, hb, by omega, h⟩
theorem nrA_ge (l : List S31) (m : Int) : ∀ n a b, b < a → a < n → nrA l n m ≤ sqd (pt l a) (pt l b)
  | 0, a, b, _, h => by omega
  | n + 1, a, b, h1, h2 => by
    show mnD l n n (nrA l n m) ≤ _
    rcases Nat.lt_or_ge a n with h3 | h3
    · have := nrA_ge l m n a b h1 h3; have := mnD_le l n (nrA l n m) n; omega
    · obtain rfl : a = n := by omega
      have := mnD_ge l a (nrA l a m) a (a - 1 - b) (by omega)
      rwa [show a - 1 - (a - 1 - b) = b by omega] at this
theorem nrA_at (l : List S31) (m : Int) : ∀ n, nrA l n m = m ∨ ∃ a b, b < a ∧ a < n ∧ nrA l n m = sqd (pt l a) (pt l b)
  | 0 => Or.inl rfl
  | n + 1 => by
    show mnD l n n (nrA l n m) = m ∨ ∃ a b, b < a ∧ a < n + 1 ∧ mnD l n n (nrA l n m) = sqd (pt l a) (pt l b)
    rcases mnD_at l n (nrA l n m) n (Nat.le_refl _) with h | ⟨b, hb, h⟩
    · rw [h]
      rcases nrA_at l m n with h1 | ⟨a, b, h1, h2, h3⟩
      · exact Or.inl h1
      · exact Or.inr ⟨a, b, h1, by omega, h3⟩
    · exact Or.inr ⟨n, b, hb, by omega, h⟩
theorem rnA_least {l : List S31} (h : 2 ≤ l.length) : Least l (rnA l l.length (sqd (pt l 0) (pt l 1))) := by
  refine ⟨fun a b h1 h2 => rnA_le l _ _ a b h1 h2, ?_⟩
  rcases rnA_at l (sqd (pt l 0) (pt l 1)) l.length with h1 | h1
  · exact ⟨1, 0, by omega, by omega, by rw [h1]; exact sqd_comm _ _⟩
  · exact h1
theorem nrA_least {l : List S31} (h : 2 ≤ l.length) : Least l (nrA l l.length (sqd (pt l 0) (pt l 1))) := by
  refine ⟨fun a b h1 h2 => nrA_ge l _ _ a b h1 h2, ?_⟩
  rcases nrA_at l (sqd (pt l 0) (pt l 1)) l.length with h1 | h1
  · exact ⟨1, 0, by omega, by omega, by rw [h1]; exact sqd_comm _ _⟩
  · exact h1
theorem least_perm {l k : List S31} {m n : Int} (hp : l.Perm k) (h1 : Least l m) (h2 : Least k n) : m ≤ n := by
  have p1 : l.Pairwise (fun x y => m ≤ sqd x y) := by
    rw [List.pairwise_iff_getElem]
    intro i j hi hj hij
    have := h1.le j i hij hj
    rw [pt_eq l j hj, pt_eq l i hi] at this
    rw [sqd_comm]; exact this
  have p2 := (hp.pairwise_iff (fun {x y} (h : m ≤ sqd x y) => by rw [sqd_comm]; exact h)).1 p1
  obtain ⟨a, b, h3, h4, h5⟩ := h2.at_
  rw [h5, pt_eq k a h4, pt_eq k b (by omega), sqd_comm]
  exact List.pairwise_iff_getElem.1 p2 b a (by omega) h4 h3
theorem near_same {l : List S31} (h : 2 ≤ l.length) : nearV l = rnA l l.length (sqd (pt l 0) (pt l 1)) := by
  have hp : (sortP l).Perm l := List.mergeSort_perm _ _
  have h1 := nrA_least (l := sortP l) (by rw [sortP_length]; exact h)
  have h2 := rnA_least h
  have := least_perm hp h1 h2
  have := least_perm hp.symm h2 h1
  unfold nearV; omega
end Go.Proofs.Ythaklbjcjoolcaa.P
namespace Go.Proofs.Ythaklbjcjoolcaa.P
open Go.RowKit Go.Proofs.YthaklbjcjoolcaaW.PrintWords Go.Proofs.YthaklbjcjoolcaaW.PrintLast Go.Proofs.YthaklbjcjoolcaaW.PrintMore
attribute [local go_sem] max2_int min2_int max_two min_two max_three min_three max_four min_four   -- for this text's walks alone
set_option linter.unusedVariables false
set_option linter.unusedSimpArgs false

attribute [local go_sem high] eqA31
/-! ### silversidelaw01_same: function 34 -/
def silversidelaw01_same.l0 : Nat → List (S31) → List (S31) → Int → Option (Bool)
 | 0, _, _, _ => none
 | k + 1, x0, x1, x5 => if x5 < (x0.length : Int) then (if 0 ≤ x5 then (if x5 < (x1.length : Int) then (if (!(((rd_T31 x0 x5).f0) == ((rd_T31 x1 x5).f0)) || (!(((rd_T31 x0 x5).f1) == ((rd_T31 x1 x5).f1)))) = true then (some false) else (silversidelaw01_same.l0 k x0 x1 (wrap64 (x5 + 1)))) else (none)) else (none)) else (some true)
def silversidelaw01_same.f (k : Nat) (l0 : List (S31)) (l1 : List (S31)) : Option (Bool) := if (l0.length : Int) = (l1.length : Int) then (silversidelaw01_same.l0 k l0 l1 0) else (some false)
theorem silversidelaw01_same.mono_l : ∀ k, (∀ y0 y1 y2, LeO (silversidelaw01_same.l0 k y0 y1 y2) (silversidelaw01_same.l0 (k + 1) y0 y1 y2))
 | 0 => fun _ _ _ r h => by simp [silversidelaw01_same.l0] at h
 | k + 1 => by
  have ih0 := silversidelaw01_same.mono_l k
  ·intro y0 y1 y2
   unfold silversidelaw01_same.l0
   repeat' first
   | (with_reducible exact ih0 _ _ _)
   | (with_reducible exact LeO.refl _)
   | (with_reducible exact LeO.none _)
   | (with_reducible refine LeO.ite ?_ ?_)
   | (with_reducible refine LeO.bind ?_ (fun _ => ?_))
   | exact ih0 _ _ _
   | exact LeO.none _
   | refine LeO.ite ?_ ?_
   | refine LeO.bind ?_ (fun _ => ?_)
theorem silversidelaw01_same.mono : ∀ a0 a1 k, LeO (silversidelaw01_same.f k a0 a1) (silversidelaw01_same.f (k + 1) a0 a1) := by
 intro a0 a1 k
 have ih0 := silversidelaw01_same.mono_l k
 unfold silversidelaw01_same.f
 repeat' first
   | (with_reducible exact ih0 _ _ _)
   | (with_reducible exact LeO.refl _)
   | (with_reducible exact LeO.none _)
   | (with_reducible refine LeO.ite ?_ ?_)
   | (with_reducible refine LeO.bind ?_ (fun _ => ?_))
   | exact ih0 _ _ _
   | exact LeO.none _
   | refine LeO.ite ?_ ?_
   | refine LeO.bind ?_ (fun _ => ?_)
set_option maxHeartbeats 8000000 in
set_option maxRecDepth 100000 in
theorem silversidelaw01_same.calls (k : Nat) (A0 : Option Addr) (c0 : Nat) (l0 : List (S31)) (A1 : Option Addr) (c1 : Nat) (l1 : List (S31)) (r : Bool) (w : World) (hr0 : Kd.C k31 w A0 l0.length l0) (hc0 : l0.length ≤ c0) (hr1 : Kd.C k31 w A1 l1.length l1) (hc1 : l1.length ≤ c1) (h : silversidelaw01_same.f k l0 l1 = some r) :
  Calls Try.prog 34 #[.slice A0 l0.length c0, .slice A1 l1.length c1] w fun e w' => e = .returned (.bool r) ∧ Drawn0 w w' := by
 have hu31 := Try.underlying31
 have HR0 := Aside0.mk hr0
 have HC0 := Aside0.mk hc0
 clear hr0 hc0
 have HR1 := Aside0.mk hr1
 have HC1 := Aside0.mk hc1
 clear hr1 hc1
 have H : (if (l0.length : Int) = (l1.length : Int) then (silversidelaw01_same.l0 k l0 l1 0) else (some false)) = some r := h
 clear h
 by_cases c3 : (l0.length : Int) = (l1.length : Int)
 ·rw [if_pos c3] at H
  have c3b0 : ((l0.length : Int) == (l1.length : Int)) = true := beq_iff_eq.mpr c3
  have c3b1 : ((l0.length : Int) != (l1.length : Int)) = false := bne_eq_false_iff_eq.mpr c3
  have c3b2 : (l0.length == l1.length) = true := by first | simpa using c3 | (simp at c3 ⊢; omega)
  clear c3
  have H' := Aside0.mk H
  clear H
  go_enter Try.func34, Try.ntmps34
  go_wp2
  repeat (go_quiet (fail); try go_wp2)
  go_loopg [5] k (fun kq v5 w' => ∃ (x5_1 : Int), v5 = .int .i64 x5_1 ∧ Aside0 (silversidelaw01_same.l0 kq l0 l1 x5_1 = some r) ∧ Aside0 (kq ≤ k) ∧ Drawn0 w w')
  case atStart => exact ⟨(0), (by first | rfl | (simp; done) | (simp [*]; done)), H', ⟨Nat.le_refl _⟩, by repeat (first | exact Drawn0.refl _ | apply Drawn0.step)⟩
  case round =>
   clear H'
   try clear c1
   try clear p2
   try clear c3
   try clear c3b0
   try clear c3b1
   try clear c3b2
   obtain ⟨x5_1, rfl, HA, HK1, ⟨m1, rfl⟩⟩ := hrel
   cases gk with
   | zero => exact absurd HA.out (by simp [silversidelaw01_same.l0])
   | succ k1 =>
    have H := HA.out
    clear HA
    simp only [silversidelaw01_same.l0] at H
    by_cases c4 : x5_1 < (l0.length : Int)
    ·rw [if_pos c4] at H
     have c4b0 : decide (x5_1 < (l0.length : Int)) = true := decide_eq_true c4
     clear c4
     by_cases c5 : 0 ≤ x5_1
     ·rw [if_pos c5] at H
      have c5b0 : decide (0 ≤ x5_1) = true := decide_eq_true c5
      clear c5
      by_cases c6 : x5_1 < (l1.length : Int)
      ·rw [if_pos c6] at H
       have c6b0 : decide (x5_1 < (l1.length : Int)) = true := decide_eq_true c6
       clear c6
       by_cases c7 : (!(((rd_T31 l0 x5_1).f0) == ((rd_T31 l1 x5_1).f0)) || (!(((rd_T31 l0 x5_1).f1) == ((rd_T31 l1 x5_1).f1)))) = true
       ·rw [if_pos c7] at H
        have c7b0 : (!(((rd_T31 l0 x5_1).f0) == ((rd_T31 l1 x5_1).f0)) || (!(((rd_T31 l0 x5_1).f1) == ((rd_T31 l1 x5_1).f1)))) = true := c7
        clear c7
        obtain rfl := Option.some.inj H
        have p316 : 0 ≤ (x5_1 : Int) := of_decide_eq_true (by first | (with_reducible assumption) | assumption)
        have q316 : x5_1 < (l0.length : Int) := of_decide_eq_true (by first | (with_reducible assumption) | assumption)
        obtain ⟨ad316, e316, hx316_0, hx316_1⟩ := at_T31 HR0.out x5_1 p316 q316
        cases e316
        replace p316 := eq_true p316
        replace q316 := eq_true q316
        have p317 : 0 ≤ (x5_1 : Int) := of_decide_eq_true (by first | (with_reducible assumption) | assumption)
        have q317 : x5_1 < (l1.length : Int) := of_decide_eq_true (by first | (with_reducible assumption) | assumption)
        obtain ⟨ad317, e317, hx317_0, hx317_1⟩ := at_T31 HR1.out x5_1 p317 q317
        cases e317
        replace p317 := eq_true p317
        replace q317 := eq_true q317
        go_wp2
        repeat (go_quiet (fail); try go_wp2)
        go_ret
        exact ⟨by first | rfl | (simp; done) | (simp [*]; done), by repeat (first | exact Drawn0.refl _ | apply Drawn0.step)⟩
       ·rw [if_neg c7] at H
        have c7b0 : (!(((rd_T31 l0 x5_1).f0) == ((rd_T31 l1 x5_1).f0)) || (!(((rd_T31 l0 x5_1).f1) == ((rd_T31 l1 x5_1).f1)))) = false := by simpa using c7
        clear c7
        have H' := Aside0.mk H
        clear H
        have p316 : 0 ≤ (x5_1 : Int) := of_decide_eq_true (by first | (with_reducible assumption) | assumption)
        have q316 : x5_1 < (l0.length : Int) := of_decide_eq_true (by first | (with_reducible assumption) | assumption)
        obtain ⟨ad316, e316, hx316_0, hx316_1⟩ := at_T31 HR0.out x5_1 p316 q316
        cases e316
        replace p316 := eq_true p316
        replace q316 := eq_true q316
        have p317 : 0 ≤ (x5_1 : Int) := of_decide_eq_true (by first | (with_reducible assumption) | assumption)
        have q317 : x5_1 < (l1.length : Int) := of_decide_eq_true (by first | (with_reducible assumption) | assumption)
        obtain ⟨ad317, e317, hx317_0, hx317_1⟩ := at_T31 HR1.out x5_1 p317 q317
        cases e317
        replace p317 := eq_true p317
        replace q317 := eq_true q317
        go_wp2
        repeat (go_quiet (fail); try go_wp2)
        go_roundg k1
        case measure => have := HK1.out; omega
        case rel => exact ⟨(wrap64 (x5_1 + 1)), (by first | rfl | (simp; done) | (simp [*]; done)), H', ⟨by have := HK1.out; omega⟩, by repeat (first | exact Drawn0.refl _ | apply Drawn0.step)⟩
      ·rw [if_neg c6] at H
       exact absurd H (by simp)
     ·rw [if_neg c5] at H
      exact absurd H (by simp)
    ·rw [if_neg c4] at H
     have c4b0 : decide (x5_1 < (l0.length : Int)) = false := decide_eq_false c4
     clear c4
     obtain rfl := Option.some.inj H
     go_wp2
     repeat (go_quiet (fail); try go_wp2)
     go_ret
     exact ⟨by first | rfl | (simp; done) | (simp [*]; done), by repeat (first | exact Drawn0.refl _ | apply Drawn0.step)⟩
 rw [if_neg c3] at H
 have c3b0 : ((l0.length : Int) == (l1.length : Int)) = false := beq_eq_false_iff_ne.mpr c3
 have c3b1 : ((l0.length : Int) != (l1.length : Int)) = true := bne_iff_ne.mpr c3
 have c3b2 : (l0.length == l1.length) = false := by first | simpa using c3 | (simp at c3 ⊢; omega)
 obtain rfl := Option.some.inj H
 go_enter Try.func34, Try.ntmps34
 go_wp2
 repeat (go_quiet (fail); try go_wp2)
 go_ret
 exact ⟨by first | rfl | (simp; done) | (simp [*]; done), by repeat (first | exact Drawn0.refl _ | apply Drawn0.step)⟩

end Go.Proofs.Ythaklbjcjoolcaa.P
namespace Go.Proofs.Ythaklbjcjoolcaa.P
open Go.RowKit Go.Proofs.YthaklbjcjoolcaaW.PrintWords Go.Proofs.YthaklbjcjoolcaaW.PrintLast Go.Proofs.YthaklbjcjoolcaaW.PrintMore
set_option linter.unusedVariables false
set_option linter.unusedSimpArgs false
theorem set_ev (l : List S31) (hl : l.length < 9223372036854775807) : Ev (fun k => silversideref01_Set.f k l) (isSetB l) := by
  unfold silversideref01_Set.f isSetB
  by_cases h1 : (l.length : Int) ≥ 1
  · refine ev_pos h1 ?_
    by_cases h2 : (l.length : Int) ≤ 512
    · refine ev_pos h2 ?_
      rw [decide_eq_true (show 1 ≤ l.length ∧ l.length ≤ 512 from ⟨by omega, by omega⟩), Bool.true_and]
      exact Ev.bind (valids_ev l hl) (Ev.now _)
    · refine ev_neg h2 ?_
      rw [decide_eq_false (show ¬ (1 ≤ l.length ∧ l.length ≤ 512) by omega), Bool.false_and]
      exact Ev.now _
  · refine ev_neg h1 ?_
    rw [decide_eq_false (show ¬ (1 ≤ l.length ∧ l.length ≤ 512) by omega), Bool.false_and]
    exact Ev.now _
theorem same_from (l : List S31) (hl : l.length < 9223372036854775807) : ∀ n i : Nat, l.length - i = n → i ≤ l.length → Ev (fun k => silversidelaw01_same.l0 k l l (i : Int)) true
  | 0, i, hn, hi => by
    refine Ev.step (f := fun _ => some true) (fun k => ?_) (Ev.now _)
    unfold silversidelaw01_same.l0
    rw [if_neg (by omega)]
  | n + 1, i, hn, hi => by
    refine Ev.step (fun k => ?_) (same_from l hl n (i + 1) (by omega) (by omega))
    conv => lhs; unfold silversidelaw01_same.l0
    rw [if_pos (by omega), if_pos (by omega), if_pos (by omega), if_neg (by simp), w64i (x := (i : Int) + 1) (by omega) (by omega)]
    rfl
theorem same_ev (l : List S31) (hl : l.length < 9223372036854775807) : Ev (fun k => silversidelaw01_same.f k l l) true := by
  unfold silversidelaw01_same.f
  exact ev_pos rfl (same_from l hl (l.length - 0) 0 rfl (by omega))
end Go.Proofs.Ythaklbjcjoolcaa.P
