/- Proved here: what functions that the law reaches compute, and plain laws of that. No conditions but those that the theorems state. Put together by a program; a part of it was printed by a program of the session's, by way of the kit's printer (wip/printplus.py, wip/mend*.py). -/
import Derived.Test.YthaklbjcjoolcaaB1
import Derived.Test.YthaklbjcjoolcaaB4
import Derived.Test.YthaklbjcjoolcaaCPlaneMoves1
import Derived.Test.YthaklbjcjoolcaaB3
import Derived.Test.YthaklbjcjoolcaaB2
import Derived.Outline
import Derived.Deep.DeepMust
import Derived.Laws.EntriesVeiled
import Derived.BigRegion
import Derived.BigQuiet
import Derived.Test.YthaklbjcjoolcaaCPlaneMoves2
set_option linter.unusedVariables false
set_option linter.unusedSimpArgs false
namespace Go.Proofs.Ythaklbjcjoolcaa.P
open Go.RowKit Go.Proofs.YthaklbjcjoolcaaW.PrintWords Go.Proofs.YthaklbjcjoolcaaW.PrintLast Go.Proofs.YthaklbjcjoolcaaW.PrintMore
attribute [local go_sem] max2_int min2_int max_two min_two max_three min_three max_four min_four   -- for this text's walks alone

/-! ### silversideref01_on: function 59 -/
def silversideref01_on.f (a0_0 : Int) (a0_1 : Int) (a1_0 : Int) (a1_1 : Int) (a2_0 : Int) (a2_1 : Int) : Option (Bool) := (silversideref01_Turn.f a0_0 a0_1 a1_0 a1_1 a2_0 a2_1).bind fun t247 => (if t247 = 0 then (if a2_0 ≥ (mn a0_0 a1_0) then (if a2_0 ≤ (mx a0_0 a1_0) then (if a2_1 ≥ (mn a0_1 a1_1) then (some (decide (a2_1 ≤ (mx a0_1 a1_1)))) else (some false)) else (some false)) else (some false)) else (some false))
set_option maxHeartbeats 8000000 in
set_option maxRecDepth 100000 in
theorem silversideref01_on.calls (a0_0 : Int) (a0_1 : Int) (a1_0 : Int) (a1_1 : Int) (a2_0 : Int) (a2_1 : Int) (r : Bool) (w : World) (h : silversideref01_on.f a0_0 a0_1 a1_0 a1_1 a2_0 a2_1 = some r) :
  Calls Try.prog 59 #[.agg #[.int .i64 a0_0, .int .i64 a0_1], .agg #[.int .i64 a1_0, .int .i64 a1_1], .agg #[.int .i64 a2_0, .int .i64 a2_1]] w fun e w' => e = .returned (.bool r) ∧ Below w.heap.size w w' := by
 have hu31 := Try.underlying31
 have HB := Aside0.mk (Below.refl w.heap.size w)
 have H : ((silversideref01_Turn.f a0_0 a0_1 a1_0 a1_1 a2_0 a2_1).bind fun t247 => (if t247 = 0 then (if a2_0 ≥ (mn a0_0 a1_0) then (if a2_0 ≤ (mx a0_0 a1_0) then (if a2_1 ≥ (mn a0_1 a1_1) then (some (decide (a2_1 ≤ (mx a0_1 a1_1)))) else (some false)) else (some false)) else (some false)) else (some false))) = some r := h
 clear h
 replace H := Option.bind_eq_some_iff.mp H
 obtain ⟨t247, A40, H⟩ := H
 replace H : (if t247 = 0 then (if a2_0 ≥ (mn a0_0 a1_0) then (if a2_0 ≤ (mx a0_0 a1_0) then (if a2_1 ≥ (mn a0_1 a1_1) then (some (decide (a2_1 ≤ (mx a0_1 a1_1)))) else (some false)) else (some false)) else (some false)) else (some false)) = some r := H
 have A4 := Aside0.mk A40
 clear A40
 by_cases c5 : t247 = 0
 rw [if_pos c5] at H
 have c5b0 : (t247 == 0) = true := beq_iff_eq.mpr c5
 have c5b1 : (t247 != 0) = false := bne_eq_false_iff_eq.mpr c5
 clear c5
 obtain ⟨ji6, hji6⟩ : ∃ j_ : Int, (mn a0_0 a1_0) = j_ := ⟨_, rfl⟩
 replace H : (if a2_0 ≥ (ji6) then (if a2_0 ≤ (mx a0_0 a1_0) then (if a2_1 ≥ (mn a0_1 a1_1) then (some (decide (a2_1 ≤ (mx a0_1 a1_1)))) else (some false)) else (some false)) else (some false)) = some r := by first | (rw [hji6] at H; exact H) | (simp only [hji6] at H ⊢; exact H)
 (try rw [hji6] at A4)
 have hji6_ : (if a1_0 < a0_0 then a1_0 else a0_0) = ji6 := hji6
 by_cases c7 : a2_0 ≥ (ji6)
 rw [if_pos c7] at H
 have c7b0 : decide ((ji6) ≤ a2_0) = true := decide_eq_true c7
 clear c7
 obtain ⟨ji8, hji8⟩ : ∃ j_ : Int, (mx a0_0 a1_0) = j_ := ⟨_, rfl⟩
 replace H : (if a2_0 ≤ (ji8) then (if a2_1 ≥ (mn a0_1 a1_1) then (some (decide (a2_1 ≤ (mx a0_1 a1_1)))) else (some false)) else (some false)) = some r := by first | (rw [hji8] at H; exact H) | (simp only [hji8] at H ⊢; exact H)
 (try rw [hji8] at A4)
 have hji8_ : (if a0_0 < a1_0 then a1_0 else a0_0) = ji8 := hji8
 by_cases c9 : a2_0 ≤ (ji8)
 rw [if_pos c9] at H
 have c9b0 : decide (a2_0 ≤ (ji8)) = true := decide_eq_true c9
 clear c9
 obtain ⟨ji10, hji10⟩ : ∃ j_ : Int, (mn a0_1 a1_1) = j_ := ⟨_, rfl⟩
 replace H : (if a2_1 ≥ (ji10) then (some (decide (a2_1 ≤ (mx a0_1 a1_1)))) else (some false)) = some r := by first | (rw [hji10] at H; exact H) | (simp only [hji10] at H ⊢; exact H)
 (try rw [hji10] at A4)
 have hji10_ : (if a1_1 < a0_1 then a1_1 else a0_1) = ji10 := hji10
 by_cases c11 : a2_1 ≥ (ji10)
 rw [if_pos c11] at H
 have c11b0 : decide ((ji10) ≤ a2_1) = true := decide_eq_true c11
 clear c11
 obtain ⟨ji12, hji12⟩ : ∃ j_ : Int, (mx a0_1 a1_1) = j_ := ⟨_, rfl⟩
 replace H : (some (decide (a2_1 ≤ (ji12)))) = some r := by first | (rw [hji12] at H; exact H) | (simp only [hji12] at H ⊢; exact H)
 (try rw [hji12] at A4)
 have hji12_ : (if a0_1 < a1_1 then a1_1 else a0_1) = ji12 := hji12
 obtain rfl := Option.some.inj H
 go_enter Try.func59, Try.ntmps59
 rotate_left 1
 rw [if_neg c11] at H
 have c11b0 : decide ((ji10) ≤ a2_1) = false := decide_eq_false c11
 clear c11
 obtain rfl := Option.some.inj H
 go_enter Try.func59, Try.ntmps59
 rotate_left 1
 rw [if_neg c9] at H
 have c9b0 : decide (a2_0 ≤ (ji8)) = false := decide_eq_false c9
 clear c9
 obtain rfl := Option.some.inj H
 go_enter Try.func59, Try.ntmps59
 rotate_left 1
 rw [if_neg c7] at H
 have c7b0 : decide ((ji6) ≤ a2_0) = false := decide_eq_false c7
 clear c7
 obtain rfl := Option.some.inj H
 go_enter Try.func59, Try.ntmps59
 rotate_left 1
 rw [if_neg c5] at H
 have c5b0 : (t247 == 0) = false := beq_eq_false_iff_ne.mpr c5
 have c5b1 : (t247 != 0) = true := bne_iff_ne.mpr c5
 obtain rfl := Option.some.inj H
 go_enter Try.func59, Try.ntmps59
 all_goals go_wp2_with (first | ((with_reducible refine gate_dst (N := 3) rfl ?_); (try (refine gate_guard (by rfl) ?_; dsimp only)); refine bxe 3 #[.int .i64 a0_0, .int .i64 a0_1] 31 ?_; intro gb244 hg wz0 hbox hb; have n0_ := Aside0.mk (below_step lB hb); have n1_ := Aside0.mk (hbox); have n2_ := Aside0.mk (lG (w := w) hg); have n3_ := Aside0.mk (lG (w := w) hg); clear HB; have HB := n0_; have BK244 := n1_; have GW244 := n2_; have GE244 := n3_; clear n0_ n1_ n2_ n3_; clear hb hbox hg) | ((with_reducible refine gate_dst (N := 4) rfl ?_); (try (refine gate_guard (by rfl) ?_; dsimp only)); refine bxe 4 #[.int .i64 a1_0, .int .i64 a1_1] 31 ?_; intro gb245 hg wz1 hbox hb; have n0_ := Aside0.mk (blk_below (g := gb244) (o := .cells #[.int .i64 a0_0, .int .i64 a0_1] 31 (0, 0)) (kX BK244.out) hb); have n1_ := Aside0.mk (below_step lB hb); have n2_ := Aside0.mk (hbox); have n3_ := Aside0.mk (lG (w := w) hg); have n4_ := Aside0.mk (lG (w := w) hg); have n5_ := Aside0.mk ((by rw [hg]; exact Nat.ne_of_lt (blk_lt (g := gb244) (o := .cells #[.int .i64 a0_0, .int .i64 a0_1] 31 (0, 0)) (kX BK244.out)) : gb244 ≠ gb245)); have n6_ := Aside0.mk ((by rw [hg]; exact Nat.ne_of_gt (blk_lt (g := gb244) (o := .cells #[.int .i64 a0_0, .int .i64 a0_1] 31 (0, 0)) (kX BK244.out)) : gb245 ≠ gb244)); clear BK244; clear HB; have BK244 := n0_; have HB := n1_; have BK245 := n2_; have GW245 := n3_; have GE245 := n4_; have NB244_245 := n5_; have NB245_244 := n6_; clear n0_ n1_ n2_ n3_ n4_ n5_ n6_; clear hb hbox hg) | ((with_reducible refine gate_dst (N := 5) rfl ?_); (try (refine gate_guard (by rfl) ?_; dsimp only)); refine bxe 5 #[.int .i64 a2_0, .int .i64 a2_1] 31 ?_; intro gb246 hg wz2 hbox hb; have n0_ := Aside0.mk (blk_below (g := gb244) (o := .cells #[.int .i64 a0_0, .int .i64 a0_1] 31 (0, 0)) (kX BK244.out) hb); have n1_ := Aside0.mk (blk_below (g := gb245) (o := .cells #[.int .i64 a1_0, .int .i64 a1_1] 31 (0, 0)) (kX BK245.out) hb); have n2_ := Aside0.mk (below_step lB hb); have n3_ := Aside0.mk (hbox); have n4_ := Aside0.mk (lG (w := w) hg); have n5_ := Aside0.mk (lG (w := w) hg); have n6_ := Aside0.mk ((by rw [hg]; exact Nat.ne_of_lt (blk_lt (g := gb244) (o := .cells #[.int .i64 a0_0, .int .i64 a0_1] 31 (0, 0)) (kX BK244.out)) : gb244 ≠ gb246)); have n7_ := Aside0.mk ((by rw [hg]; exact Nat.ne_of_gt (blk_lt (g := gb244) (o := .cells #[.int .i64 a0_0, .int .i64 a0_1] 31 (0, 0)) (kX BK244.out)) : gb246 ≠ gb244)); have n8_ := Aside0.mk ((by rw [hg]; exact Nat.ne_of_lt (blk_lt (g := gb245) (o := .cells #[.int .i64 a1_0, .int .i64 a1_1] 31 (0, 0)) (kX BK245.out)) : gb245 ≠ gb246)); have n9_ := Aside0.mk ((by rw [hg]; exact Nat.ne_of_gt (blk_lt (g := gb245) (o := .cells #[.int .i64 a1_0, .int .i64 a1_1] 31 (0, 0)) (kX BK245.out)) : gb246 ≠ gb245)); clear BK244; clear BK245; clear HB; have BK244 := n0_; have BK245 := n1_; have HB := n2_; have BK246 := n3_; have GW246 := n4_; have GE246 := n5_; have NB244_246 := n6_; have NB246_244 := n7_; have NB245_246 := n8_; have NB246_245 := n9_; clear n0_ n1_ n2_ n3_ n4_ n5_ n6_ n7_ n8_ n9_; clear hb hbox hg; have hnb16 := NB244_245.out; have hnc16 := NB245_244.out; have hnb17 := NB244_246.out; have hnc17 := NB246_244.out; have hcz18_0 : wz2.cell? ⟨gb244, 0, none⟩ = some (.int .i64 a0_0) := (blk_cell BK244.out 0).trans rfl; have hcz18_1 : wz2.cell? ⟨gb244, 1, none⟩ = some (.int .i64 a0_1) := (blk_cell BK244.out 1).trans rfl; have hfz18_0 := blk_frozen BK244.out 0; have hfz18_1 := blk_frozen BK244.out 1; have hnb19 := NB245_246.out; have hnc19 := NB246_245.out; have hcz20_0 : wz2.cell? ⟨gb245, 0, none⟩ = some (.int .i64 a1_0) := (blk_cell BK245.out 0).trans rfl; have hcz20_1 : wz2.cell? ⟨gb245, 1, none⟩ = some (.int .i64 a1_1) := (blk_cell BK245.out 1).trans rfl; have hfz20_0 := blk_frozen BK245.out 0; have hfz20_1 := blk_frozen BK245.out 1; have hcz21_0 : wz2.cell? ⟨gb246, 0, none⟩ = some (.int .i64 a2_0) := (blk_cell BK246.out 0).trans rfl; have hcz21_1 : wz2.cell? ⟨gb246, 1, none⟩ = some (.int .i64 a2_1) := (blk_cell BK246.out 1).trans rfl; have hfz21_0 := blk_frozen BK246.out 0; have hfz21_1 := blk_frozen BK246.out 1) | ((with_reducible refine gate_callee (f := 31) rfl ?_); refine goesL_ (some 10) rfl rfl Try.func31 (by kernel_rfl) rfl #[.agg #[.int .i64 a0_0, .int .i64 a0_1], .agg #[.int .i64 a1_0, .int .i64 a1_1], .agg #[.int .i64 a2_0, .int .i64 a2_1]] rfl (by (try simp only [List.map_toArray, List.map_cons, List.map_nil]); first | done | rfl | (simp only [List.length_drop, List.length_take]; rfl)) ?_; (with_reducible refine (silversideref01_Turn.calls a0_0 a0_1 a1_0 a1_1 a2_0 a2_1 t247 _ A4.out).mono ?_); rintro e wz3 ⟨rfl, hb⟩; refine ⟨_, rfl, ?_⟩; have n0_ := Aside0.mk (blk_below (g := gb244) (o := .cells #[.int .i64 a0_0, .int .i64 a0_1] 31 (0, 0)) (kX BK244.out) hb); have n1_ := Aside0.mk (blk_below (g := gb245) (o := .cells #[.int .i64 a1_0, .int .i64 a1_1] 31 (0, 0)) (kX BK245.out) hb); have n2_ := Aside0.mk (blk_below (g := gb246) (o := .cells #[.int .i64 a2_0, .int .i64 a2_1] 31 (0, 0)) (kX BK246.out) hb); have n3_ := Aside0.mk (below_step lB hb); clear BK244; clear BK245; clear BK246; clear HB; have BK244 := n0_; have BK245 := n1_; have BK246 := n2_; have HB := n3_; clear n0_ n1_ n2_ n3_; (try clear hb); (try clear hb2); (try clear hk); (try clear hi); have hcz23_0 : wz3.cell? ⟨gb246, 0, none⟩ = some (.int .i64 a2_0) := (blk_cell BK246.out 0).trans rfl; have hcz23_1 : wz3.cell? ⟨gb246, 1, none⟩ = some (.int .i64 a2_1) := (blk_cell BK246.out 1).trans rfl; have hfz23_0 := blk_frozen BK246.out 0; have hfz23_1 := blk_frozen BK246.out 1; have hcz24_0 : wz3.cell? ⟨gb244, 0, none⟩ = some (.int .i64 a0_0) := (blk_cell BK244.out 0).trans rfl; have hcz24_1 : wz3.cell? ⟨gb244, 1, none⟩ = some (.int .i64 a0_1) := (blk_cell BK244.out 1).trans rfl; have hfz24_0 := blk_frozen BK244.out 0; have hfz24_1 := blk_frozen BK244.out 1; have hcz25_0 : wz3.cell? ⟨gb245, 0, none⟩ = some (.int .i64 a1_0) := (blk_cell BK245.out 0).trans rfl; have hcz25_1 : wz3.cell? ⟨gb245, 1, none⟩ = some (.int .i64 a1_1) := (blk_cell BK245.out 1).trans rfl; have hfz25_0 := blk_frozen BK245.out 0; have hfz25_1 := blk_frozen BK245.out 1))
 all_goals first
   | (go_ret
      exact ⟨by first | rfl | (simp [errW_none, errW_some] <;> rfl) | (simp only [← hji6, ← hji8, ← hji10, ← hji12]; first | rfl | (simp [errW_none, errW_some] <;> rfl)) | (simp [*, errW_none, errW_some] <;> rfl), lB⟩)
   | (go_ret
      exact ⟨by first | rfl | (simp [errW_none, errW_some] <;> rfl) | (simp only [← hji6, ← hji8, ← hji10]; first | rfl | (simp [errW_none, errW_some] <;> rfl)) | (simp [*, errW_none, errW_some] <;> rfl), lB⟩)
   | (go_ret
      exact ⟨by first | rfl | (simp [errW_none, errW_some] <;> rfl) | (simp only [← hji6, ← hji8]; first | rfl | (simp [errW_none, errW_some] <;> rfl)) | (simp [*, errW_none, errW_some] <;> rfl), lB⟩)
   | (go_ret
      exact ⟨by first | rfl | (simp [errW_none, errW_some] <;> rfl) | (simp only [← hji6]; first | rfl | (simp [errW_none, errW_some] <;> rfl)) | (simp [*, errW_none, errW_some] <;> rfl), lB⟩)
   | (go_ret
      exact en)


/-! ### silversideref01_meet: function 60 -/
def silversideref01_meet.j0 : Nat → Bool → Int → Int → Int → Int → Int → Int → Int → Int → Option (Bool)
 | 0, _, _, _, _, _, _, _, _, _ => none
 | k + 1, x30, x249000, x249001, x250000, x250001, x251000, x251001, x252000, x252001 => if x30 = true then (some true) else ((silversideref01_on.f x249000 x249001 x250000 x250001 x251000 x251001).bind fun t256 => (if t256 = true then (some true) else ((silversideref01_on.f x249000 x249001 x250000 x250001 x252000 x252001).bind fun t257 => (if t257 = true then (some true) else ((silversideref01_on.f x251000 x251001 x252000 x252001 x249000 x249001).bind fun t258 => (if t258 = true then (some true) else ((silversideref01_on.f x251000 x251001 x252000 x252001 x250000 x250001).bind fun t259 => (some t259))))))))
def silversideref01_meet.f (k : Nat) (a0_0 : Int) (a0_1 : Int) (a1_0 : Int) (a1_1 : Int) (a2_0 : Int) (a2_1 : Int) (a3_0 : Int) (a3_1 : Int) : Option (Bool) := (silversideref01_Turn.f a0_0 a0_1 a1_0 a1_1 a2_0 a2_1).bind fun t252 => ((silversideref01_Turn.f a0_0 a0_1 a1_0 a1_1 a3_0 a3_1).bind fun t253 => (if (wrap64 (t252 * t253)) < 0 then ((silversideref01_Turn.f a2_0 a2_1 a3_0 a3_1 a0_0 a0_1).bind fun t254 => ((silversideref01_Turn.f a2_0 a2_1 a3_0 a3_1 a1_0 a1_1).bind fun t255 => (silversideref01_meet.j0 k (decide ((wrap64 (t254 * t255)) < 0)) a0_0 a0_1 a1_0 a1_1 a2_0 a2_1 a3_0 a3_1))) else (silversideref01_meet.j0 k false a0_0 a0_1 a1_0 a1_1 a2_0 a2_1 a3_0 a3_1)))
theorem silversideref01_meet.mono_l : ∀ k, (∀ y0 y1 y2 y3 y4 y5 y6 y7 y8, LeO (silversideref01_meet.j0 k y0 y1 y2 y3 y4 y5 y6 y7 y8) (silversideref01_meet.j0 (k + 1) y0 y1 y2 y3 y4 y5 y6 y7 y8))
 | 0 => fun _ _ _ _ _ _ _ _ _ r h => by simp [silversideref01_meet.j0] at h
 | k + 1 => by
  have ih0 := silversideref01_meet.mono_l k
  ·intro y0 y1 y2 y3 y4 y5 y6 y7 y8
   unfold silversideref01_meet.j0
   repeat' first
   | (with_reducible exact ih0 _ _ _ _ _ _ _ _ _)
   | (with_reducible exact LeO.refl _)
   | (with_reducible exact LeO.none _)
   | (with_reducible refine LeO.ite ?_ ?_)
   | (with_reducible refine LeO.bind ?_ (fun _ => ?_))
   | exact ih0 _ _ _ _ _ _ _ _ _
   | exact LeO.none _
   | refine LeO.ite ?_ ?_
   | refine LeO.bind ?_ (fun _ => ?_)
theorem silversideref01_meet.mono : ∀ a0 a1 a2 a3 a4 a5 a6 a7 k, LeO (silversideref01_meet.f k a0 a1 a2 a3 a4 a5 a6 a7) (silversideref01_meet.f (k + 1) a0 a1 a2 a3 a4 a5 a6 a7) := by
 intro a0 a1 a2 a3 a4 a5 a6 a7 k
 have ih0 := silversideref01_meet.mono_l k
 unfold silversideref01_meet.f
 repeat' first
   | (with_reducible exact ih0 _ _ _ _ _ _ _ _ _)
   | (with_reducible exact LeO.refl _)
   | (with_reducible exact LeO.none _)
   | (with_reducible refine LeO.ite ?_ ?_)
   | (with_reducible refine LeO.bind ?_ (fun _ => ?_))
   | exact ih0 _ _ _ _ _ _ _ _ _
   | exact LeO.none _
   | refine LeO.ite ?_ ?_
   | refine LeO.bind ?_ (fun _ => ?_)
def silversideref01_meet.T1 : Bool × List (List Nat × List Nat) := (true, [([], []), ([], []), ([], []), ([0, 1, 2], [0, 1, 2]), ([], []), ([], []), ([], []), ([4, 5, 6, 3], [4, 5, 6]), ([3, 7], [3, 7]), ([8], [8]), ([9, 7], [9]), ([10], [10]), ([10], [10]), ([10], [10]), ([11, 12, 13, 10, 10], [10, 11, 12, 13]), ([10], [10]), ([10], [10]), ([10], [10]), ([15, 16, 17, 14, 10], [10, 15, 16, 17]), ([14, 18, 10], [10, 14, 18]), ([19, 10], [10, 19]), ([10, 20], [10, 20])])
def silversideref01_meet.B1 : List Nat := [0, 0, 0, 7, 0, 0, 0, 127, 255, 511, 1023, 2047, 2047, 2047, 16383, 2047, 2047, 2047, 262143, 524287, 1048575, 2097151]
theorem silversideref01_meet.tab1 : rtab .any (opsOf Try.f60 1) = silversideref01_meet.T1 := by kernel_rfl
theorem silversideref01_meet.bits1 : waitsOk silversideref01_meet.T1.2 silversideref01_meet.B1 = true := by kernel_rfl
set_option maxHeartbeats 8000000 in
set_option maxRecDepth 100000 in
theorem silversideref01_meet.calls (k : Nat) (a0_0 : Int) (a0_1 : Int) (a1_0 : Int) (a1_1 : Int) (a2_0 : Int) (a2_1 : Int) (a3_0 : Int) (a3_1 : Int) (r : Bool) (w : World) (h : silversideref01_meet.f k a0_0 a0_1 a1_0 a1_1 a2_0 a2_1 a3_0 a3_1 = some r) :
  Calls Try.prog 60 #[.agg #[.int .i64 a0_0, .int .i64 a0_1], .agg #[.int .i64 a1_0, .int .i64 a1_1], .agg #[.int .i64 a2_0, .int .i64 a2_1], .agg #[.int .i64 a3_0, .int .i64 a3_1]] w fun e w' => e = .returned (.bool r) ∧ Below w.heap.size w w' := by
 have hu31 := Try.underlying31
 have HB := Aside0.mk (Below.refl w.heap.size w)
 have H : ((silversideref01_Turn.f a0_0 a0_1 a1_0 a1_1 a2_0 a2_1).bind fun t252 => ((silversideref01_Turn.f a0_0 a0_1 a1_0 a1_1 a3_0 a3_1).bind fun t253 => (if (wrap64 (t252 * t253)) < 0 then ((silversideref01_Turn.f a2_0 a2_1 a3_0 a3_1 a0_0 a0_1).bind fun t254 => ((silversideref01_Turn.f a2_0 a2_1 a3_0 a3_1 a1_0 a1_1).bind fun t255 => (silversideref01_meet.j0 k (decide ((wrap64 (t254 * t255)) < 0)) a0_0 a0_1 a1_0 a1_1 a2_0 a2_1 a3_0 a3_1))) else (silversideref01_meet.j0 k false a0_0 a0_1 a1_0 a1_1 a2_0 a2_1 a3_0 a3_1)))) = some r := h
 clear h
 have HC5 := Aside0.mk H
 clear H
 go_enter Try.func60, Try.ntmps60
 go_upto_region 1 with (first | ((with_reducible refine gate_dst (N := 4) rfl ?_); refine bxe 4 #[.int .i64 a0_0, .int .i64 a0_1] 31 ?_; intro gb248 hg w6 hbox hb; have n0_ := Aside0.mk (below_step lB hb); have n1_ := Aside0.mk (hbox); have n2_ := Aside0.mk (lG (w := w) hg); have n3_ := Aside0.mk (lG (w := w) hg); clear HB; have HB := n0_; have BK248 := n1_; have GW248 := n2_; have GE248 := n3_; clear n0_ n1_ n2_ n3_; clear hb hbox hg) | ((with_reducible refine gate_dst (N := 5) rfl ?_); refine bxe 5 #[.int .i64 a1_0, .int .i64 a1_1] 31 ?_; intro gb249 hg w7 hbox hb; have n0_ := Aside0.mk (blk_below (g := gb248) (o := .cells #[.int .i64 a0_0, .int .i64 a0_1] 31 (0, 0)) (kX BK248.out) hb); have n1_ := Aside0.mk (below_step lB hb); have n2_ := Aside0.mk (hbox); have n3_ := Aside0.mk (lG (w := w) hg); have n4_ := Aside0.mk (lG (w := w) hg); have n5_ := Aside0.mk ((by rw [hg]; exact Nat.ne_of_lt (blk_lt (g := gb248) (o := .cells #[.int .i64 a0_0, .int .i64 a0_1] 31 (0, 0)) (kX BK248.out)) : gb248 ≠ gb249)); have n6_ := Aside0.mk ((by rw [hg]; exact Nat.ne_of_gt (blk_lt (g := gb248) (o := .cells #[.int .i64 a0_0, .int .i64 a0_1] 31 (0, 0)) (kX BK248.out)) : gb249 ≠ gb248)); clear BK248; clear HB; have BK248 := n0_; have HB := n1_; have BK249 := n2_; have GW249 := n3_; have GE249 := n4_; have NB248_249 := n5_; have NB249_248 := n6_; clear n0_ n1_ n2_ n3_ n4_ n5_ n6_; clear hb hbox hg) | ((with_reducible refine gate_dst (N := 6) rfl ?_); refine bxe 6 #[.int .i64 a2_0, .int .i64 a2_1] 31 ?_; intro gb250 hg w8 hbox hb; have n0_ := Aside0.mk (blk_below (g := gb248) (o := .cells #[.int .i64 a0_0, .int .i64 a0_1] 31 (0, 0)) (kX BK248.out) hb); have n1_ := Aside0.mk (blk_below (g := gb249) (o := .cells #[.int .i64 a1_0, .int .i64 a1_1] 31 (0, 0)) (kX BK249.out) hb); have n2_ := Aside0.mk (below_step lB hb); have n3_ := Aside0.mk (hbox); have n4_ := Aside0.mk (lG (w := w) hg); have n5_ := Aside0.mk (lG (w := w) hg); have n6_ := Aside0.mk ((by rw [hg]; exact Nat.ne_of_lt (blk_lt (g := gb248) (o := .cells #[.int .i64 a0_0, .int .i64 a0_1] 31 (0, 0)) (kX BK248.out)) : gb248 ≠ gb250)); have n7_ := Aside0.mk ((by rw [hg]; exact Nat.ne_of_gt (blk_lt (g := gb248) (o := .cells #[.int .i64 a0_0, .int .i64 a0_1] 31 (0, 0)) (kX BK248.out)) : gb250 ≠ gb248)); have n8_ := Aside0.mk ((by rw [hg]; exact Nat.ne_of_lt (blk_lt (g := gb249) (o := .cells #[.int .i64 a1_0, .int .i64 a1_1] 31 (0, 0)) (kX BK249.out)) : gb249 ≠ gb250)); have n9_ := Aside0.mk ((by rw [hg]; exact Nat.ne_of_gt (blk_lt (g := gb249) (o := .cells #[.int .i64 a1_0, .int .i64 a1_1] 31 (0, 0)) (kX BK249.out)) : gb250 ≠ gb249)); clear BK248; clear BK249; clear HB; have BK248 := n0_; have BK249 := n1_; have HB := n2_; have BK250 := n3_; have GW250 := n4_; have GE250 := n5_; have NB248_250 := n6_; have NB250_248 := n7_; have NB249_250 := n8_; have NB250_249 := n9_; clear n0_ n1_ n2_ n3_ n4_ n5_ n6_ n7_ n8_ n9_; clear hb hbox hg) | ((with_reducible refine gate_dst (N := 7) rfl ?_); refine bxe 7 #[.int .i64 a3_0, .int .i64 a3_1] 31 ?_; intro gb251 hg w9 hbox hb; have n0_ := Aside0.mk (blk_below (g := gb248) (o := .cells #[.int .i64 a0_0, .int .i64 a0_1] 31 (0, 0)) (kX BK248.out) hb); have n1_ := Aside0.mk (blk_below (g := gb249) (o := .cells #[.int .i64 a1_0, .int .i64 a1_1] 31 (0, 0)) (kX BK249.out) hb); have n2_ := Aside0.mk (blk_below (g := gb250) (o := .cells #[.int .i64 a2_0, .int .i64 a2_1] 31 (0, 0)) (kX BK250.out) hb); have n3_ := Aside0.mk (below_step lB hb); have n4_ := Aside0.mk (hbox); have n5_ := Aside0.mk (lG (w := w) hg); have n6_ := Aside0.mk (lG (w := w) hg); have n7_ := Aside0.mk ((by rw [hg]; exact Nat.ne_of_lt (blk_lt (g := gb248) (o := .cells #[.int .i64 a0_0, .int .i64 a0_1] 31 (0, 0)) (kX BK248.out)) : gb248 ≠ gb251)); have n8_ := Aside0.mk ((by rw [hg]; exact Nat.ne_of_gt (blk_lt (g := gb248) (o := .cells #[.int .i64 a0_0, .int .i64 a0_1] 31 (0, 0)) (kX BK248.out)) : gb251 ≠ gb248)); have n9_ := Aside0.mk ((by rw [hg]; exact Nat.ne_of_lt (blk_lt (g := gb249) (o := .cells #[.int .i64 a1_0, .int .i64 a1_1] 31 (0, 0)) (kX BK249.out)) : gb249 ≠ gb251)); have n10_ := Aside0.mk ((by rw [hg]; exact Nat.ne_of_gt (blk_lt (g := gb249) (o := .cells #[.int .i64 a1_0, .int .i64 a1_1] 31 (0, 0)) (kX BK249.out)) : gb251 ≠ gb249)); have n11_ := Aside0.mk ((by rw [hg]; exact Nat.ne_of_lt (blk_lt (g := gb250) (o := .cells #[.int .i64 a2_0, .int .i64 a2_1] 31 (0, 0)) (kX BK250.out)) : gb250 ≠ gb251)); have n12_ := Aside0.mk ((by rw [hg]; exact Nat.ne_of_gt (blk_lt (g := gb250) (o := .cells #[.int .i64 a2_0, .int .i64 a2_1] 31 (0, 0)) (kX BK250.out)) : gb251 ≠ gb250)); clear BK248; clear BK249; clear BK250; clear HB; have BK248 := n0_; have BK249 := n1_; have BK250 := n2_; have HB := n3_; have BK251 := n4_; have GW251 := n5_; have GE251 := n6_; have NB248_251 := n7_; have NB251_248 := n8_; have NB249_251 := n9_; have NB251_249 := n10_; have NB250_251 := n11_; have NB251_250 := n12_; clear n0_ n1_ n2_ n3_ n4_ n5_ n6_ n7_ n8_ n9_ n10_ n11_ n12_; clear hb hbox hg))
 (try simp only [Act.put, sA, sB, sC])
 go_cut [30] (fun v30 wc => ∃ (kq : Nat) (x30_4 : Bool), v30 = .bool x30_4 ∧ Aside0 (silversideref01_meet.j0 kq x30_4 a0_0 a0_1 a1_0 a1_1 a2_0 a2_1 a3_0 a3_1 = some r) ∧ Aside0 (kq ≤ k) ∧ Aside0 (wc.heap[gb248]? = some (.cells #[.int .i64 a0_0, .int .i64 a0_1] 31 (0, 0))) ∧ Aside0 (wc.heap[gb249]? = some (.cells #[.int .i64 a1_0, .int .i64 a1_1] 31 (0, 0))) ∧ Aside0 (wc.heap[gb250]? = some (.cells #[.int .i64 a2_0, .int .i64 a2_1] 31 (0, 0))) ∧ Aside0 (wc.heap[gb251]? = some (.cells #[.int .i64 a3_0, .int .i64 a3_1] 31 (0, 0))) ∧ Aside0 (Below w.heap.size w wc))
 case first =>
  have H := HC5.out
  clear HC5
  replace H := Option.bind_eq_some_iff.mp H
  obtain ⟨t252, A100, H⟩ := H
  replace H : ((silversideref01_Turn.f a0_0 a0_1 a1_0 a1_1 a3_0 a3_1).bind fun t253 => (if (wrap64 (t252 * t253)) < 0 then ((silversideref01_Turn.f a2_0 a2_1 a3_0 a3_1 a0_0 a0_1).bind fun t254 => ((silversideref01_Turn.f a2_0 a2_1 a3_0 a3_1 a1_0 a1_1).bind fun t255 => (silversideref01_meet.j0 k (decide ((wrap64 (t254 * t255)) < 0)) a0_0 a0_1 a1_0 a1_1 a2_0 a2_1 a3_0 a3_1))) else (silversideref01_meet.j0 k false a0_0 a0_1 a1_0 a1_1 a2_0 a2_1 a3_0 a3_1))) = some r := H
  have A10 := Aside0.mk A100
  clear A100
  replace H := Option.bind_eq_some_iff.mp H
  obtain ⟨t253, A110, H⟩ := H
  replace H : (if (wrap64 (t252 * t253)) < 0 then ((silversideref01_Turn.f a2_0 a2_1 a3_0 a3_1 a0_0 a0_1).bind fun t254 => ((silversideref01_Turn.f a2_0 a2_1 a3_0 a3_1 a1_0 a1_1).bind fun t255 => (silversideref01_meet.j0 k (decide ((wrap64 (t254 * t255)) < 0)) a0_0 a0_1 a1_0 a1_1 a2_0 a2_1 a3_0 a3_1))) else (silversideref01_meet.j0 k false a0_0 a0_1 a1_0 a1_1 a2_0 a2_1 a3_0 a3_1)) = some r := H
  have A11 := Aside0.mk A110
  clear A110
  by_cases c12 : (wrap64 (t252 * t253)) < 0
  ·rw [if_pos c12] at H
   have c12b0 : decide ((wrap64 (t252 * t253)) < 0) = true := decide_eq_true c12
   clear c12
   (first | rw [c12b0] | (simp only [i64_w, i32_w]; rw [c12b0]) | skip)
   replace H := Option.bind_eq_some_iff.mp H
   obtain ⟨t254, A130, H⟩ := H
   replace H : ((silversideref01_Turn.f a2_0 a2_1 a3_0 a3_1 a1_0 a1_1).bind fun t255 => (silversideref01_meet.j0 k (decide ((wrap64 (t254 * t255)) < 0)) a0_0 a0_1 a1_0 a1_1 a2_0 a2_1 a3_0 a3_1)) = some r := H
   have A13 := Aside0.mk A130
   clear A130
   replace H := Option.bind_eq_some_iff.mp H
   obtain ⟨t255, A140, H⟩ := H
   replace H : (silversideref01_meet.j0 k (decide ((wrap64 (t254 * t255)) < 0)) a0_0 a0_1 a1_0 a1_1 a2_0 a2_1 a3_0 a3_1) = some r := H
   have A14 := Aside0.mk A140
   clear A140
   have H' := Aside0.mk H
   clear H
   try go_wp2
   replace BK248 := Aside0.mk (kD BK248.out)
   replace BK249 := Aside0.mk (kD BK249.out)
   replace BK250 := Aside0.mk (kD BK250.out)
   replace BK251 := Aside0.mk (kD BK251.out)
   replace HB := Aside0.mk (lD HB.out)
   refine start_ (n := 22) (S := fun w' => w'.cell? ⟨gb248, 0, none⟩ = some (.int .i64 a0_0) ∧ w'.cell? ⟨gb248, 1, none⟩ = some (.int .i64 a0_1) ∧ w'.cell? ⟨gb249, 0, none⟩ = some (.int .i64 a1_0) ∧ w'.cell? ⟨gb249, 1, none⟩ = some (.int .i64 a1_1) ∧ w'.cell? ⟨gb250, 0, none⟩ = some (.int .i64 a2_0) ∧ w'.cell? ⟨gb250, 1, none⟩ = some (.int .i64 a2_1) ∧ w'.cell? ⟨gb251, 0, none⟩ = some (.int .i64 a3_0) ∧ w'.cell? ⟨gb251, 1, none⟩ = some (.int .i64 a3_1)) (ds := []) (Bs 0 22) (by kernel_rfl) rfl rfl ⟨(blk_cell BK248.out 0).trans rfl, (blk_cell BK248.out 1).trans rfl, (blk_cell BK249.out 0).trans rfl, (blk_cell BK249.out 1).trans rfl, (blk_cell BK250.out 0).trans rfl, (blk_cell BK250.out 1).trans rfl, (blk_cell BK251.out 0).trans rfl, (blk_cell BK251.out 1).trans rfl⟩ (fun hHeld => ?_); refine with_tabW silversideref01_meet.tab1 silversideref01_meet.bits1 (fun HT_ HW_ => ?_)
   generalize w9.drew = w15 at BK248 BK249 BK250 BK251 HB hHeld ⊢
   refine ta 0 9 (Bs 1 22) HT_ HW_ hHeld ?_
   refine ta 1 10 (Bs 2 22) HT_ HW_ hHeld ?_
   refine ta 2 11 (Bs 3 22) HT_ HW_ hHeld ?_
   refine ta 4 13 (Br [3,1,1,17]) HT_ HW_ hHeld ?_
   refine ta 5 14 (Br [3,1,2,16]) HT_ HW_ hHeld ?_
   refine ta 6 15 (Br [3,1,3,15]) HT_ HW_ hHeld ?_
   refine one_ (i := 3) (N := some 12) (Bs 7 22) rfl rfl (one_of HT_.out (by kernel_rfl)) (by decide) (fun K hK => ?_)
   refine goes_ Try.func31 (by kernel_rfl) rfl #[.agg #[.int .i64 a0_0, .int .i64 a0_1], .agg #[.int .i64 a1_0, .int .i64 a1_1], .agg #[.int .i64 a2_0, .int .i64 a2_1]] (by rfl) rfl rfl (by (try simp only [List.map_toArray, List.map_cons, List.map_nil]); first | done | rfl | (simp only [List.length_drop, List.length_take]; rfl)) ?_
   with_reducible refine (silversideref01_Turn.calls a0_0 a0_1 a1_0 a1_1 a2_0 a2_1 t252 _ A10.out).mono ?_
   rintro e w16 ⟨rfl, hb⟩
   refine ⟨_, rfl, ?_⟩
   have n4_ := Aside0.mk (below_step lB hb)
   clear HB
   have HB := n4_
   clear n4_
   replace BK248 := Aside0.mk (blk_below (g := gb248) (o := .cells #[.int .i64 a0_0, .int .i64 a0_1] 31 (0, 0)) (kX BK248.out) hb)
   replace BK249 := Aside0.mk (blk_below (g := gb249) (o := .cells #[.int .i64 a1_0, .int .i64 a1_1] 31 (0, 0)) (kX BK249.out) hb)
   replace BK250 := Aside0.mk (blk_below (g := gb250) (o := .cells #[.int .i64 a2_0, .int .i64 a2_1] 31 (0, 0)) (kX BK250.out) hb)
   replace BK251 := Aside0.mk (blk_below (g := gb251) (o := .cells #[.int .i64 a3_0, .int .i64 a3_1] 31 (0, 0)) (kX BK251.out) hb)
   (try clear hb)
   (try clear hb2)
   (try clear hk)
   (try clear hi)
   refine hK.out _ _ ⟨(blk_cell BK248.out 0).trans rfl, (blk_cell BK248.out 1).trans rfl, (blk_cell BK249.out 0).trans rfl, (blk_cell BK249.out 1).trans rfl, (blk_cell BK250.out 0).trans rfl, (blk_cell BK250.out 1).trans rfl, (blk_cell BK251.out 0).trans rfl, (blk_cell BK251.out 1).trans rfl⟩ (fun hHeld => ?_)
   clear hK K
   refine nm 12 ?_
   refine one_ (i := 7) (N := some 16) (Bs 8 22) rfl rfl (one_of HT_.out (by kernel_rfl)) (by decide) (fun K hK => ?_)
   refine goes_ Try.func31 (by kernel_rfl) rfl #[.agg #[.int .i64 a0_0, .int .i64 a0_1], .agg #[.int .i64 a1_0, .int .i64 a1_1], .agg #[.int .i64 a3_0, .int .i64 a3_1]] (by rfl) rfl rfl (by (try simp only [List.map_toArray, List.map_cons, List.map_nil]); first | done | rfl | (simp only [List.length_drop, List.length_take]; rfl)) ?_
   with_reducible refine (silversideref01_Turn.calls a0_0 a0_1 a1_0 a1_1 a3_0 a3_1 t253 _ A11.out).mono ?_
   rintro e w17 ⟨rfl, hb⟩
   refine ⟨_, rfl, ?_⟩
   have n4_ := Aside0.mk (below_step lB hb)
   clear HB
   have HB := n4_
   clear n4_
   replace BK248 := Aside0.mk (blk_below (g := gb248) (o := .cells #[.int .i64 a0_0, .int .i64 a0_1] 31 (0, 0)) (kX BK248.out) hb)
   replace BK249 := Aside0.mk (blk_below (g := gb249) (o := .cells #[.int .i64 a1_0, .int .i64 a1_1] 31 (0, 0)) (kX BK249.out) hb)
   replace BK250 := Aside0.mk (blk_below (g := gb250) (o := .cells #[.int .i64 a2_0, .int .i64 a2_1] 31 (0, 0)) (kX BK250.out) hb)
   replace BK251 := Aside0.mk (blk_below (g := gb251) (o := .cells #[.int .i64 a3_0, .int .i64 a3_1] 31 (0, 0)) (kX BK251.out) hb)
   (try clear hb)
   (try clear hb2)
   (try clear hk)
   (try clear hi)
   refine hK.out _ _ ⟨(blk_cell BK248.out 0).trans rfl, (blk_cell BK248.out 1).trans rfl, (blk_cell BK249.out 0).trans rfl, (blk_cell BK249.out 1).trans rfl, (blk_cell BK250.out 0).trans rfl, (blk_cell BK250.out 1).trans rfl, (blk_cell BK251.out 0).trans rfl, (blk_cell BK251.out 1).trans rfl⟩ (fun hHeld => ?_)
   clear hK K
   refine nm 16 ?_
   refine pu 8 17 (Bs 9 22) HT_ ?_
   refine pu 9 18 (Bs 10 22) HT_ ?_
   refine pu 10 19 (Bs 11 22) HT_ ?_
   refine ta 11 20 (Bs 12 22) HT_ HW_ hHeld ?_
   refine ta 12 21 (Bs 13 22) HT_ HW_ hHeld ?_
   refine ta 13 22 (Bs 14 22) HT_ HW_ hHeld ?_
   refine ta 15 24 (Br [14,1,1,6]) HT_ HW_ hHeld ?_
   refine ta 16 25 (Br [14,1,2,5]) HT_ HW_ hHeld ?_
   refine ta 17 26 (Br [14,1,3,4]) HT_ HW_ hHeld ?_
   refine one_ (i := 14) (N := some 23) (Bs 18 22) rfl rfl (one_of HT_.out (by kernel_rfl)) (by decide) (fun K hK => ?_)
   refine goes_ Try.func31 (by kernel_rfl) rfl #[.agg #[.int .i64 a2_0, .int .i64 a2_1], .agg #[.int .i64 a3_0, .int .i64 a3_1], .agg #[.int .i64 a0_0, .int .i64 a0_1]] (by rfl) rfl rfl (by (try simp only [List.map_toArray, List.map_cons, List.map_nil]); first | done | rfl | (simp only [List.length_drop, List.length_take]; rfl)) ?_
   with_reducible refine (silversideref01_Turn.calls a2_0 a2_1 a3_0 a3_1 a0_0 a0_1 t254 _ A13.out).mono ?_
   rintro e w18 ⟨rfl, hb⟩
   refine ⟨_, rfl, ?_⟩
   have n4_ := Aside0.mk (below_step lB hb)
   clear HB
   have HB := n4_
   clear n4_
   replace BK248 := Aside0.mk (blk_below (g := gb248) (o := .cells #[.int .i64 a0_0, .int .i64 a0_1] 31 (0, 0)) (kX BK248.out) hb)
   replace BK249 := Aside0.mk (blk_below (g := gb249) (o := .cells #[.int .i64 a1_0, .int .i64 a1_1] 31 (0, 0)) (kX BK249.out) hb)
   replace BK250 := Aside0.mk (blk_below (g := gb250) (o := .cells #[.int .i64 a2_0, .int .i64 a2_1] 31 (0, 0)) (kX BK250.out) hb)
   replace BK251 := Aside0.mk (blk_below (g := gb251) (o := .cells #[.int .i64 a3_0, .int .i64 a3_1] 31 (0, 0)) (kX BK251.out) hb)
   (try clear hb)
   (try clear hb2)
   (try clear hk)
   (try clear hi)
   refine hK.out _ _ ⟨(blk_cell BK248.out 0).trans rfl, (blk_cell BK248.out 1).trans rfl, (blk_cell BK249.out 0).trans rfl, (blk_cell BK249.out 1).trans rfl, (blk_cell BK250.out 0).trans rfl, (blk_cell BK250.out 1).trans rfl, (blk_cell BK251.out 0).trans rfl, (blk_cell BK251.out 1).trans rfl⟩ (fun hHeld => ?_)
   clear hK K
   refine nm 23 ?_
   refine one_ (i := 18) (N := some 27) (Bs 19 22) rfl rfl (one_of HT_.out (by kernel_rfl)) (by decide) (fun K hK => ?_)
   refine goes_ Try.func31 (by kernel_rfl) rfl #[.agg #[.int .i64 a2_0, .int .i64 a2_1], .agg #[.int .i64 a3_0, .int .i64 a3_1], .agg #[.int .i64 a1_0, .int .i64 a1_1]] (by rfl) rfl rfl (by (try simp only [List.map_toArray, List.map_cons, List.map_nil]); first | done | rfl | (simp only [List.length_drop, List.length_take]; rfl)) ?_
   with_reducible refine (silversideref01_Turn.calls a2_0 a2_1 a3_0 a3_1 a1_0 a1_1 t255 _ A14.out).mono ?_
   rintro e w19 ⟨rfl, hb⟩
   refine ⟨_, rfl, ?_⟩
   have n4_ := Aside0.mk (below_step lB hb)
   clear HB
   have HB := n4_
   clear n4_
   replace BK248 := Aside0.mk (blk_below (g := gb248) (o := .cells #[.int .i64 a0_0, .int .i64 a0_1] 31 (0, 0)) (kX BK248.out) hb)
   replace BK249 := Aside0.mk (blk_below (g := gb249) (o := .cells #[.int .i64 a1_0, .int .i64 a1_1] 31 (0, 0)) (kX BK249.out) hb)
   replace BK250 := Aside0.mk (blk_below (g := gb250) (o := .cells #[.int .i64 a2_0, .int .i64 a2_1] 31 (0, 0)) (kX BK250.out) hb)
   replace BK251 := Aside0.mk (blk_below (g := gb251) (o := .cells #[.int .i64 a3_0, .int .i64 a3_1] 31 (0, 0)) (kX BK251.out) hb)
   (try clear hb)
   (try clear hb2)
   (try clear hk)
   (try clear hi)
   refine hK.out _ _ ⟨(blk_cell BK248.out 0).trans rfl, (blk_cell BK248.out 1).trans rfl, (blk_cell BK249.out 0).trans rfl, (blk_cell BK249.out 1).trans rfl, (blk_cell BK250.out 0).trans rfl, (blk_cell BK250.out 1).trans rfl, (blk_cell BK251.out 0).trans rfl, (blk_cell BK251.out 1).trans rfl⟩ (fun hHeld => ?_)
   clear hK K
   refine nm 27 ?_
   refine pu 19 28 (Bs 20 22) HT_ ?_
   refine pu 20 29 (Bs 21 22) HT_ ?_
   refine pu 21 30 (Bs 22 22) HT_ ?_
   refine done_ (done_of HT_.out (by kernel_rfl)) ?_
   try go_wp2
   go_meet
   case rel => exact ⟨_, (decide ((wrap64 (t254 * t255)) < 0)), (by first | rfl | (simp; done) | (simp [*]; done)), H', ⟨by first | omega | exact Nat.le_refl _⟩, ⟨by (with_reducible repeat (first | refine kN ?_ _ | refine kD ?_ | refine kA ?_ _)); exact BK248.out⟩, ⟨by (with_reducible repeat (first | refine kN ?_ _ | refine kD ?_ | refine kA ?_ _)); exact BK249.out⟩, ⟨by (with_reducible repeat (first | refine kN ?_ _ | refine kD ?_ | refine kA ?_ _)); exact BK250.out⟩, ⟨by (with_reducible repeat (first | refine kN ?_ _ | refine kD ?_ | refine kA ?_ _)); exact BK251.out⟩, ⟨by repeat (first | (with_reducible first | exact HB.out | apply lA | apply lN | apply lD | refine lS ?_ GE248.out | refine lS ?_ GE249.out | refine lS ?_ GE250.out | refine lS ?_ GE251.out) | exact HB.out)⟩⟩
  rw [if_neg c12] at H
  have c12b0 : decide ((wrap64 (t252 * t253)) < 0) = false := decide_eq_false c12
  clear c12
  (first | rw [c12b0] | (simp only [i64_w, i32_w]; rw [c12b0]) | skip)
  have H' := Aside0.mk H
  clear H
  try go_wp2
  replace BK248 := Aside0.mk (kD BK248.out)
  replace BK249 := Aside0.mk (kD BK249.out)
  replace BK250 := Aside0.mk (kD BK250.out)
  replace BK251 := Aside0.mk (kD BK251.out)
  replace HB := Aside0.mk (lD HB.out)
  refine start_ (n := 22) (S := fun w' => w'.cell? ⟨gb248, 0, none⟩ = some (.int .i64 a0_0) ∧ w'.cell? ⟨gb248, 1, none⟩ = some (.int .i64 a0_1) ∧ w'.cell? ⟨gb249, 0, none⟩ = some (.int .i64 a1_0) ∧ w'.cell? ⟨gb249, 1, none⟩ = some (.int .i64 a1_1) ∧ w'.cell? ⟨gb250, 0, none⟩ = some (.int .i64 a2_0) ∧ w'.cell? ⟨gb250, 1, none⟩ = some (.int .i64 a2_1) ∧ w'.cell? ⟨gb251, 0, none⟩ = some (.int .i64 a3_0) ∧ w'.cell? ⟨gb251, 1, none⟩ = some (.int .i64 a3_1)) (ds := []) (Bs 0 22) (by kernel_rfl) rfl rfl ⟨(blk_cell BK248.out 0).trans rfl, (blk_cell BK248.out 1).trans rfl, (blk_cell BK249.out 0).trans rfl, (blk_cell BK249.out 1).trans rfl, (blk_cell BK250.out 0).trans rfl, (blk_cell BK250.out 1).trans rfl, (blk_cell BK251.out 0).trans rfl, (blk_cell BK251.out 1).trans rfl⟩ (fun hHeld => ?_); refine with_tabW silversideref01_meet.tab1 silversideref01_meet.bits1 (fun HT_ HW_ => ?_)
  generalize w9.drew = w20 at BK248 BK249 BK250 BK251 HB hHeld ⊢
  refine ta 0 9 (Bs 1 22) HT_ HW_ hHeld ?_
  refine ta 1 10 (Bs 2 22) HT_ HW_ hHeld ?_
  refine ta 2 11 (Bs 3 22) HT_ HW_ hHeld ?_
  refine ta 4 13 (Br [3,1,1,17]) HT_ HW_ hHeld ?_
  refine ta 5 14 (Br [3,1,2,16]) HT_ HW_ hHeld ?_
  refine ta 6 15 (Br [3,1,3,15]) HT_ HW_ hHeld ?_
  refine one_ (i := 3) (N := some 12) (Bs 7 22) rfl rfl (one_of HT_.out (by kernel_rfl)) (by decide) (fun K hK => ?_)
  refine goes_ Try.func31 (by kernel_rfl) rfl #[.agg #[.int .i64 a0_0, .int .i64 a0_1], .agg #[.int .i64 a1_0, .int .i64 a1_1], .agg #[.int .i64 a2_0, .int .i64 a2_1]] (by rfl) rfl rfl (by (try simp only [List.map_toArray, List.map_cons, List.map_nil]); first | done | rfl | (simp only [List.length_drop, List.length_take]; rfl)) ?_
  with_reducible refine (silversideref01_Turn.calls a0_0 a0_1 a1_0 a1_1 a2_0 a2_1 t252 _ A10.out).mono ?_
  rintro e w21 ⟨rfl, hb⟩
  refine ⟨_, rfl, ?_⟩
  have n4_ := Aside0.mk (below_step lB hb)
  clear HB
  have HB := n4_
  clear n4_
  replace BK248 := Aside0.mk (blk_below (g := gb248) (o := .cells #[.int .i64 a0_0, .int .i64 a0_1] 31 (0, 0)) (kX BK248.out) hb)
  replace BK249 := Aside0.mk (blk_below (g := gb249) (o := .cells #[.int .i64 a1_0, .int .i64 a1_1] 31 (0, 0)) (kX BK249.out) hb)
  replace BK250 := Aside0.mk (blk_below (g := gb250) (o := .cells #[.int .i64 a2_0, .int .i64 a2_1] 31 (0, 0)) (kX BK250.out) hb)
  replace BK251 := Aside0.mk (blk_below (g := gb251) (o := .cells #[.int .i64 a3_0, .int .i64 a3_1] 31 (0, 0)) (kX BK251.out) hb)
  (try clear hb)
  (try clear hb2)
  (try clear hk)
  (try clear hi)
  refine hK.out _ _ ⟨(blk_cell BK248.out 0).trans rfl, (blk_cell BK248.out 1).trans rfl, (blk_cell BK249.out 0).trans rfl, (blk_cell BK249.out 1).trans rfl, (blk_cell BK250.out 0).trans rfl, (blk_cell BK250.out 1).trans rfl, (blk_cell BK251.out 0).trans rfl, (blk_cell BK251.out 1).trans rfl⟩ (fun hHeld => ?_)
  clear hK K
  refine nm 12 ?_
  refine one_ (i := 7) (N := some 16) (Bs 8 22) rfl rfl (one_of HT_.out (by kernel_rfl)) (by decide) (fun K hK => ?_)
  refine goes_ Try.func31 (by kernel_rfl) rfl #[.agg #[.int .i64 a0_0, .int .i64 a0_1], .agg #[.int .i64 a1_0, .int .i64 a1_1], .agg #[.int .i64 a3_0, .int .i64 a3_1]] (by rfl) rfl rfl (by (try simp only [List.map_toArray, List.map_cons, List.map_nil]); first | done | rfl | (simp only [List.length_drop, List.length_take]; rfl)) ?_
  with_reducible refine (silversideref01_Turn.calls a0_0 a0_1 a1_0 a1_1 a3_0 a3_1 t253 _ A11.out).mono ?_
  rintro e w22 ⟨rfl, hb⟩
  refine ⟨_, rfl, ?_⟩
  have n4_ := Aside0.mk (below_step lB hb)
  clear HB
  have HB := n4_
  clear n4_
  replace BK248 := Aside0.mk (blk_below (g := gb248) (o := .cells #[.int .i64 a0_0, .int .i64 a0_1] 31 (0, 0)) (kX BK248.out) hb)
  replace BK249 := Aside0.mk (blk_below (g := gb249) (o := .cells #[.int .i64 a1_0, .int .i64 a1_1] 31 (0, 0)) (kX BK249.out) hb)
  replace BK250 := Aside0.mk (blk_below (g := gb250) (o := .cells #[.int .i64 a2_0, .int .i64 a2_1] 31 (0, 0)) (kX BK250.out) hb)
  replace BK251 := Aside0.mk (blk_below (g := gb251) (o := .cells #[.int .i64 a3_0, .int .i64 a3_1] 31 (0, 0)) (kX BK251.out) hb)
  (try clear hb)
  (try clear hb2)
  (try clear hk)
  (try clear hi)
  refine hK.out _ _ ⟨(blk_cell BK248.out 0).trans rfl, (blk_cell BK248.out 1).trans rfl, (blk_cell BK249.out 0).trans rfl, (blk_cell BK249.out 1).trans rfl, (blk_cell BK250.out 0).trans rfl, (blk_cell BK250.out 1).trans rfl, (blk_cell BK251.out 0).trans rfl, (blk_cell BK251.out 1).trans rfl⟩ (fun hHeld => ?_)
  clear hK K
  refine nm 16 ?_
  refine pu 8 17 (Bs 9 22) HT_ ?_
  refine pu 9 18 (Bs 10 22) HT_ ?_
  refine pu 10 19 (Bs 11 22) HT_ ?_
  refine po 11 20 (Bs 12 22) HT_ ?_
  refine po 12 21 (Bs 13 22) HT_ ?_
  refine po 13 22 (Bs 14 22) HT_ ?_
  refine po 14 23 (Bs 15 22) HT_ ?_
  refine po 15 24 (Bs 16 22) HT_ ?_
  refine po 16 25 (Bs 17 22) HT_ ?_
  refine po 17 26 (Bs 18 22) HT_ ?_
  refine po 18 27 (Bs 19 22) HT_ ?_
  refine po 19 28 (Bs 20 22) HT_ ?_
  refine po 20 29 (Bs 21 22) HT_ ?_
  refine pu 21 30 (Bs 22 22) HT_ ?_
  refine done_ (done_of HT_.out (by kernel_rfl)) ?_
  try go_wp2
  go_meet
  case rel => exact ⟨_, (false), (by first | rfl | (simp; done) | (simp [*]; done)), H', ⟨by first | omega | exact Nat.le_refl _⟩, ⟨by (with_reducible repeat (first | refine kN ?_ _ | refine kD ?_ | refine kA ?_ _)); exact BK248.out⟩, ⟨by (with_reducible repeat (first | refine kN ?_ _ | refine kD ?_ | refine kA ?_ _)); exact BK249.out⟩, ⟨by (with_reducible repeat (first | refine kN ?_ _ | refine kD ?_ | refine kA ?_ _)); exact BK250.out⟩, ⟨by (with_reducible repeat (first | refine kN ?_ _ | refine kD ?_ | refine kA ?_ _)); exact BK251.out⟩, ⟨by repeat (first | (with_reducible first | exact HB.out | apply lA | apply lN | apply lD | refine lS ?_ GE248.out | refine lS ?_ GE249.out | refine lS ?_ GE250.out | refine lS ?_ GE251.out) | exact HB.out)⟩⟩
 case rest =>
  clear HC5
  try clear c1
  try clear p2
  try clear c3
  try clear c6
  try clear p6
  try clear c12
  try clear c12b0
  obtain ⟨kq, x30_4, rfl, HA, HJ4, BK248, BK249, BK250, BK251, HB⟩ := hcut
  cases kq with
  | zero => exact absurd HA.out (by simp [silversideref01_meet.j0])
  | succ kj4 =>
   have H := HA.out
   clear HA
   simp only [silversideref01_meet.j0] at H
   by_cases c23 : x30_4 = true
   subst c23
   have H1 : (some true) = some r := by rw [if_pos rfl] at H; exact H
   clear H
   have H := H1
   clear H1
   obtain rfl := Option.some.inj H
   rotate_left 1
   replace c23 := Bool.eq_false_iff.mpr c23
   subst c23
   have H1 : ((silversideref01_on.f a0_0 a0_1 a1_0 a1_1 a2_0 a2_1).bind fun t256 => (if t256 = true then (some true) else ((silversideref01_on.f a0_0 a0_1 a1_0 a1_1 a3_0 a3_1).bind fun t257 => (if t257 = true then (some true) else ((silversideref01_on.f a2_0 a2_1 a3_0 a3_1 a0_0 a0_1).bind fun t258 => (if t258 = true then (some true) else ((silversideref01_on.f a2_0 a2_1 a3_0 a3_1 a1_0 a1_1).bind fun t259 => (some t259)))))))) = some r := by rw [if_neg (show ¬ (false = true) by decide)] at H; exact H
   clear H
   have H := H1
   clear H1
   replace H := Option.bind_eq_some_iff.mp H
   obtain ⟨t256, A240, H⟩ := H
   replace H : (if t256 = true then (some true) else ((silversideref01_on.f a0_0 a0_1 a1_0 a1_1 a3_0 a3_1).bind fun t257 => (if t257 = true then (some true) else ((silversideref01_on.f a2_0 a2_1 a3_0 a3_1 a0_0 a0_1).bind fun t258 => (if t258 = true then (some true) else ((silversideref01_on.f a2_0 a2_1 a3_0 a3_1 a1_0 a1_1).bind fun t259 => (some t259))))))) = some r := H
   have A24 := Aside0.mk A240
   clear A240
   by_cases c25 : t256 = true
   subst c25
   have H1 : (some true) = some r := by rw [if_pos rfl] at H; exact H
   clear H
   have H := H1
   clear H1
   obtain rfl := Option.some.inj H
   have hnb26 := NB248_249.out
   have hnc26 := NB249_248.out
   have hnb27 := NB248_250.out
   have hnc27 := NB250_248.out
   have hnb28 := NB248_251.out
   have hnc28 := NB251_248.out
   have hcz29_0 : wc.cell? ⟨gb248, 0, none⟩ = some (.int .i64 a0_0) := (blk_cell BK248.out 0).trans rfl
   have hcz29_1 : wc.cell? ⟨gb248, 1, none⟩ = some (.int .i64 a0_1) := (blk_cell BK248.out 1).trans rfl
   have hfz29_0 := blk_frozen BK248.out 0
   have hfz29_1 := blk_frozen BK248.out 1
   have hnb30 := NB249_250.out
   have hnc30 := NB250_249.out
   have hnb31 := NB249_251.out
   have hnc31 := NB251_249.out
   have hcz32_0 : wc.cell? ⟨gb249, 0, none⟩ = some (.int .i64 a1_0) := (blk_cell BK249.out 0).trans rfl
   have hcz32_1 : wc.cell? ⟨gb249, 1, none⟩ = some (.int .i64 a1_1) := (blk_cell BK249.out 1).trans rfl
   have hfz32_0 := blk_frozen BK249.out 0
   have hfz32_1 := blk_frozen BK249.out 1
   have hnb33 := NB250_251.out
   have hnc33 := NB251_250.out
   have hcz34_0 : wc.cell? ⟨gb250, 0, none⟩ = some (.int .i64 a2_0) := (blk_cell BK250.out 0).trans rfl
   have hcz34_1 : wc.cell? ⟨gb250, 1, none⟩ = some (.int .i64 a2_1) := (blk_cell BK250.out 1).trans rfl
   have hfz34_0 := blk_frozen BK250.out 0
   have hfz34_1 := blk_frozen BK250.out 1
   rotate_left 1
   replace c25 := Bool.eq_false_iff.mpr c25
   subst c25
   have H1 : ((silversideref01_on.f a0_0 a0_1 a1_0 a1_1 a3_0 a3_1).bind fun t257 => (if t257 = true then (some true) else ((silversideref01_on.f a2_0 a2_1 a3_0 a3_1 a0_0 a0_1).bind fun t258 => (if t258 = true then (some true) else ((silversideref01_on.f a2_0 a2_1 a3_0 a3_1 a1_0 a1_1).bind fun t259 => (some t259)))))) = some r := by rw [if_neg (show ¬ (false = true) by decide)] at H; exact H
   clear H
   have H := H1
   clear H1
   replace H := Option.bind_eq_some_iff.mp H
   obtain ⟨t257, A360, H⟩ := H
   replace H : (if t257 = true then (some true) else ((silversideref01_on.f a2_0 a2_1 a3_0 a3_1 a0_0 a0_1).bind fun t258 => (if t258 = true then (some true) else ((silversideref01_on.f a2_0 a2_1 a3_0 a3_1 a1_0 a1_1).bind fun t259 => (some t259))))) = some r := H
   have A36 := Aside0.mk A360
   clear A360
   by_cases c37 : t257 = true
   subst c37
   have H1 : (some true) = some r := by rw [if_pos rfl] at H; exact H
   clear H
   have H := H1
   clear H1
   obtain rfl := Option.some.inj H
   have hnb38 := NB248_249.out
   have hnc38 := NB249_248.out
   have hnb39 := NB248_250.out
   have hnc39 := NB250_248.out
   have hnb40 := NB248_251.out
   have hnc40 := NB251_248.out
   have hcz41_0 : wc.cell? ⟨gb248, 0, none⟩ = some (.int .i64 a0_0) := (blk_cell BK248.out 0).trans rfl
   have hcz41_1 : wc.cell? ⟨gb248, 1, none⟩ = some (.int .i64 a0_1) := (blk_cell BK248.out 1).trans rfl
   have hfz41_0 := blk_frozen BK248.out 0
   have hfz41_1 := blk_frozen BK248.out 1
   have hnb42 := NB249_250.out
   have hnc42 := NB250_249.out
   have hnb43 := NB249_251.out
   have hnc43 := NB251_249.out
   have hcz44_0 : wc.cell? ⟨gb249, 0, none⟩ = some (.int .i64 a1_0) := (blk_cell BK249.out 0).trans rfl
   have hcz44_1 : wc.cell? ⟨gb249, 1, none⟩ = some (.int .i64 a1_1) := (blk_cell BK249.out 1).trans rfl
   have hfz44_0 := blk_frozen BK249.out 0
   have hfz44_1 := blk_frozen BK249.out 1
   have hnb45 := NB250_251.out
   have hnc45 := NB251_250.out
   have hcz46_0 : wc.cell? ⟨gb250, 0, none⟩ = some (.int .i64 a2_0) := (blk_cell BK250.out 0).trans rfl
   have hcz46_1 : wc.cell? ⟨gb250, 1, none⟩ = some (.int .i64 a2_1) := (blk_cell BK250.out 1).trans rfl
   have hfz46_0 := blk_frozen BK250.out 0
   have hfz46_1 := blk_frozen BK250.out 1
   rotate_left 1
   replace c37 := Bool.eq_false_iff.mpr c37
   subst c37
   have H1 : ((silversideref01_on.f a2_0 a2_1 a3_0 a3_1 a0_0 a0_1).bind fun t258 => (if t258 = true then (some true) else ((silversideref01_on.f a2_0 a2_1 a3_0 a3_1 a1_0 a1_1).bind fun t259 => (some t259)))) = some r := by rw [if_neg (show ¬ (false = true) by decide)] at H; exact H
   clear H
   have H := H1
   clear H1
   replace H := Option.bind_eq_some_iff.mp H
   obtain ⟨t258, A520, H⟩ := H
   replace H : (if t258 = true then (some true) else ((silversideref01_on.f a2_0 a2_1 a3_0 a3_1 a1_0 a1_1).bind fun t259 => (some t259))) = some r := H
   have A52 := Aside0.mk A520
   clear A520
   by_cases c53 : t258 = true
   subst c53
   have H1 : (some true) = some r := by rw [if_pos rfl] at H; exact H
   clear H
   have H := H1
   clear H1
   obtain rfl := Option.some.inj H
   have hnb54 := NB248_249.out
   have hnc54 := NB249_248.out
   have hnb55 := NB248_250.out
   have hnc55 := NB250_248.out
   have hnb56 := NB248_251.out
   have hnc56 := NB251_248.out
   have hcz57_0 : wc.cell? ⟨gb248, 0, none⟩ = some (.int .i64 a0_0) := (blk_cell BK248.out 0).trans rfl
   have hcz57_1 : wc.cell? ⟨gb248, 1, none⟩ = some (.int .i64 a0_1) := (blk_cell BK248.out 1).trans rfl
   have hfz57_0 := blk_frozen BK248.out 0
   have hfz57_1 := blk_frozen BK248.out 1
   have hnb58 := NB249_250.out
   have hnc58 := NB250_249.out
   have hnb59 := NB249_251.out
   have hnc59 := NB251_249.out
   have hcz60_0 : wc.cell? ⟨gb249, 0, none⟩ = some (.int .i64 a1_0) := (blk_cell BK249.out 0).trans rfl
   have hcz60_1 : wc.cell? ⟨gb249, 1, none⟩ = some (.int .i64 a1_1) := (blk_cell BK249.out 1).trans rfl
   have hfz60_0 := blk_frozen BK249.out 0
   have hfz60_1 := blk_frozen BK249.out 1
   have hnb61 := NB250_251.out
   have hnc61 := NB251_250.out
   have hcz62_0 : wc.cell? ⟨gb250, 0, none⟩ = some (.int .i64 a2_0) := (blk_cell BK250.out 0).trans rfl
   have hcz62_1 : wc.cell? ⟨gb250, 1, none⟩ = some (.int .i64 a2_1) := (blk_cell BK250.out 1).trans rfl
   have hfz62_0 := blk_frozen BK250.out 0
   have hfz62_1 := blk_frozen BK250.out 1
   rotate_left 1
   replace c53 := Bool.eq_false_iff.mpr c53
   subst c53
   have H1 : ((silversideref01_on.f a2_0 a2_1 a3_0 a3_1 a1_0 a1_1).bind fun t259 => (some t259)) = some r := by rw [if_neg (show ¬ (false = true) by decide)] at H; exact H
   clear H
   have H := H1
   clear H1
   replace H := Option.bind_eq_some_iff.mp H
   obtain ⟨t259, A720, H⟩ := H
   replace H : (some t259) = some r := H
   have A72 := Aside0.mk A720
   clear A720
   obtain rfl := Option.some.inj H
   have hnb73 := NB248_249.out
   have hnc73 := NB249_248.out
   have hnb74 := NB248_250.out
   have hnc74 := NB250_248.out
   have hnb75 := NB248_251.out
   have hnc75 := NB251_248.out
   have hcz76_0 : wc.cell? ⟨gb248, 0, none⟩ = some (.int .i64 a0_0) := (blk_cell BK248.out 0).trans rfl
   have hcz76_1 : wc.cell? ⟨gb248, 1, none⟩ = some (.int .i64 a0_1) := (blk_cell BK248.out 1).trans rfl
   have hfz76_0 := blk_frozen BK248.out 0
   have hfz76_1 := blk_frozen BK248.out 1
   have hnb77 := NB249_250.out
   have hnc77 := NB250_249.out
   have hnb78 := NB249_251.out
   have hnc78 := NB251_249.out
   have hcz79_0 : wc.cell? ⟨gb249, 0, none⟩ = some (.int .i64 a1_0) := (blk_cell BK249.out 0).trans rfl
   have hcz79_1 : wc.cell? ⟨gb249, 1, none⟩ = some (.int .i64 a1_1) := (blk_cell BK249.out 1).trans rfl
   have hfz79_0 := blk_frozen BK249.out 0
   have hfz79_1 := blk_frozen BK249.out 1
   have hnb80 := NB250_251.out
   have hnc80 := NB251_250.out
   have hcz81_0 : wc.cell? ⟨gb250, 0, none⟩ = some (.int .i64 a2_0) := (blk_cell BK250.out 0).trans rfl
   have hcz81_1 : wc.cell? ⟨gb250, 1, none⟩ = some (.int .i64 a2_1) := (blk_cell BK250.out 1).trans rfl
   have hfz81_0 := blk_frozen BK250.out 0
   have hfz81_1 := blk_frozen BK250.out 1
   all_goals go_wp2_with (first | ((with_reducible refine gate_callee (f := 59) rfl ?_); refine goesL_ (some 34) rfl rfl Try.func59 (by kernel_rfl) rfl #[.agg #[.int .i64 a0_0, .int .i64 a0_1], .agg #[.int .i64 a1_0, .int .i64 a1_1], .agg #[.int .i64 a2_0, .int .i64 a2_1]] rfl (by (try simp only [List.map_toArray, List.map_cons, List.map_nil]); first | done | rfl | (simp only [List.length_drop, List.length_take]; rfl)) ?_; (with_reducible refine (silversideref01_on.calls a0_0 a0_1 a1_0 a1_1 a2_0 a2_1 false _ A24.out).mono ?_); rintro e wz0 ⟨rfl, hb⟩; refine ⟨_, rfl, ?_⟩; have n0_ := Aside0.mk (blk_below (g := gb248) (o := .cells #[.int .i64 a0_0, .int .i64 a0_1] 31 (0, 0)) (kX BK248.out) hb); have n1_ := Aside0.mk (blk_below (g := gb249) (o := .cells #[.int .i64 a1_0, .int .i64 a1_1] 31 (0, 0)) (kX BK249.out) hb); have n2_ := Aside0.mk (blk_below (g := gb250) (o := .cells #[.int .i64 a2_0, .int .i64 a2_1] 31 (0, 0)) (kX BK250.out) hb); have n3_ := Aside0.mk (blk_below (g := gb251) (o := .cells #[.int .i64 a3_0, .int .i64 a3_1] 31 (0, 0)) (kX BK251.out) hb); have n4_ := Aside0.mk (below_step lB hb); clear BK248; clear BK249; clear BK250; clear BK251; clear HB; have BK248 := n0_; have BK249 := n1_; have BK250 := n2_; have BK251 := n3_; have HB := n4_; clear n0_ n1_ n2_ n3_ n4_; (try clear hb); (try clear hb2); (try clear hk); (try clear hi); have hcz48_0 : wz0.cell? ⟨gb248, 0, none⟩ = some (.int .i64 a0_0) := (blk_cell BK248.out 0).trans rfl; have hcz48_1 : wz0.cell? ⟨gb248, 1, none⟩ = some (.int .i64 a0_1) := (blk_cell BK248.out 1).trans rfl; have hfz48_0 := blk_frozen BK248.out 0; have hfz48_1 := blk_frozen BK248.out 1; have hcz49_0 : wz0.cell? ⟨gb249, 0, none⟩ = some (.int .i64 a1_0) := (blk_cell BK249.out 0).trans rfl; have hcz49_1 : wz0.cell? ⟨gb249, 1, none⟩ = some (.int .i64 a1_1) := (blk_cell BK249.out 1).trans rfl; have hfz49_0 := blk_frozen BK249.out 0; have hfz49_1 := blk_frozen BK249.out 1; have hcz50_0 : wz0.cell? ⟨gb251, 0, none⟩ = some (.int .i64 a3_0) := (blk_cell BK251.out 0).trans rfl; have hcz50_1 : wz0.cell? ⟨gb251, 1, none⟩ = some (.int .i64 a3_1) := (blk_cell BK251.out 1).trans rfl; have hfz50_0 := blk_frozen BK251.out 0; have hfz50_1 := blk_frozen BK251.out 1) | (go_at_call 59; (with_reducible refine (silversideref01_on.calls a0_0 a0_1 a1_0 a1_1 a3_0 a3_1 false _ A36.out).mono ?_); rintro e wz1 ⟨rfl, hb⟩; have n0_ := Aside0.mk (blk_below (g := gb248) (o := .cells #[.int .i64 a0_0, .int .i64 a0_1] 31 (0, 0)) (kX BK248.out) hb); have n1_ := Aside0.mk (blk_below (g := gb249) (o := .cells #[.int .i64 a1_0, .int .i64 a1_1] 31 (0, 0)) (kX BK249.out) hb); have n2_ := Aside0.mk (blk_below (g := gb250) (o := .cells #[.int .i64 a2_0, .int .i64 a2_1] 31 (0, 0)) (kX BK250.out) hb); have n3_ := Aside0.mk (blk_below (g := gb251) (o := .cells #[.int .i64 a3_0, .int .i64 a3_1] 31 (0, 0)) (kX BK251.out) hb); have n4_ := Aside0.mk (below_step lB hb); clear BK248; clear BK249; clear BK250; clear BK251; clear HB; have BK248 := n0_; have BK249 := n1_; have BK250 := n2_; have BK251 := n3_; have HB := n4_; clear n0_ n1_ n2_ n3_ n4_; (try clear hb); (try clear hb2); (try clear hk); (try clear hi); have hcz68_0 : wz1.cell? ⟨gb250, 0, none⟩ = some (.int .i64 a2_0) := (blk_cell BK250.out 0).trans rfl; have hcz68_1 : wz1.cell? ⟨gb250, 1, none⟩ = some (.int .i64 a2_1) := (blk_cell BK250.out 1).trans rfl; have hfz68_0 := blk_frozen BK250.out 0; have hfz68_1 := blk_frozen BK250.out 1; have hcz69_0 : wz1.cell? ⟨gb251, 0, none⟩ = some (.int .i64 a3_0) := (blk_cell BK251.out 0).trans rfl; have hcz69_1 : wz1.cell? ⟨gb251, 1, none⟩ = some (.int .i64 a3_1) := (blk_cell BK251.out 1).trans rfl; have hfz69_0 := blk_frozen BK251.out 0; have hfz69_1 := blk_frozen BK251.out 1; have hcz70_0 : wz1.cell? ⟨gb248, 0, none⟩ = some (.int .i64 a0_0) := (blk_cell BK248.out 0).trans rfl; have hcz70_1 : wz1.cell? ⟨gb248, 1, none⟩ = some (.int .i64 a0_1) := (blk_cell BK248.out 1).trans rfl; have hfz70_0 := blk_frozen BK248.out 0; have hfz70_1 := blk_frozen BK248.out 1) | (go_at_call 59; (with_reducible refine (silversideref01_on.calls a2_0 a2_1 a3_0 a3_1 a0_0 a0_1 false _ A52.out).mono ?_); rintro e wz2 ⟨rfl, hb⟩; have n0_ := Aside0.mk (blk_below (g := gb248) (o := .cells #[.int .i64 a0_0, .int .i64 a0_1] 31 (0, 0)) (kX BK248.out) hb); have n1_ := Aside0.mk (blk_below (g := gb249) (o := .cells #[.int .i64 a1_0, .int .i64 a1_1] 31 (0, 0)) (kX BK249.out) hb); have n2_ := Aside0.mk (blk_below (g := gb250) (o := .cells #[.int .i64 a2_0, .int .i64 a2_1] 31 (0, 0)) (kX BK250.out) hb); have n3_ := Aside0.mk (blk_below (g := gb251) (o := .cells #[.int .i64 a3_0, .int .i64 a3_1] 31 (0, 0)) (kX BK251.out) hb); have n4_ := Aside0.mk (below_step lB hb); clear BK248; clear BK249; clear BK250; clear BK251; clear HB; have BK248 := n0_; have BK249 := n1_; have BK250 := n2_; have BK251 := n3_; have HB := n4_; clear n0_ n1_ n2_ n3_ n4_; (try clear hb); (try clear hb2); (try clear hk); (try clear hi); have hcz91_0 : wz2.cell? ⟨gb250, 0, none⟩ = some (.int .i64 a2_0) := (blk_cell BK250.out 0).trans rfl; have hcz91_1 : wz2.cell? ⟨gb250, 1, none⟩ = some (.int .i64 a2_1) := (blk_cell BK250.out 1).trans rfl; have hfz91_0 := blk_frozen BK250.out 0; have hfz91_1 := blk_frozen BK250.out 1; have hcz92_0 : wz2.cell? ⟨gb251, 0, none⟩ = some (.int .i64 a3_0) := (blk_cell BK251.out 0).trans rfl; have hcz92_1 : wz2.cell? ⟨gb251, 1, none⟩ = some (.int .i64 a3_1) := (blk_cell BK251.out 1).trans rfl; have hfz92_0 := blk_frozen BK251.out 0; have hfz92_1 := blk_frozen BK251.out 1; have hcz93_0 : wz2.cell? ⟨gb249, 0, none⟩ = some (.int .i64 a1_0) := (blk_cell BK249.out 0).trans rfl; have hcz93_1 : wz2.cell? ⟨gb249, 1, none⟩ = some (.int .i64 a1_1) := (blk_cell BK249.out 1).trans rfl; have hfz93_0 := blk_frozen BK249.out 0; have hfz93_1 := blk_frozen BK249.out 1) | (go_at_call 59; (with_reducible refine (silversideref01_on.calls a2_0 a2_1 a3_0 a3_1 a1_0 a1_1 t259 _ A72.out).mono ?_); rintro e wz3 ⟨rfl, hb⟩; have n0_ := Aside0.mk (blk_below (g := gb248) (o := .cells #[.int .i64 a0_0, .int .i64 a0_1] 31 (0, 0)) (kX BK248.out) hb); have n1_ := Aside0.mk (blk_below (g := gb249) (o := .cells #[.int .i64 a1_0, .int .i64 a1_1] 31 (0, 0)) (kX BK249.out) hb); have n2_ := Aside0.mk (blk_below (g := gb250) (o := .cells #[.int .i64 a2_0, .int .i64 a2_1] 31 (0, 0)) (kX BK250.out) hb); have n3_ := Aside0.mk (blk_below (g := gb251) (o := .cells #[.int .i64 a3_0, .int .i64 a3_1] 31 (0, 0)) (kX BK251.out) hb); have n4_ := Aside0.mk (below_step lB hb); clear BK248; clear BK249; clear BK250; clear BK251; clear HB; have BK248 := n0_; have BK249 := n1_; have BK250 := n2_; have BK251 := n3_; have HB := n4_; clear n0_ n1_ n2_ n3_ n4_; (try clear hb); (try clear hb2); (try clear hk); (try clear hi)) | (go_at_call 59; (with_reducible refine (silversideref01_on.calls a2_0 a2_1 a3_0 a3_1 a0_0 a0_1 true _ A52.out).mono ?_); rintro e wz2 ⟨rfl, hb⟩; have n0_ := Aside0.mk (blk_below (g := gb248) (o := .cells #[.int .i64 a0_0, .int .i64 a0_1] 31 (0, 0)) (kX BK248.out) hb); have n1_ := Aside0.mk (blk_below (g := gb249) (o := .cells #[.int .i64 a1_0, .int .i64 a1_1] 31 (0, 0)) (kX BK249.out) hb); have n2_ := Aside0.mk (blk_below (g := gb250) (o := .cells #[.int .i64 a2_0, .int .i64 a2_1] 31 (0, 0)) (kX BK250.out) hb); have n3_ := Aside0.mk (blk_below (g := gb251) (o := .cells #[.int .i64 a3_0, .int .i64 a3_1] 31 (0, 0)) (kX BK251.out) hb); have n4_ := Aside0.mk (below_step lB hb); clear BK248; clear BK249; clear BK250; clear BK251; clear HB; have BK248 := n0_; have BK249 := n1_; have BK250 := n2_; have BK251 := n3_; have HB := n4_; clear n0_ n1_ n2_ n3_ n4_; (try clear hb); (try clear hb2); (try clear hk); (try clear hi)) | (go_at_call 59; (with_reducible refine (silversideref01_on.calls a0_0 a0_1 a1_0 a1_1 a3_0 a3_1 true _ A36.out).mono ?_); rintro e wz1 ⟨rfl, hb⟩; have n0_ := Aside0.mk (blk_below (g := gb248) (o := .cells #[.int .i64 a0_0, .int .i64 a0_1] 31 (0, 0)) (kX BK248.out) hb); have n1_ := Aside0.mk (blk_below (g := gb249) (o := .cells #[.int .i64 a1_0, .int .i64 a1_1] 31 (0, 0)) (kX BK249.out) hb); have n2_ := Aside0.mk (blk_below (g := gb250) (o := .cells #[.int .i64 a2_0, .int .i64 a2_1] 31 (0, 0)) (kX BK250.out) hb); have n3_ := Aside0.mk (blk_below (g := gb251) (o := .cells #[.int .i64 a3_0, .int .i64 a3_1] 31 (0, 0)) (kX BK251.out) hb); have n4_ := Aside0.mk (below_step lB hb); clear BK248; clear BK249; clear BK250; clear BK251; clear HB; have BK248 := n0_; have BK249 := n1_; have BK250 := n2_; have BK251 := n3_; have HB := n4_; clear n0_ n1_ n2_ n3_ n4_; (try clear hb); (try clear hb2); (try clear hk); (try clear hi)) | ((with_reducible refine gate_callee (f := 59) rfl ?_); refine goesL_ (some 34) rfl rfl Try.func59 (by kernel_rfl) rfl #[.agg #[.int .i64 a0_0, .int .i64 a0_1], .agg #[.int .i64 a1_0, .int .i64 a1_1], .agg #[.int .i64 a2_0, .int .i64 a2_1]] rfl (by (try simp only [List.map_toArray, List.map_cons, List.map_nil]); first | done | rfl | (simp only [List.length_drop, List.length_take]; rfl)) ?_; (with_reducible refine (silversideref01_on.calls a0_0 a0_1 a1_0 a1_1 a2_0 a2_1 true _ A24.out).mono ?_); rintro e wz0 ⟨rfl, hb⟩; refine ⟨_, rfl, ?_⟩; have n0_ := Aside0.mk (blk_below (g := gb248) (o := .cells #[.int .i64 a0_0, .int .i64 a0_1] 31 (0, 0)) (kX BK248.out) hb); have n1_ := Aside0.mk (blk_below (g := gb249) (o := .cells #[.int .i64 a1_0, .int .i64 a1_1] 31 (0, 0)) (kX BK249.out) hb); have n2_ := Aside0.mk (blk_below (g := gb250) (o := .cells #[.int .i64 a2_0, .int .i64 a2_1] 31 (0, 0)) (kX BK250.out) hb); have n3_ := Aside0.mk (blk_below (g := gb251) (o := .cells #[.int .i64 a3_0, .int .i64 a3_1] 31 (0, 0)) (kX BK251.out) hb); have n4_ := Aside0.mk (below_step lB hb); clear BK248; clear BK249; clear BK250; clear BK251; clear HB; have BK248 := n0_; have BK249 := n1_; have BK250 := n2_; have BK251 := n3_; have HB := n4_; clear n0_ n1_ n2_ n3_ n4_; (try clear hb); (try clear hb2); (try clear hk); (try clear hi)))
   all_goals first
     | (go_ret
        exact en)

end Go.Proofs.Ythaklbjcjoolcaa.P
namespace Go.Proofs.Ythaklbjcjoolcaa.P
open Go.RowKit Go.Proofs.YthaklbjcjoolcaaW.PrintWords Go.Proofs.YthaklbjcjoolcaaW.PrintLast Go.Proofs.YthaklbjcjoolcaaW.PrintMore
theorem onB_crs {a b p : S31} (h : onB a b p = true) : crs a b p = 0 := by
  unfold onB at h
  simp only [Bool.and_eq_true, decide_eq_true_eq] at h
  exact h.1
theorem has_is {a b p : S31} (ha : okPt a = true) (hb : okPt b = true) (hp : okPt p = true) : plane_segment_has.f a.f0 a.f1 b.f0 b.f1 p.f0 p.f1 = some (onB a b p) := by
  unfold plane_segment_has.f onB
  rw [turn_is ha hb hp, Option.bind_some, within_is, within_is]
  simp only [Option.bind_some]
  by_cases h : crs a b p = 0
  · rw [if_pos (sgn_zero.2 h), h]
    by_cases h2 : mn a.f0 b.f0 ≤ p.f0 ∧ p.f0 ≤ mx a.f0 b.f0
    · rw [if_pos (decide_eq_true h2)]; simp [h2.1, h2.2]
    · rw [if_neg (by simpa using h2)]
      by_cases h3 : mn a.f0 b.f0 ≤ p.f0
      · have h4 : ¬ p.f0 ≤ mx a.f0 b.f0 := fun h4 => h2 ⟨h3, h4⟩
        simp [h4]
      · simp [h3]
  · rw [if_neg (fun h' => h (sgn_zero.1 h'))]; simp [h]
/-- two segments have a point in common -/
def meetB (a b c d : S31) : Bool := onB a b c || (onB a b d || (onB c d a || (onB c d b || (decide (sgn (crs a b c) * sgn (crs a b d) < 0) && decide (sgn (crs c d a) * sgn (crs c d b) < 0)))))
theorem w64_sgn (x y : Int) : wrap64 (sgn x * sgn y) = sgn x * sgn y := by
  have h := mul_bd (m := 1) (n := 1) (sgn_bd x) (sgn_bd y)
  exact w64i (by omega) (by omega)
theorem meets_is {a b c d : S31} (ha : okPt a = true) (hb : okPt b = true) (hc : okPt c = true) (hd : okPt d = true) (k : Nat) : plane_segment_meets.f (k + 1) a.f0 a.f1 b.f0 b.f1 c.f0 c.f1 d.f0 d.f1 = some (meetB a b c d) := by
  have hj : ∀ x : Bool, plane_segment_meets.j0 (k + 1) x a.f0 a.f1 b.f0 b.f1 c.f0 c.f1 d.f0 d.f1 = some (x || (decide (sgn (crs a b c) * sgn (crs a b d) < 0) && decide (sgn (crs c d a) * sgn (crs c d b) < 0))) := by
    intro x
    rw [plane_segment_meets.j0, turn_is ha hb hc, turn_is ha hb hd, turn_is hc hd ha, turn_is hc hd hb]
    simp only [Option.bind_some, w64_sgn]
    cases x
    · by_cases h : sgn (crs a b c) * sgn (crs a b d) < 0
      · simp [h]
      · simp [h]
    · rfl
  unfold plane_segment_meets.f meetB
  simp only [hj]
  rw [has_is ha hb hc, has_is ha hb hd, has_is hc hd ha, has_is hc hd hb]
  simp only [Option.bind_some]
  cases onB a b c <;> cases onB a b d <;> cases onB c d a <;> cases onB c d b <;> rfl
theorem on_is {a b p : S31} (ha : okPt a = true) (hb : okPt b = true) (hp : okPt p = true) : silversideref01_on.f a.f0 a.f1 b.f0 b.f1 p.f0 p.f1 = some (onB a b p) := by
  unfold silversideref01_on.f onB
  rw [refturn_same, turn_is ha hb hp, Option.bind_some]
  by_cases h : crs a b p = 0
  · rw [if_pos (sgn_zero.2 h), h]
    by_cases h1 : mn a.f0 b.f0 ≤ p.f0
    · rw [if_pos h1]
      by_cases h2 : p.f0 ≤ mx a.f0 b.f0
      · rw [if_pos h2]
        by_cases h3 : mn a.f1 b.f1 ≤ p.f1
        · rw [if_pos h3]; simp [h1, h2, h3]
        · rw [if_neg h3]; simp [h3]
      · rw [if_neg h2]; simp [h2]
    · rw [if_neg h1]; simp [h1]
  · rw [if_neg (fun h' => h (sgn_zero.1 h'))]; simp [h]
theorem refmeet_is {a b c d : S31} (ha : okPt a = true) (hb : okPt b = true) (hc : okPt c = true) (hd : okPt d = true) (k : Nat) : silversideref01_meet.f (k + 1) a.f0 a.f1 b.f0 b.f1 c.f0 c.f1 d.f0 d.f1 = some (meetB a b c d) := by
  have hj : ∀ x : Bool, silversideref01_meet.j0 (k + 1) x a.f0 a.f1 b.f0 b.f1 c.f0 c.f1 d.f0 d.f1 = some (x || (onB a b c || (onB a b d || (onB c d a || onB c d b)))) := by
    intro x
    rw [silversideref01_meet.j0, on_is ha hb hc, on_is ha hb hd, on_is hc hd ha, on_is hc hd hb]
    simp only [Option.bind_some]
    cases x <;> cases onB a b c <;> cases onB a b d <;> cases onB c d a <;> cases onB c d b <;> rfl
  unfold silversideref01_meet.f meetB
  simp only [refturn_same, hj]
  rw [turn_is ha hb hc, turn_is ha hb hd, turn_is hc hd ha, turn_is hc hd hb]
  simp only [Option.bind_some, w64_sgn]
  by_cases h : sgn (crs a b c) * sgn (crs a b d) < 0
  · rw [if_pos h, decide_eq_true h]
    generalize decide (sgn (crs c d a) * sgn (crs c d b) < 0) = z
    cases z <;> cases onB a b c <;> cases onB a b d <;> cases onB c d a <;> cases onB c d b <;> rfl
  · rw [if_neg h, decide_eq_false h]
    cases onB a b c <;> cases onB a b d <;> cases onB c d a <;> cases onB c d b <;> rfl
end Go.Proofs.Ythaklbjcjoolcaa.P
namespace Go.Proofs.Ythaklbjcjoolcaa.P
open Go.RowKit Go.Proofs.YthaklbjcjoolcaaW.PrintWords Go.Proofs.YthaklbjcjoolcaaW.PrintLast Go.Proofs.YthaklbjcjoolcaaW.PrintMore
attribute [local go_sem] max2_int min2_int max_two min_two max_three min_three max_four min_four   -- for this text's walks alone

/-! ### silversideref01_next: function 54 -/
def silversideref01_next.f (a0 : Int) (a1 : Int) : Option (Int) := if (wrap64 (a0 + 1)) < a1 then (some (wrap64 (a0 + 1))) else (some 0)
set_option maxHeartbeats 8000000 in
set_option maxRecDepth 100000 in
theorem silversideref01_next.calls (a0 : Int) (a1 : Int) (r : Int) (w : World) (h : silversideref01_next.f a0 a1 = some r) :
  Calls Try.prog 54 #[.int .i64 a0, .int .i64 a1] w fun e w' => e = .returned (.int .i64 r) ∧ Drawn0 w w' := by
 have H : (if (wrap64 (a0 + 1)) < a1 then (some (wrap64 (a0 + 1))) else (some 0)) = some r := h
 clear h
 by_cases c3 : (wrap64 (a0 + 1)) < a1
 ·rw [if_pos c3] at H
  have c3b0 : decide ((wrap64 (a0 + 1)) < a1) = true := decide_eq_true c3
  clear c3
  obtain rfl := Option.some.inj H
  go_enter Try.func54, Try.ntmps54
  go_wp2
  go_ret
  exact ⟨by first | rfl | (simp; done) | (simp [*]; done), by repeat (first | exact Drawn0.refl _ | apply Drawn0.step)⟩
 rw [if_neg c3] at H
 have c3b0 : decide ((wrap64 (a0 + 1)) < a1) = false := decide_eq_false c3
 clear c3
 obtain rfl := Option.some.inj H
 go_enter Try.func54, Try.ntmps54
 go_wp2
 go_ret
 exact ⟨by first | rfl | (simp; done) | (simp [*]; done), by repeat (first | exact Drawn0.refl _ | apply Drawn0.step)⟩

end Go.Proofs.Ythaklbjcjoolcaa.P
namespace Go.Proofs.Ythaklbjcjoolcaa.P
open Go.RowKit Go.Proofs.YthaklbjcjoolcaaW.PrintWords Go.Proofs.YthaklbjcjoolcaaW.PrintLast Go.Proofs.YthaklbjcjoolcaaW.PrintMore
def nx (l : List S31) (i : Nat) : Nat := (i + 1) % l.length
def rowB (l : List S31) (i : Nat) : Nat → Nat → Bool
  | 0, _ => true
  | n + 1, k => (decide (nx l k = i) || !meetB (pt l i) (pt l (nx l i)) (pt l k) (pt l (nx l k))) && rowB l i n (k + 1)
def eqE (l : List S31) (i : Nat) : Bool := (pt l i).f0 == (pt l (nx l i)).f0 && ((pt l i).f1 == (pt l (nx l i)).f1)
def xB (l : List S31) (i : Nat) : Bool := onB (pt l (nx l i)) (pt l (nx l (nx l i))) (pt l i) || onB (pt l i) (pt l (nx l i)) (pt l (nx l (nx l i)))
/-- no two edges from the i-th on touch that must not, and no edge is a point -/
def simB (l : List S31) : Nat → Nat → Bool
  | 0, _ => true
  | n + 1, i => (!eqE l i && (!xB l i && rowB l i (l.length - (i + 2)) (i + 2))) && simB l n (i + 1)
def neB (l : List S31) : Nat → Nat → Bool
  | 0, _ => true
  | n + 1, i => !eqE l i && neB l n (i + 1)
def touB (l : List S31) : Nat → Nat → Bool
  | 0, _ => true
  | n + 1, i => (!xB l i && rowB l i (l.length - (i + 2)) (i + 2)) && touB l n (i + 1)
theorem simB_parts (l : List S31) : ∀ n i, simB l n i = (neB l n i && touB l n i)
  | 0, _ => rfl
  | n + 1, i => by
    unfold simB neB touB
    rw [simB_parts l n (i + 1)]
    cases eqE l i <;> cases xB l i <;> cases rowB l i (l.length - (i + 2)) (i + 2) <;> cases neB l n (i + 1) <;> cases touB l n (i + 1) <;> rfl
theorem pt_ok {l : List S31} (h : allOk l = true) {i : Nat} (hi : i < l.length) : okPt (pt l i) = true := by
  rw [pt_eq l i hi]
  exact List.all_eq_true.1 h _ (List.getElem_mem hi)
theorem nx_lt (l : List S31) (i : Nat) (h : 0 < l.length) : nx l i < l.length := Nat.mod_lt _ h
theorem nx_tmod (l : List S31) (i : Nat) (h : i < l.length) (hn : l.length ≤ 4096) : Int.tmod (wrap64 ((i : Int) + 1)) (l.length : Int) = (nx l i : Int) := by
  rw [w64i (by omega) (by omega), show ((i : Int) + 1) = ((i + 1 : Nat) : Int) by omega]
  rfl
theorem nx_next (l : List S31) (i : Nat) (h : i < l.length) (hn : l.length ≤ 4096) : silversideref01_next.f (i : Int) (l.length : Int) = some ((nx l i : Nat) : Int) := by
  unfold silversideref01_next.f nx
  rw [w64i (by omega) (by omega)]
  by_cases h1 : i + 1 < l.length
  · rw [if_pos (by omega), Nat.mod_eq_of_lt h1]; rfl
  · have : i + 1 = l.length := by omega
    rw [if_neg (by omega), this, Nat.mod_self]; rfl
theorem prog_row (l : List S31) (ho : allOk l = true) (hn : l.length ≤ 4096) (i : Nat) (hi : i < l.length) (v : Bool) (hv : Ev (fun k => plane_Simple.l0 k l (l.length : Int) (l.length : Int) ((i + 1 : Nat) : Int)) v) :
    ∀ m j, l.length - j = m → j ≤ l.length + 1 → Ev (fun k => plane_Simple.l1 k l (l.length : Int) (i : Int) (j : Int) (l.length : Int) (i : Int) (pt l i).f0 (pt l i).f1 (pt l (nx l i)).f0 (pt l (nx l i)).f1) (rowB l i m j && v)
  | 0, j, hm, hj => by
    refine Ev.step (f := fun k => plane_Simple.l0 k l (l.length : Int) (l.length : Int) ((i + 1 : Nat) : Int)) (fun k => ?_) hv
    rw [plane_Simple.l1, if_neg (by omega), w64i (x := (i : Int) + 1) (by omega) (by omega)]
    rfl
  | m + 1, j, hm, hj => by
    have hjl : j < l.length := by omega
    have hnj := nx_lt l j (by omega)
    have hni := nx_lt l i (by omega)
    have ih := prog_row l ho hn i hi v hv m (j + 1) (by omega) (by omega)
    have ej : wrap64 ((j : Int) + 1) = ((j + 1 : Nat) : Int) := w64i (x := (j : Int) + 1) (by omega) (by omega)
    unfold rowB
    by_cases hx : nx l j = i
    · refine Ev.step (f := fun k => plane_Simple.l1 k l (l.length : Int) (i : Int) ((j + 1 : Nat) : Int) (l.length : Int) (i : Int) (pt l i).f0 (pt l i).f1 (pt l (nx l i)).f0 (pt l (nx l i)).f1) (fun k => ?_) (by rw [decide_eq_true hx, Bool.true_or, Bool.true_and]; exact ih)
      rw [plane_Simple.l1, if_pos (by omega), if_neg (by omega), nx_tmod l j hjl hn, if_pos (by omega), ej]
    · rw [decide_eq_false hx, Bool.false_or]
      refine Ev.step (f := fun k => (plane_segment_meets.f k (pt l i).f0 (pt l i).f1 (pt l (nx l i)).f0 (pt l (nx l i)).f1 (pt l j).f0 (pt l j).f1 (pt l (nx l j)).f0 (pt l (nx l j)).f1).bind fun t => if t = true then some false else plane_Simple.l1 k l (l.length : Int) (i : Int) ((j + 1 : Nat) : Int) (l.length : Int) (i : Int) (pt l i).f0 (pt l i).f1 (pt l (nx l i)).f0 (pt l (nx l i)).f1) (fun k => ?_) ?_
      · rw [plane_Simple.l1, if_pos (by omega), if_neg (by omega), nx_tmod l j hjl hn, if_neg (by omega), edge_is l j hjl hn, ej]
        rfl
      · refine Ev.bind (Ev.step (f := fun _ => some (meetB (pt l i) (pt l (nx l i)) (pt l j) (pt l (nx l j)))) (fun k => meets_is (pt_ok ho hi) (pt_ok ho hni) (pt_ok ho hjl) (pt_ok ho hnj) k) (Ev.now _)) ?_
        cases meetB (pt l i) (pt l (nx l i)) (pt l j) (pt l (nx l j))
        · exact ev_neg (by decide) (by simpa using ih)
        · exact ev_pos rfl (Ev.now _)
theorem prog_sim (l : List S31) (ho : allOk l = true) (hn : l.length ≤ 4096) : ∀ m i, l.length - i = m → i ≤ l.length → Ev (fun k => plane_Simple.l0 k l (l.length : Int) (l.length : Int) (i : Int)) (simB l m i)
  | 0, i, hm, hi => by
    refine Ev.step (f := fun _ => some true) (fun k => ?_) (Ev.now _)
    rw [plane_Simple.l0, if_neg (by omega)]
  | m + 1, i, hm, hi => by
    have hil : i < l.length := by omega
    have hni := nx_lt l i (by omega)
    have hnn := nx_lt l (nx l i) (by omega)
    have ih := prog_sim l ho hn m (i + 1) (by omega) (by omega)
    have hr := prog_row l ho hn i hil _ ih (l.length - (i + 2)) (i + 2) rfl (by omega)
    have h1 := has_is (pt_ok ho hni) (pt_ok ho hnn) (pt_ok ho hil)
    have h2 := has_is (pt_ok ho hil) (pt_ok ho hni) (pt_ok ho hnn)
    have ej : wrap64 ((i : Int) + 2) = ((i + 2 : Nat) : Int) := w64i (x := (i : Int) + 2) (by omega) (by omega)
    have hj : ∀ b : Bool, Ev (fun k => plane_Simple.j2 k l (l.length : Int) (i : Int) (l.length : Int) (i : Int) b (pt l i).f0 (pt l i).f1 (pt l (nx l i)).f0 (pt l (nx l i)).f1) (!b && (rowB l i (l.length - (i + 2)) (i + 2) && simB l m (i + 1))) := by
      intro b
      cases b
      · refine Ev.step (f := fun k => plane_Simple.l1 k l (l.length : Int) (i : Int) ((i + 2 : Nat) : Int) (l.length : Int) (i : Int) (pt l i).f0 (pt l i).f1 (pt l (nx l i)).f0 (pt l (nx l i)).f1) (fun k => ?_) (by simpa using hr)
        rw [plane_Simple.j2, if_neg (by decide), ej]
      · refine Ev.step (f := fun _ => some false) (fun k => ?_) (Ev.now _)
        rw [plane_Simple.j2, if_pos rfl]
    refine Ev.step (f := fun k => if eqE l i = true then plane_Simple.j2 k l (l.length : Int) (i : Int) (l.length : Int) (i : Int) true (pt l i).f0 (pt l i).f1 (pt l (nx l i)).f0 (pt l (nx l i)).f1 else if onB (pt l (nx l i)) (pt l (nx l (nx l i))) (pt l i) = true then plane_Simple.j2 k l (l.length : Int) (i : Int) (l.length : Int) (i : Int) true (pt l i).f0 (pt l i).f1 (pt l (nx l i)).f0 (pt l (nx l i)).f1 else plane_Simple.j2 k l (l.length : Int) (i : Int) (l.length : Int) (i : Int) (onB (pt l i) (pt l (nx l i)) (pt l (nx l (nx l i)))) (pt l i).f0 (pt l i).f1 (pt l (nx l i)).f0 (pt l (nx l i)).f1) (fun k => ?_) ?_
    · rw [plane_Simple.l0, if_pos (by omega), edge_is l i hil hn, Option.bind_some, if_neg (by omega), nx_tmod l i hil hn, edge_is l (nx l i) hni hn]
      simp only [Option.bind_some]
      show (if eqE l i = true then _ else _) = _
      have e1 : ∀ o, plane_segment_has.f (pt l (nx l i)).f0 (pt l (nx l i)).f1 (pt l ((nx l i + 1) % l.length)).f0 (pt l ((nx l i + 1) % l.length)).f1 (pt l i).f0 (pt l i).f1 = o → some (onB (pt l (nx l i)) (pt l (nx l (nx l i))) (pt l i)) = o := fun o h => h1.symm.trans h
      rw [← e1 _ rfl]
      have e2 : ∀ o, plane_segment_has.f (pt l i).f0 (pt l i).f1 (pt l ((i + 1) % l.length)).f0 (pt l ((i + 1) % l.length)).f1 (pt l ((nx l i + 1) % l.length)).f0 (pt l ((nx l i + 1) % l.length)).f1 = o → some (onB (pt l i) (pt l (nx l i)) (pt l (nx l (nx l i)))) = o := fun o h => h2.symm.trans h
      rw [← e2 _ rfl]
      rfl
    · unfold simB xB
      by_cases he : eqE l i = true
      · rw [he]; exact ev_pos rfl (hj true)
      · rw [Bool.not_eq_true] at he
        rw [he]
        refine ev_neg (by decide) ?_
        by_cases hx : onB (pt l (nx l i)) (pt l (nx l (nx l i))) (pt l i) = true
        · rw [hx]; exact ev_pos rfl (hj true)
        · rw [Bool.not_eq_true] at hx
          rw [hx]
          refine ev_neg (by decide) ?_
          have h := hj (onB (pt l i) (pt l (nx l i)) (pt l (nx l (nx l i))))
          rw [← Bool.and_assoc] at h
          simpa using h
def simpleS (l : List S31) : Bool := (decide (3 ≤ l.length ∧ l.length ≤ 512) && allOk l) && simB l l.length 0
theorem prog_simple (l : List S31) : Ev (fun k => plane_Simple.f k l) (simpleS l) := by
  have hj : Ev (fun k => plane_Simple.j0 k l (l.length : Int) true) false := by
    refine Ev.step (f := fun _ => some false) (fun k => ?_) (Ev.now _)
    rw [plane_Simple.j0, if_pos rfl]
  unfold plane_Simple.f simpleS
  by_cases h3 : (l.length : Int) < 3
  · rw [decide_eq_false (by omega), Bool.false_and]
    exact ev_pos h3 hj
  · refine ev_neg h3 (Ev.bind (ev_is (isSet_is l)) ?_)
    unfold isSetB
    by_cases h5 : l.length ≤ 512
    · rw [decide_eq_true (show 1 ≤ l.length ∧ l.length ≤ 512 by omega), decide_eq_true (show 3 ≤ l.length ∧ l.length ≤ 512 by omega), Bool.true_and]
      by_cases ha : allOk l = true
      · rw [ha, Bool.true_and]
        refine Ev.step (f := fun k => plane_Simple.l0 k l (l.length : Int) (l.length : Int) ((0 : Nat) : Int)) (fun k => ?_) (prog_sim l ha (by omega) l.length 0 (by omega) (by omega))
        rw [plane_Simple.j0, if_neg (by decide)]
        rfl
      · rw [Bool.not_eq_true] at ha
        rw [ha]; exact hj
    · rw [decide_eq_false (show ¬ (1 ≤ l.length ∧ l.length ≤ 512) by omega), decide_eq_false (show ¬ (3 ≤ l.length ∧ l.length ≤ 512) by omega)]
      exact hj
theorem refnext_is (i n : Nat) (h : i < n) (hn : n ≤ 4096) : silversideref01_next.f (i : Int) (n : Int) = some ((((i + 1) % n : Nat)) : Int) := by
  unfold silversideref01_next.f
  rw [w64i (by omega) (by omega)]
  by_cases h1 : i + 1 < n
  · rw [if_pos (by omega), Nat.mod_eq_of_lt h1]; rfl
  · have : i + 1 = n := by omega
    rw [if_neg (by omega), this, Nat.mod_self]; rfl
end Go.Proofs.Ythaklbjcjoolcaa.P
namespace Go.Proofs.Ythaklbjcjoolcaa.P
open Go.RowKit Go.Shelf Go.Sort Go.Proofs.YthaklbjcjoolcaaW.PrintWords Go.Proofs.YthaklbjcjoolcaaW.PrintLast Go.Proofs.YthaklbjcjoolcaaW.PrintMore
/-- an edge is crossed on the right of a point -/
def crossR (a b p : S31) : Bool := decide (a.f1 ≤ p.f1 ∧ p.f1 < b.f1 ∧ 0 < crs a b p ∨ b.f1 ≤ p.f1 ∧ p.f1 < a.f1 ∧ 0 < crs b a p)
/-- where a point is, counting the crossings from an edge on -/
def insR (l : List S31) (p : S31) : Nat → Nat → Bool → Int
  | 0, _, odd => if odd then 1 else -1
  | n + 1, i, odd => if onB (pt l i) (pt l ((i + 1) % l.length)) p = true then 0 else insR l p n (i + 1) (xor odd (crossR (pt l i) (pt l ((i + 1) % l.length)) p))
def insP_T : Bool × List (List Nat × List Nat) := (true, [([], []), ([], []), ([0, 1], [0, 1]), ([2], [2]), ([], []), ([], []), ([], []), ([6], [6]), ([5, 7], [5, 7]), ([4, 8], [4, 8]), ([9], [9]), ([], []), ([], []), ([11, 3, 8, 0, 1, 2, 3, 11, 12], [3, 11]), ([12, 10, 13, 0, 1, 2, 3, 4, 5, 6, 7, 8, 9, 10, 11, 12, 13], [10, 12])])
def insP_B : List Nat := [0, 0, 3, 7, 0, 0, 0, 64, 224, 496, 1008, 0, 0, 6639, 16383]
theorem insP_tab : rtab .any (opsOf Try.f29 5) = insP_T := by kernel_rfl
theorem insP_bits : waitsOk insP_T.2 insP_B = true := by kernel_rfl
set_option maxHeartbeats 4000000 in
set_option maxRecDepth 100000 in
theorem refinside_calls (A0 : Option Addr) (c0 : Nat) (l0 : List S31) (p : S31) (wz : World) (hr0 : Kd.C k31 wz A0 l0.length l0) (hc0 : l0.length ≤ c0) (hok : allOk l0 = true) (hp : okPt p = true) (hsz : l0.length ≤ 4096) :
    Calls Try.prog 29 #[.slice A0 l0.length c0, .agg #[.int .i64 p.f0, .int .i64 p.f1]] wz fun e w' => e = .returned (.int .i64 (insR l0 p l0.length 0 false)) ∧ Below wz.heap.size wz w' := by
  have HBZ := Aside0.mk (lA (Below.refl wz.heap.size wz) (Obj.cells #[.int .i64 p.f0, .int .i64 p.f1] 31))
  have HR0 := Aside0.mk (Kd.C_below hr0 HBZ.out)
  have BP0 := Aside0.mk (heap_alloc_new wz (Obj.cells #[.int .i64 p.f0, .int .i64 p.f1] 31))
  have HOK := Aside0.mk hok
  have HOP := Aside0.mk hp
  obtain ⟨r, hrv⟩ : ∃ r, r = insR l0 p l0.length 0 false := ⟨_, rfl⟩
  have HV := Aside0.mk hrv
  rw [← hrv]
  clear hr0 hok hp hrv
  go_enter Try.func29, Try.ntmps29
  go_wp2
  obtain ⟨gP, hgP⟩ : ∃ g, g = wz.heap.size := ⟨_, rfl⟩
  rw [← hgP] at BP0
  rw [← hgP]
  clear hgP
  generalize hw : wz.alloc (Obj.cells #[.int .i64 p.f0, .int .i64 p.f1] 31) = w at *
  clear hw
  have HB0 := Aside0.mk (Below.refl w.heap.size w)
  go_loopw [5, 6] (fun v5 v6 wr => ∃ (k : Nat) (odd : Bool), k ≤ l0.length ∧ v6 = .int .i64 k ∧ v5 = .bool odd ∧ Aside0 (r = insR l0 p (l0.length - k) k odd) ∧ Aside0 (Below w.heap.size w wr)) (fun _ v6 _ => l0.length - (intOf v6).toNat)
  case atStart => exact ⟨0, false, by omega, rfl, rfl, HV, HB0⟩
  case round =>
    clear HB0 HV
    obtain ⟨k, odd, hk, rfl, rfl, HV, HB⟩ := hrel
    by_cases hlt : k < l0.length
    · obtain ⟨n, hn⟩ : ∃ n, n = (k + 1) % l0.length := ⟨_, rfl⟩
      have hnl : n < l0.length := by rw [hn]; exact Nat.mod_lt _ (by omega)
      have HNX := Aside0.mk (refnext_is k l0.length hlt hsz)
      rw [← hn] at HNX
      have HOA := Aside0.mk (allOk_pt HOK.out k hlt)
      have HOB := Aside0.mk (allOk_pt HOK.out n hnl)
      obtain ⟨ad, rfl, hw_p0, hw_p1⟩ := at_T31 HR0.out (k : Int) (by omega) (by omega)
      obtain ⟨ad', had', hw_q0, hw_q1⟩ := at_T31 HR0.out (n : Int) (by omega) (by omega)
      cases had'
      rw [rd_pt, Int.toNat_natCast] at hw_p0 hw_p1 hw_q0 hw_q1
      have hltI : ((k : Nat) : Int) < ((l0.length : Nat) : Int) := by omega
      have hnlI : ((n : Nat) : Int) < ((l0.length : Nat) : Int) := by omega
      have HST := Aside0.mk (show insR l0 p (l0.length - k) k odd = if onB (pt l0 k) (pt l0 n) p = true then 0 else insR l0 p (l0.length - (k + 1)) (k + 1) (xor odd (crossR (pt l0 k) (pt l0 n) p)) by
        rw [show l0.length - k = (l0.length - (k + 1)) + 1 by omega, hn]; rfl)
      generalize pt l0 k = a at *
      generalize pt l0 n = b at *
      clear hn
      have HON := Aside0.mk (on_is HOA.out HOB.out HOP.out)
      have HT1 := Aside0.mk (show silversideref01_Turn.f a.f0 a.f1 b.f0 b.f1 p.f0 p.f1 = some (sgn (crs a b p)) by rw [refturn_same]; exact turn_is HOA.out HOB.out HOP.out)
      have HT2 := Aside0.mk (show silversideref01_Turn.f b.f0 b.f1 a.f0 a.f1 p.f0 p.f1 = some (sgn (crs b a p)) by rw [refturn_same]; exact turn_is HOB.out HOA.out HOP.out)
      have HCR := Aside0.mk (show crossR a b p = decide (a.f1 ≤ p.f1 ∧ p.f1 < b.f1 ∧ 0 < sgn (crs a b p) ∨ b.f1 ≤ p.f1 ∧ p.f1 < a.f1 ∧ 0 < sgn (crs b a p)) by unfold crossR; rw [Bool.eq_iff_iff, decide_eq_true_eq, decide_eq_true_eq, sgn_pos, sgn_pos])
      generalize sgn (crs a b p) = s1 at *
      generalize sgn (crs b a p) = s2 at *
      generalize crossR a b p = cr at *
      go_wp2
      have HBd := Aside0.mk (lD HB.out)
      clear HB
      have HB := HBd
      clear HBd
      refine start_ (n := 15) (S := fun w' => w'.cell? (ad.add (k * 2)) = some (.int .i64 (a.f0)) ∧ w'.cell? ⟨(ad.add (k * 2)).block, (ad.add (k * 2)).off + 1, none⟩ = some (.int .i64 (a.f1)) ∧ w'.cell? (ad.add (n * 2)) = some (.int .i64 (b.f0)) ∧ w'.cell? ⟨(ad.add (n * 2)).block, (ad.add (n * 2)).off + 1, none⟩ = some (.int .i64 (b.f1))) (ds := []) (Bs 0 15) (by kernel_rfl) rfl rfl ⟨(cB HB.out hw_p0), (cB HB.out hw_p1), (cB HB.out hw_q0), (cB HB.out hw_q1)⟩ (fun hHeld => ?_); refine with_tabW insP_tab insP_bits (fun HT_ HW_ => ?_)
      generalize wr.drew = w7 at HB hHeld ⊢
      refine pu 0 15 (Bs 1 15) HT_ ?_
      refine pu 1 16 (Bs 2 15) HT_ ?_
      refine pu 2 17 (Bs 3 15) HT_ ?_
      refine pu 4 19 (Br [3,1,1,10]) HT_ ?_
      refine pu 5 20 (Br [3,1,2,9]) HT_ ?_
      refine pu 6 21 (Br [3,1,3,8]) HT_ ?_
      refine pu 7 22 (Br [3,1,4,7]) HT_ ?_
      refine ta 3 18 (Bs 8 15) HT_ HW_ hHeld ?_
      refine join_ (σ := Nat × Nat) 2 (Bs 13 15) (fun s_ => [(23, .int .i64 ((n : Nat) : Int)), (7, .pointer (some ⟨s_.1, 0, none⟩)), (8, .pointer (some ⟨s_.2, 0, none⟩)), (24, .pointer (some (ad.add (n * 2)))), (25, .agg #[.int .i64 (b.f0), .int .i64 (b.f1)])]) (fun s_ w' => (w'.cell? (ad.add (k * 2)) = some (.int .i64 (a.f0)) ∧ w'.cell? ⟨(ad.add (k * 2)).block, (ad.add (k * 2)).off + 1, none⟩ = some (.int .i64 (a.f1)) ∧ w'.cell? (ad.add (n * 2)) = some (.int .i64 (b.f0)) ∧ w'.cell? ⟨(ad.add (n * 2)).block, (ad.add (n * 2)).off + 1, none⟩ = some (.int .i64 (b.f1))) ∧ (w'.heap[s_.1]? = some (.cells #[.int .i64 0, .int .i64 0] 31 (0, 0))) ∧ (w'.heap[s_.2]? = some (.cells #[.int .i64 0, .int .i64 0] 31 (0, 0))) ∧ (w.heap.size ≤ s_.1) ∧ (w.heap.size ≤ s_.1) ∧ (s_.2 ≠ s_.1) ∧ (s_.1 ≠ s_.2) ∧ (w.heap.size ≤ s_.2) ∧ (w.heap.size ≤ s_.2) ∧ (Below w.heap.size w w')) ?_ ?_
      rotate_left
      ·intro hJ8_11_12
       refine join_ (σ := Nat) 3 (Bs 12 15) (fun s_ => [(23, .int .i64 ((n : Nat) : Int)), (7, .pointer (some ⟨s_, 0, none⟩)), (24, .pointer (some (ad.add (n * 2)))), (25, .agg #[.int .i64 (b.f0), .int .i64 (b.f1)])]) (fun s_ w' => (w'.cell? (ad.add (k * 2)) = some (.int .i64 (a.f0)) ∧ w'.cell? ⟨(ad.add (k * 2)).block, (ad.add (k * 2)).off + 1, none⟩ = some (.int .i64 (a.f1)) ∧ w'.cell? (ad.add (n * 2)) = some (.int .i64 (b.f0)) ∧ w'.cell? ⟨(ad.add (n * 2)).block, (ad.add (n * 2)).off + 1, none⟩ = some (.int .i64 (b.f1))) ∧ (w'.heap[s_]? = some (.cells #[.int .i64 0, .int .i64 0] 31 (0, 0))) ∧ (w.heap.size ≤ s_) ∧ (w.heap.size ≤ s_) ∧ (Below w.heap.size w w')) ?_ ?_
       rotate_left
       ·intro hJ8_11
        refine join_ (σ := Nat) 3 (Br [11,1,1,2]) (fun s_ => [(23, .int .i64 ((n : Nat) : Int)), (8, .pointer (some ⟨s_, 0, none⟩)), (24, .pointer (some (ad.add (n * 2)))), (25, .agg #[.int .i64 (b.f0), .int .i64 (b.f1)])]) (fun s_ w' => (w'.cell? (ad.add (k * 2)) = some (.int .i64 (a.f0)) ∧ w'.cell? ⟨(ad.add (k * 2)).block, (ad.add (k * 2)).off + 1, none⟩ = some (.int .i64 (a.f1)) ∧ w'.cell? (ad.add (n * 2)) = some (.int .i64 (b.f0)) ∧ w'.cell? ⟨(ad.add (n * 2)).block, (ad.add (n * 2)).off + 1, none⟩ = some (.int .i64 (b.f1))) ∧ (w'.heap[s_]? = some (.cells #[.int .i64 0, .int .i64 0] 31 (0, 0))) ∧ (w.heap.size ≤ s_) ∧ (w.heap.size ≤ s_) ∧ (Below w.heap.size w w')) ?_ ?_
        rotate_left
        ·intro hJ8_12
         refine join_ (σ := Nat × Nat) 5 (Br [8,3,2,2]) (fun s_ => [(7, .pointer (some ⟨s_.1, 0, none⟩)), (8, .pointer (some ⟨s_.2, 0, none⟩))]) (fun s_ w' => (w'.cell? (ad.add (k * 2)) = some (.int .i64 (a.f0)) ∧ w'.cell? ⟨(ad.add (k * 2)).block, (ad.add (k * 2)).off + 1, none⟩ = some (.int .i64 (a.f1)) ∧ w'.cell? (ad.add (n * 2)) = some (.int .i64 (b.f0)) ∧ w'.cell? ⟨(ad.add (n * 2)).block, (ad.add (n * 2)).off + 1, none⟩ = some (.int .i64 (b.f1))) ∧ (w'.heap[s_.1]? = some (.cells #[.int .i64 0, .int .i64 0] 31 (0, 0))) ∧ (w'.heap[s_.2]? = some (.cells #[.int .i64 0, .int .i64 0] 31 (0, 0))) ∧ (w.heap.size ≤ s_.1) ∧ (w.heap.size ≤ s_.1) ∧ (s_.2 ≠ s_.1) ∧ (s_.1 ≠ s_.2) ∧ (w.heap.size ≤ s_.2) ∧ (w.heap.size ≤ s_.2) ∧ (Below w.heap.size w w')) ?_ ?_
         rotate_left
         ·intro hJ11_12
          refine join_ (σ := Unit) 4 (Bs 11 15) (fun s_ => [(23, .int .i64 ((n : Nat) : Int)), (24, .pointer (some (ad.add (n * 2)))), (25, .agg #[.int .i64 (b.f0), .int .i64 (b.f1)])]) (fun s_ w' => (w'.cell? (ad.add (k * 2)) = some (.int .i64 (a.f0)) ∧ w'.cell? ⟨(ad.add (k * 2)).block, (ad.add (k * 2)).off + 1, none⟩ = some (.int .i64 (a.f1)) ∧ w'.cell? (ad.add (n * 2)) = some (.int .i64 (b.f0)) ∧ w'.cell? ⟨(ad.add (n * 2)).block, (ad.add (n * 2)).off + 1, none⟩ = some (.int .i64 (b.f1))) ∧ (Below w.heap.size w w')) ?_ ?_
          rotate_left
          ·intro hJ8
           refine join_ (σ := Nat) 6 (Br [8,3,1,3]) (fun s_ => [(7, .pointer (some ⟨s_, 0, none⟩))]) (fun s_ w' => (w'.cell? (ad.add (k * 2)) = some (.int .i64 (a.f0)) ∧ w'.cell? ⟨(ad.add (k * 2)).block, (ad.add (k * 2)).off + 1, none⟩ = some (.int .i64 (a.f1)) ∧ w'.cell? (ad.add (n * 2)) = some (.int .i64 (b.f0)) ∧ w'.cell? ⟨(ad.add (n * 2)).block, (ad.add (n * 2)).off + 1, none⟩ = some (.int .i64 (b.f1))) ∧ (w'.heap[s_]? = some (.cells #[.int .i64 0, .int .i64 0] 31 (0, 0))) ∧ (w.heap.size ≤ s_) ∧ (w.heap.size ≤ s_) ∧ (Below w.heap.size w w')) ?_ ?_
           rotate_left
           ·intro hJ11
            refine join_ (σ := Nat) 6 (Br [8,4,1,2]) (fun s_ => [(8, .pointer (some ⟨s_, 0, none⟩))]) (fun s_ w' => (w'.cell? (ad.add (k * 2)) = some (.int .i64 (a.f0)) ∧ w'.cell? ⟨(ad.add (k * 2)).block, (ad.add (k * 2)).off + 1, none⟩ = some (.int .i64 (a.f1)) ∧ w'.cell? (ad.add (n * 2)) = some (.int .i64 (b.f0)) ∧ w'.cell? ⟨(ad.add (n * 2)).block, (ad.add (n * 2)).off + 1, none⟩ = some (.int .i64 (b.f1))) ∧ (w'.heap[s_]? = some (.cells #[.int .i64 0, .int .i64 0] 31 (0, 0))) ∧ (w.heap.size ≤ s_) ∧ (w.heap.size ≤ s_) ∧ (Below w.heap.size w w')) ?_ ?_
            rotate_left
            ·intro hJ12
             refine three_ (i := 8) (j := 11) (k := 12) (Ni := some 23) (Nj := some 7) (Nk := some 8) (Bs 9 15) (Br [8,3,1,3]) (Br [8,4,1,2]) rfl rfl rfl rfl rfl rfl (three_of HT_.out (by kernel_rfl)) (by decide) (by decide) (by decide) (fun K hK => ?_) (fun K hK => ?_) (fun K hK => ?_)
             ·skip
              refine goes_ Try.func54 (by kernel_rfl) rfl #[.int .i64 ((k : Nat) : Int), .int .i64 (l0.length : Int)] (by rfl) rfl rfl (by (try simp only [List.map_toArray, List.map_cons, List.map_nil]); first | done | rfl | (simp only [List.length_drop, List.length_take]; rfl)) ?_
              with_reducible refine (silversideref01_next.calls ((k : Nat) : Int) (l0.length : Int) ((n : Nat) : Int) _ HNX.out).mono ?_
              rintro e w' ⟨rfl, ⟨nd, rfl⟩⟩
              refine ⟨_, rfl, ?_⟩
              refine hK.out _ _ ⟨(cB HB.out hw_p0), (cB HB.out hw_p1), (cB HB.out hw_q0), (cB HB.out hw_q1)⟩ (fun hHeld => ?_)
              clear hK K
              refine nm 23 ?_
              refine pu 9 24 (Bs 10 15) HT_ ?_
              refine ta 10 25 (Bs 11 15) HT_ HW_ hHeld ?_
              exact norm_ (by first | (simp only [putAll, Act.put, sA, sB, sC]; done) | (simp only [putAll, Act.put, sA, sB, sC]; rfl)) (hJ8 () _ ⟨hHeld, lB⟩)
             ·skip
              refine box_step ?hg (N := 7) ?hd (cs := #[.int .i64 0, .int .i64 0]) (t := 31) ?hr ?_; (case hd => rfl); (case hg => rfl); (case hr => first | (go_simp; done) | (go_simp; rfl))
              intro gG1 hg w8 hbox hb
              have n0_ := Aside0.mk (below_step lB hb)
              have n1_ := Aside0.mk (hbox)
              have n2_ := Aside0.mk ((by rw [hg]; exact (below_size lB) : w.heap.size ≤ gG1))
              have n3_ := Aside0.mk ((by rw [hg]; exact (below_size lB) : w.heap.size ≤ gG1))
              clear HB
              have HB := n0_
              have BKG1 := n1_
              have GWG1 := n2_
              have GEG1 := n3_
              clear n0_ n1_ n2_ n3_
              clear hb hbox hg
              refine hK.out _ _ ⟨(cB HB.out hw_p0), (cB HB.out hw_p1), (cB HB.out hw_q0), (cB HB.out hw_q1)⟩ (fun hHeld => ?_)
              clear hK K
              refine nm 7 ?_
              exact norm_ (by first | (simp only [putAll, Act.put, sA, sB, sC]; done) | (simp only [putAll, Act.put, sA, sB, sC]; rfl)) (hJ11 (gG1) _ ⟨hHeld, (kX BKG1.out), GWG1.out, GEG1.out, lB⟩)
             ·skip
              refine box_step ?hg (N := 8) ?hd (cs := #[.int .i64 0, .int .i64 0]) (t := 31) ?hr ?_; (case hd => rfl); (case hg => rfl); (case hr => first | (go_simp; done) | (go_simp; rfl))
              intro gG2 hg w8 hbox hb
              have n0_ := Aside0.mk (below_step lB hb)
              have n1_ := Aside0.mk (hbox)
              have n2_ := Aside0.mk ((by rw [hg]; exact (below_size lB) : w.heap.size ≤ gG2))
              have n3_ := Aside0.mk ((by rw [hg]; exact (below_size lB) : w.heap.size ≤ gG2))
              clear HB
              have HB := n0_
              have BKG2 := n1_
              have GWG2 := n2_
              have GEG2 := n3_
              clear n0_ n1_ n2_ n3_
              clear hb hbox hg
              refine hK.out _ _ ⟨(cB HB.out hw_p0), (cB HB.out hw_p1), (cB HB.out hw_q0), (cB HB.out hw_q1)⟩ (fun hHeld => ?_)
              clear hK K
              refine nm 8 ?_
              exact norm_ (by first | (simp only [putAll, Act.put, sA, sB, sC]; done) | (simp only [putAll, Act.put, sA, sB, sC]; rfl)) (hJ12 (gG2) _ ⟨hHeld, (kX BKG2.out), GWG2.out, GEG2.out, lB⟩)
            ·skip
             rintro gG2 w9 ⟨hS_, h0_, h1_, h2_, h3_⟩
             have n0_ : Aside0 (w9.heap[gG2]? = some (.cells #[.int .i64 0, .int .i64 0] 31 (0, 0))) := ⟨h0_⟩
             have n1_ : Aside0 (w.heap.size ≤ gG2) := ⟨h1_⟩
             have n2_ : Aside0 (w.heap.size ≤ gG2) := ⟨h2_⟩
             have n3_ : Aside0 (Below w.heap.size w w9) := ⟨h3_⟩
             clear HB
             clear h0_ h1_ h2_ h3_
             have BKG2 := n0_
             have GWG2 := n1_
             have GEG2 := n2_
             have HB := n3_
             clear n0_ n1_ n2_ n3_
             have hHeld : w9.cell? (ad.add (k * 2)) = some (.int .i64 (a.f0)) ∧ w9.cell? ⟨(ad.add (k * 2)).block, (ad.add (k * 2)).off + 1, none⟩ = some (.int .i64 (a.f1)) ∧ w9.cell? (ad.add (n * 2)) = some (.int .i64 (b.f0)) ∧ w9.cell? ⟨(ad.add (n * 2)).block, (ad.add (n * 2)).off + 1, none⟩ = some (.int .i64 (b.f1)) := hS_
             refine norm_ (a' := ?_) ?_ ?_
             rotate_left
             ·simp only [putAll, Act.put, sA, sB, sC]
              rfl
             refine two_ (i := 8) (j := 11) (Ni := some 23) (Nj := some 7) (Br [9,3,1,2]) (Br [8,3,2,2]) rfl rfl rfl rfl (two_of HT_.out (by kernel_rfl)) (by decide) (by decide) (fun K hK => ?_) (fun K hK => ?_)
             ·skip
              refine goes_ Try.func54 (by kernel_rfl) rfl #[.int .i64 ((k : Nat) : Int), .int .i64 (l0.length : Int)] (by rfl) rfl rfl (by (try simp only [List.map_toArray, List.map_cons, List.map_nil]); first | done | rfl | (simp only [List.length_drop, List.length_take]; rfl)) ?_
              with_reducible refine (silversideref01_next.calls ((k : Nat) : Int) (l0.length : Int) ((n : Nat) : Int) _ HNX.out).mono ?_
              rintro e w' ⟨rfl, ⟨nd, rfl⟩⟩
              refine ⟨_, rfl, ?_⟩
              refine hK.out _ _ ⟨(cB HB.out hw_p0), (cB HB.out hw_p1), (cB HB.out hw_q0), (cB HB.out hw_q1)⟩ (fun hHeld => ?_)
              clear hK K
              refine nm 23 ?_
              refine pu 9 24 (Br [10,2,1,2]) HT_ ?_
              refine ta 10 25 (Br [11,1,1,2]) HT_ HW_ hHeld ?_
              exact norm_ (by first | (simp only [putAll, Act.put, sA, sB, sC]; done) | (simp only [putAll, Act.put, sA, sB, sC]; rfl)) (hJ8_12 (gG2) _ ⟨hHeld, (kX BKG2.out), GWG2.out, GEG2.out, lB⟩)
             ·skip
              refine box_step ?hg (N := 7) ?hd (cs := #[.int .i64 0, .int .i64 0]) (t := 31) ?hr ?_; (case hd => rfl); (case hg => rfl); (case hr => first | (go_simp; done) | (go_simp; rfl))
              intro gG1 hg wE hbox hb
              have n0_ := Aside0.mk (blk_below (g := gG2) (o := .cells #[.int .i64 0, .int .i64 0] 31 (0, 0)) (kX BKG2.out) hb)
              have n1_ := Aside0.mk (below_step lB hb)
              have n2_ := Aside0.mk (hbox)
              have n3_ := Aside0.mk ((by rw [hg]; exact (below_size lB) : w.heap.size ≤ gG1))
              have n4_ := Aside0.mk ((by rw [hg]; exact (below_size lB) : w.heap.size ≤ gG1))
              have n5_ := Aside0.mk ((by rw [hg]; exact Nat.ne_of_lt (blk_lt (g := gG2) (o := .cells #[.int .i64 0, .int .i64 0] 31 (0, 0)) (kX BKG2.out)) : gG2 ≠ gG1))
              have n6_ := Aside0.mk ((by rw [hg]; exact Nat.ne_of_gt (blk_lt (g := gG2) (o := .cells #[.int .i64 0, .int .i64 0] 31 (0, 0)) (kX BKG2.out)) : gG1 ≠ gG2))
              clear BKG2
              clear HB
              have BKG2 := n0_
              have HB := n1_
              have BKG1 := n2_
              have GWG1 := n3_
              have GEG1 := n4_
              have NB21 := n5_
              have NB12 := n6_
              clear n0_ n1_ n2_ n3_ n4_ n5_ n6_
              clear hb hbox hg
              refine hK.out _ _ ⟨(cB HB.out hw_p0), (cB HB.out hw_p1), (cB HB.out hw_q0), (cB HB.out hw_q1)⟩ (fun hHeld => ?_)
              clear hK K
              refine nm 7 ?_
              exact norm_ (by first | (simp only [putAll, Act.put, sA, sB, sC]; done) | (simp only [putAll, Act.put, sA, sB, sC]; rfl)) (hJ11_12 (gG1, gG2) _ ⟨hHeld, (kX BKG1.out), (kX BKG2.out), GWG1.out, GEG1.out, NB21.out, NB12.out, GWG2.out, GEG2.out, lB⟩)
           ·skip
            rintro gG1 w9 ⟨hS_, h0_, h1_, h2_, h3_⟩
            have n0_ : Aside0 (w9.heap[gG1]? = some (.cells #[.int .i64 0, .int .i64 0] 31 (0, 0))) := ⟨h0_⟩
            have n1_ : Aside0 (w.heap.size ≤ gG1) := ⟨h1_⟩
            have n2_ : Aside0 (w.heap.size ≤ gG1) := ⟨h2_⟩
            have n3_ : Aside0 (Below w.heap.size w w9) := ⟨h3_⟩
            clear HB
            clear h0_ h1_ h2_ h3_
            have BKG1 := n0_
            have GWG1 := n1_
            have GEG1 := n2_
            have HB := n3_
            clear n0_ n1_ n2_ n3_
            have hHeld : w9.cell? (ad.add (k * 2)) = some (.int .i64 (a.f0)) ∧ w9.cell? ⟨(ad.add (k * 2)).block, (ad.add (k * 2)).off + 1, none⟩ = some (.int .i64 (a.f1)) ∧ w9.cell? (ad.add (n * 2)) = some (.int .i64 (b.f0)) ∧ w9.cell? ⟨(ad.add (n * 2)).block, (ad.add (n * 2)).off + 1, none⟩ = some (.int .i64 (b.f1)) := hS_
            refine norm_ (a' := ?_) ?_ ?_
            rotate_left
            ·simp only [putAll, Act.put, sA, sB, sC]
             rfl
            refine two_ (i := 8) (j := 12) (Ni := some 23) (Nj := some 8) (Br [9,2,1,3]) (Br [8,3,2,2]) rfl rfl rfl rfl (two_of HT_.out (by kernel_rfl)) (by decide) (by decide) (fun K hK => ?_) (fun K hK => ?_)
            ·skip
             refine goes_ Try.func54 (by kernel_rfl) rfl #[.int .i64 ((k : Nat) : Int), .int .i64 (l0.length : Int)] (by rfl) rfl rfl (by (try simp only [List.map_toArray, List.map_cons, List.map_nil]); first | done | rfl | (simp only [List.length_drop, List.length_take]; rfl)) ?_
             with_reducible refine (silversideref01_next.calls ((k : Nat) : Int) (l0.length : Int) ((n : Nat) : Int) _ HNX.out).mono ?_
             rintro e w' ⟨rfl, ⟨nd, rfl⟩⟩
             refine ⟨_, rfl, ?_⟩
             refine hK.out _ _ ⟨(cB HB.out hw_p0), (cB HB.out hw_p1), (cB HB.out hw_q0), (cB HB.out hw_q1)⟩ (fun hHeld => ?_)
             clear hK K
             refine nm 23 ?_
             refine pu 9 24 (Br [10,1,1,3]) HT_ ?_
             refine ta 10 25 (Bs 12 15) HT_ HW_ hHeld ?_
             exact norm_ (by first | (simp only [putAll, Act.put, sA, sB, sC]; done) | (simp only [putAll, Act.put, sA, sB, sC]; rfl)) (hJ8_11 (gG1) _ ⟨hHeld, (kX BKG1.out), GWG1.out, GEG1.out, lB⟩)
            ·skip
             refine box_step ?hg (N := 8) ?hd (cs := #[.int .i64 0, .int .i64 0]) (t := 31) ?hr ?_; (case hd => rfl); (case hg => rfl); (case hr => first | (go_simp; done) | (go_simp; rfl))
             intro gG2 hg wE hbox hb
             have n0_ := Aside0.mk (blk_below (g := gG1) (o := .cells #[.int .i64 0, .int .i64 0] 31 (0, 0)) (kX BKG1.out) hb)
             have n1_ := Aside0.mk (below_step lB hb)
             have n2_ := Aside0.mk (hbox)
             have n3_ := Aside0.mk ((by rw [hg]; exact (below_size lB) : w.heap.size ≤ gG2))
             have n4_ := Aside0.mk ((by rw [hg]; exact (below_size lB) : w.heap.size ≤ gG2))
             have n5_ := Aside0.mk ((by rw [hg]; exact Nat.ne_of_lt (blk_lt (g := gG1) (o := .cells #[.int .i64 0, .int .i64 0] 31 (0, 0)) (kX BKG1.out)) : gG1 ≠ gG2))
             have n6_ := Aside0.mk ((by rw [hg]; exact Nat.ne_of_gt (blk_lt (g := gG1) (o := .cells #[.int .i64 0, .int .i64 0] 31 (0, 0)) (kX BKG1.out)) : gG2 ≠ gG1))
             clear BKG1
             clear HB
             have BKG1 := n0_
             have HB := n1_
             have BKG2 := n2_
             have GWG2 := n3_
             have GEG2 := n4_
             have NB12 := n5_
             have NB21 := n6_
             clear n0_ n1_ n2_ n3_ n4_ n5_ n6_
             clear hb hbox hg
             refine hK.out _ _ ⟨(cB HB.out hw_p0), (cB HB.out hw_p1), (cB HB.out hw_q0), (cB HB.out hw_q1)⟩ (fun hHeld => ?_)
             clear hK K
             refine nm 8 ?_
             exact norm_ (by first | (simp only [putAll, Act.put, sA, sB, sC]; done) | (simp only [putAll, Act.put, sA, sB, sC]; rfl)) (hJ11_12 (gG1, gG2) _ ⟨hHeld, (kX BKG1.out), (kX BKG2.out), GWG1.out, GEG1.out, NB21.out, NB12.out, GWG2.out, GEG2.out, lB⟩)
          ·skip
           rintro _ w8 ⟨hS_, h0_⟩
           have n0_ : Aside0 (Below w.heap.size w w8) := ⟨h0_⟩
           clear HB
           clear h0_
           have HB := n0_
           clear n0_
           have hHeld : w8.cell? (ad.add (k * 2)) = some (.int .i64 (a.f0)) ∧ w8.cell? ⟨(ad.add (k * 2)).block, (ad.add (k * 2)).off + 1, none⟩ = some (.int .i64 (a.f1)) ∧ w8.cell? (ad.add (n * 2)) = some (.int .i64 (b.f0)) ∧ w8.cell? ⟨(ad.add (n * 2)).block, (ad.add (n * 2)).off + 1, none⟩ = some (.int .i64 (b.f1)) := hS_
           refine norm_ (a' := ?_) ?_ ?_
           rotate_left
           ·simp only [putAll, Act.put, sA, sB, sC]
            rfl
           refine two_ (i := 11) (j := 12) (Ni := some 7) (Nj := some 8) (Bs 12 15) (Br [11,1,1,2]) rfl rfl rfl rfl (two_of HT_.out (by kernel_rfl)) (by decide) (by decide) (fun K hK => ?_) (fun K hK => ?_)
           ·skip
            refine box_step ?hg (N := 7) ?hd (cs := #[.int .i64 0, .int .i64 0]) (t := 31) ?hr ?_; (case hd => rfl); (case hg => rfl); (case hr => first | (go_simp; done) | (go_simp; rfl))
            intro gG1 hg w9 hbox hb
            have n0_ := Aside0.mk (below_step lB hb)
            have n1_ := Aside0.mk (hbox)
            have n2_ := Aside0.mk ((by rw [hg]; exact (below_size lB) : w.heap.size ≤ gG1))
            have n3_ := Aside0.mk ((by rw [hg]; exact (below_size lB) : w.heap.size ≤ gG1))
            clear HB
            have HB := n0_
            have BKG1 := n1_
            have GWG1 := n2_
            have GEG1 := n3_
            clear n0_ n1_ n2_ n3_
            clear hb hbox hg
            refine hK.out _ _ ⟨(cB HB.out hw_p0), (cB HB.out hw_p1), (cB HB.out hw_q0), (cB HB.out hw_q1)⟩ (fun hHeld => ?_)
            clear hK K
            refine nm 7 ?_
            exact norm_ (by first | (simp only [putAll, Act.put, sA, sB, sC]; done) | (simp only [putAll, Act.put, sA, sB, sC]; rfl)) (hJ8_11 (gG1) _ ⟨hHeld, (kX BKG1.out), GWG1.out, GEG1.out, lB⟩)
           ·skip
            refine box_step ?hg (N := 8) ?hd (cs := #[.int .i64 0, .int .i64 0]) (t := 31) ?hr ?_; (case hd => rfl); (case hg => rfl); (case hr => first | (go_simp; done) | (go_simp; rfl))
            intro gG2 hg w9 hbox hb
            have n0_ := Aside0.mk (below_step lB hb)
            have n1_ := Aside0.mk (hbox)
            have n2_ := Aside0.mk ((by rw [hg]; exact (below_size lB) : w.heap.size ≤ gG2))
            have n3_ := Aside0.mk ((by rw [hg]; exact (below_size lB) : w.heap.size ≤ gG2))
            clear HB
            have HB := n0_
            have BKG2 := n1_
            have GWG2 := n2_
            have GEG2 := n3_
            clear n0_ n1_ n2_ n3_
            clear hb hbox hg
            refine hK.out _ _ ⟨(cB HB.out hw_p0), (cB HB.out hw_p1), (cB HB.out hw_q0), (cB HB.out hw_q1)⟩ (fun hHeld => ?_)
            clear hK K
            refine nm 8 ?_
            exact norm_ (by first | (simp only [putAll, Act.put, sA, sB, sC]; done) | (simp only [putAll, Act.put, sA, sB, sC]; rfl)) (hJ8_12 (gG2) _ ⟨hHeld, (kX BKG2.out), GWG2.out, GEG2.out, lB⟩)
         ·skip
          rintro ⟨gG1, gG2⟩ wE ⟨hS_, h0_, h1_, h2_, h3_, h4_, h5_, h6_, h7_, h8_⟩
          have n0_ : Aside0 (wE.heap[gG1]? = some (.cells #[.int .i64 0, .int .i64 0] 31 (0, 0))) := ⟨h0_⟩
          have n1_ : Aside0 (wE.heap[gG2]? = some (.cells #[.int .i64 0, .int .i64 0] 31 (0, 0))) := ⟨h1_⟩
          have n2_ : Aside0 (w.heap.size ≤ gG1) := ⟨h2_⟩
          have n3_ : Aside0 (w.heap.size ≤ gG1) := ⟨h3_⟩
          have n4_ : Aside0 (gG2 ≠ gG1) := ⟨h4_⟩
          have n5_ : Aside0 (gG1 ≠ gG2) := ⟨h5_⟩
          have n6_ : Aside0 (w.heap.size ≤ gG2) := ⟨h6_⟩
          have n7_ : Aside0 (w.heap.size ≤ gG2) := ⟨h7_⟩
          have n8_ : Aside0 (Below w.heap.size w wE) := ⟨h8_⟩
          clear HB
          clear h0_ h1_ h2_ h3_ h4_ h5_ h6_ h7_ h8_
          have BKG1 := n0_
          have BKG2 := n1_
          have GWG1 := n2_
          have GEG1 := n3_
          have NB21 := n4_
          have NB12 := n5_
          have GWG2 := n6_
          have GEG2 := n7_
          have HB := n8_
          clear n0_ n1_ n2_ n3_ n4_ n5_ n6_ n7_ n8_
          have hHeld : wE.cell? (ad.add (k * 2)) = some (.int .i64 (a.f0)) ∧ wE.cell? ⟨(ad.add (k * 2)).block, (ad.add (k * 2)).off + 1, none⟩ = some (.int .i64 (a.f1)) ∧ wE.cell? (ad.add (n * 2)) = some (.int .i64 (b.f0)) ∧ wE.cell? ⟨(ad.add (n * 2)).block, (ad.add (n * 2)).off + 1, none⟩ = some (.int .i64 (b.f1)) := hS_
          refine norm_ (a' := ?_) ?_ ?_
          rotate_left
          ·simp only [putAll, Act.put, sA, sB, sC]
           rfl
          refine one_ (i := 8) (N := some 23) (Br [9,2,2,2]) rfl rfl (one_of HT_.out (by kernel_rfl)) (by decide) (fun K hK => ?_)
          refine goes_ Try.func54 (by kernel_rfl) rfl #[.int .i64 ((k : Nat) : Int), .int .i64 (l0.length : Int)] (by rfl) rfl rfl (by (try simp only [List.map_toArray, List.map_cons, List.map_nil]); first | done | rfl | (simp only [List.length_drop, List.length_take]; rfl)) ?_
          with_reducible refine (silversideref01_next.calls ((k : Nat) : Int) (l0.length : Int) ((n : Nat) : Int) _ HNX.out).mono ?_
          rintro e w' ⟨rfl, ⟨nd, rfl⟩⟩
          refine ⟨_, rfl, ?_⟩
          refine hK.out _ _ ⟨(cB HB.out hw_p0), (cB HB.out hw_p1), (cB HB.out hw_q0), (cB HB.out hw_q1)⟩ (fun hHeld => ?_)
          clear hK K
          refine nm 23 ?_
          refine pu 9 24 (Br [10,1,2,2]) HT_ ?_
          refine ta 10 25 (Bs 13 15) HT_ HW_ hHeld ?_
          exact norm_ (by first | (simp only [putAll, Act.put, sA, sB, sC]; done) | (simp only [putAll, Act.put, sA, sB, sC]; rfl)) (hJ8_11_12 (gG1, gG2) _ ⟨hHeld, (kX BKG1.out), (kX BKG2.out), GWG1.out, GEG1.out, NB21.out, NB12.out, GWG2.out, GEG2.out, lB⟩)
        ·skip
         rintro gG2 w9 ⟨hS_, h0_, h1_, h2_, h3_⟩
         have n0_ : Aside0 (w9.heap[gG2]? = some (.cells #[.int .i64 0, .int .i64 0] 31 (0, 0))) := ⟨h0_⟩
         have n1_ : Aside0 (w.heap.size ≤ gG2) := ⟨h1_⟩
         have n2_ : Aside0 (w.heap.size ≤ gG2) := ⟨h2_⟩
         have n3_ : Aside0 (Below w.heap.size w w9) := ⟨h3_⟩
         clear HB
         clear h0_ h1_ h2_ h3_
         have BKG2 := n0_
         have GWG2 := n1_
         have GEG2 := n2_
         have HB := n3_
         clear n0_ n1_ n2_ n3_
         have hHeld : w9.cell? (ad.add (k * 2)) = some (.int .i64 (a.f0)) ∧ w9.cell? ⟨(ad.add (k * 2)).block, (ad.add (k * 2)).off + 1, none⟩ = some (.int .i64 (a.f1)) ∧ w9.cell? (ad.add (n * 2)) = some (.int .i64 (b.f0)) ∧ w9.cell? ⟨(ad.add (n * 2)).block, (ad.add (n * 2)).off + 1, none⟩ = some (.int .i64 (b.f1)) := hS_
         refine norm_ (a' := ?_) ?_ ?_
         rotate_left
         ·simp only [putAll, Act.put, sA, sB, sC]
          rfl
         refine one_ (i := 11) (N := some 7) (Bs 13 15) rfl rfl (one_of HT_.out (by kernel_rfl)) (by decide) (fun K hK => ?_)
         refine box_step ?hg (N := 7) ?hd (cs := #[.int .i64 0, .int .i64 0]) (t := 31) ?hr ?_; (case hd => rfl); (case hg => rfl); (case hr => first | (go_simp; done) | (go_simp; rfl))
         intro gG1 hg wE hbox hb
         have n0_ := Aside0.mk (blk_below (g := gG2) (o := .cells #[.int .i64 0, .int .i64 0] 31 (0, 0)) (kX BKG2.out) hb)
         have n1_ := Aside0.mk (below_step lB hb)
         have n2_ := Aside0.mk (hbox)
         have n3_ := Aside0.mk ((by rw [hg]; exact (below_size lB) : w.heap.size ≤ gG1))
         have n4_ := Aside0.mk ((by rw [hg]; exact (below_size lB) : w.heap.size ≤ gG1))
         have n5_ := Aside0.mk ((by rw [hg]; exact Nat.ne_of_lt (blk_lt (g := gG2) (o := .cells #[.int .i64 0, .int .i64 0] 31 (0, 0)) (kX BKG2.out)) : gG2 ≠ gG1))
         have n6_ := Aside0.mk ((by rw [hg]; exact Nat.ne_of_gt (blk_lt (g := gG2) (o := .cells #[.int .i64 0, .int .i64 0] 31 (0, 0)) (kX BKG2.out)) : gG1 ≠ gG2))
         clear BKG2
         clear HB
         have BKG2 := n0_
         have HB := n1_
         have BKG1 := n2_
         have GWG1 := n3_
         have GEG1 := n4_
         have NB21 := n5_
         have NB12 := n6_
         clear n0_ n1_ n2_ n3_ n4_ n5_ n6_
         clear hb hbox hg
         refine hK.out _ _ ⟨(cB HB.out hw_p0), (cB HB.out hw_p1), (cB HB.out hw_q0), (cB HB.out hw_q1)⟩ (fun hHeld => ?_)
         clear hK K
         refine nm 7 ?_
         exact norm_ (by first | (simp only [putAll, Act.put, sA, sB, sC]; done) | (simp only [putAll, Act.put, sA, sB, sC]; rfl)) (hJ8_11_12 (gG1, gG2) _ ⟨hHeld, (kX BKG1.out), (kX BKG2.out), GWG1.out, GEG1.out, NB21.out, NB12.out, GWG2.out, GEG2.out, lB⟩)
       ·skip
        rintro gG1 w9 ⟨hS_, h0_, h1_, h2_, h3_⟩
        have n0_ : Aside0 (w9.heap[gG1]? = some (.cells #[.int .i64 0, .int .i64 0] 31 (0, 0))) := ⟨h0_⟩
        have n1_ : Aside0 (w.heap.size ≤ gG1) := ⟨h1_⟩
        have n2_ : Aside0 (w.heap.size ≤ gG1) := ⟨h2_⟩
        have n3_ : Aside0 (Below w.heap.size w w9) := ⟨h3_⟩
        clear HB
        clear h0_ h1_ h2_ h3_
        have BKG1 := n0_
        have GWG1 := n1_
        have GEG1 := n2_
        have HB := n3_
        clear n0_ n1_ n2_ n3_
        have hHeld : w9.cell? (ad.add (k * 2)) = some (.int .i64 (a.f0)) ∧ w9.cell? ⟨(ad.add (k * 2)).block, (ad.add (k * 2)).off + 1, none⟩ = some (.int .i64 (a.f1)) ∧ w9.cell? (ad.add (n * 2)) = some (.int .i64 (b.f0)) ∧ w9.cell? ⟨(ad.add (n * 2)).block, (ad.add (n * 2)).off + 1, none⟩ = some (.int .i64 (b.f1)) := hS_
        refine norm_ (a' := ?_) ?_ ?_
        rotate_left
        ·simp only [putAll, Act.put, sA, sB, sC]
         rfl
        refine one_ (i := 12) (N := some 8) (Bs 13 15) rfl rfl (one_of HT_.out (by kernel_rfl)) (by decide) (fun K hK => ?_)
        refine box_step ?hg (N := 8) ?hd (cs := #[.int .i64 0, .int .i64 0]) (t := 31) ?hr ?_; (case hd => rfl); (case hg => rfl); (case hr => first | (go_simp; done) | (go_simp; rfl))
        intro gG2 hg wE hbox hb
        have n0_ := Aside0.mk (blk_below (g := gG1) (o := .cells #[.int .i64 0, .int .i64 0] 31 (0, 0)) (kX BKG1.out) hb)
        have n1_ := Aside0.mk (below_step lB hb)
        have n2_ := Aside0.mk (hbox)
        have n3_ := Aside0.mk ((by rw [hg]; exact (below_size lB) : w.heap.size ≤ gG2))
        have n4_ := Aside0.mk ((by rw [hg]; exact (below_size lB) : w.heap.size ≤ gG2))
        have n5_ := Aside0.mk ((by rw [hg]; exact Nat.ne_of_lt (blk_lt (g := gG1) (o := .cells #[.int .i64 0, .int .i64 0] 31 (0, 0)) (kX BKG1.out)) : gG1 ≠ gG2))
        have n6_ := Aside0.mk ((by rw [hg]; exact Nat.ne_of_gt (blk_lt (g := gG1) (o := .cells #[.int .i64 0, .int .i64 0] 31 (0, 0)) (kX BKG1.out)) : gG2 ≠ gG1))
        clear BKG1
        clear HB
        have BKG1 := n0_
        have HB := n1_
        have BKG2 := n2_
        have GWG2 := n3_
        have GEG2 := n4_
        have NB12 := n5_
        have NB21 := n6_
        clear n0_ n1_ n2_ n3_ n4_ n5_ n6_
        clear hb hbox hg
        refine hK.out _ _ ⟨(cB HB.out hw_p0), (cB HB.out hw_p1), (cB HB.out hw_q0), (cB HB.out hw_q1)⟩ (fun hHeld => ?_)
        clear hK K
        refine nm 8 ?_
        exact norm_ (by first | (simp only [putAll, Act.put, sA, sB, sC]; done) | (simp only [putAll, Act.put, sA, sB, sC]; rfl)) (hJ8_11_12 (gG1, gG2) _ ⟨hHeld, (kX BKG1.out), (kX BKG2.out), GWG1.out, GEG1.out, NB21.out, NB12.out, GWG2.out, GEG2.out, lB⟩)
      rintro ⟨gG1, gG2⟩ wE ⟨hS_, h0_, h1_, h2_, h3_, h4_, h5_, h6_, h7_, h8_⟩
      have n0_ : Aside0 (wE.heap[gG1]? = some (.cells #[.int .i64 0, .int .i64 0] 31 (0, 0))) := ⟨h0_⟩
      have n1_ : Aside0 (wE.heap[gG2]? = some (.cells #[.int .i64 0, .int .i64 0] 31 (0, 0))) := ⟨h1_⟩
      have n2_ : Aside0 (w.heap.size ≤ gG1) := ⟨h2_⟩
      have n3_ : Aside0 (w.heap.size ≤ gG1) := ⟨h3_⟩
      have n4_ : Aside0 (gG2 ≠ gG1) := ⟨h4_⟩
      have n5_ : Aside0 (gG1 ≠ gG2) := ⟨h5_⟩
      have n6_ : Aside0 (w.heap.size ≤ gG2) := ⟨h6_⟩
      have n7_ : Aside0 (w.heap.size ≤ gG2) := ⟨h7_⟩
      have n8_ : Aside0 (Below w.heap.size w wE) := ⟨h8_⟩
      clear HB
      clear h0_ h1_ h2_ h3_ h4_ h5_ h6_ h7_ h8_
      have BKG1 := n0_
      have BKG2 := n1_
      have GWG1 := n2_
      have GEG1 := n3_
      have NB21 := n4_
      have NB12 := n5_
      have GWG2 := n6_
      have GEG2 := n7_
      have HB := n8_
      clear n0_ n1_ n2_ n3_ n4_ n5_ n6_ n7_ n8_
      have hHeld : wE.cell? (ad.add (k * 2)) = some (.int .i64 (a.f0)) ∧ wE.cell? ⟨(ad.add (k * 2)).block, (ad.add (k * 2)).off + 1, none⟩ = some (.int .i64 (a.f1)) ∧ wE.cell? (ad.add (n * 2)) = some (.int .i64 (b.f0)) ∧ wE.cell? ⟨(ad.add (n * 2)).block, (ad.add (n * 2)).off + 1, none⟩ = some (.int .i64 (b.f1)) := hS_
      refine norm_ (a' := ?_) ?_ ?_
      rotate_left
      ·simp only [putAll, Act.put, sA, sB, sC]
       rfl
      refine one_ (i := 13) (N := none) (Bs 14 15) rfl rfl (one_of HT_.out (by kernel_rfl)) (by decide) (fun K hK => ?_)
      have hs11 : wE.cell? ⟨gG1, 0, none⟩ = some (.int .i64 0) := (blk_cell BKG1.out 0).trans rfl
      have hfs11 := blk_frozen BKG1.out 0
      have hns11_1 := NB21.out
      have hms11_1 := NB12.out
      have hs12 : wE.cell? ⟨gG1, 1, none⟩ = some (.int .i64 0) := (blk_cell BKG1.out 1).trans rfl
      have hfs12 := blk_frozen BKG1.out 1
      have hns12_1 := NB21.out
      have hms12_1 := NB12.out
      refine skip_ (w1 := ?_) (by rfl) rfl ?_ ?_
      rotate_left
      ·go_simp
       rfl
      refine hK.out _ _ ⟨((cell_far (p := ⟨gG1, _, none⟩) (by first | exact Nat.ne_of_lt (Nat.lt_of_lt_of_le (by have := World.block_lt_of_cell? _ _ hw_p0; first | rwa [add_block] at this | exact this) GWG1.out) | (rw [add_block]; exact Nat.ne_of_lt (Nat.lt_of_lt_of_le (by have := World.block_lt_of_cell? _ _ hw_p0; first | rwa [add_block] at this | exact this) GWG1.out)) | (show (Addr.add _ _).block ≠ _; rw [add_block]; exact Nat.ne_of_lt (Nat.lt_of_lt_of_le (by have := World.block_lt_of_cell? _ _ hw_p0; first | rwa [add_block] at this | exact this) GWG1.out)) | (dsimp only; exact Nat.ne_of_lt (Nat.lt_of_lt_of_le (by have := World.block_lt_of_cell? _ _ hw_p0; first | rwa [add_block] at this | exact this) GWG1.out))) _).trans (((cell_far (p := ⟨gG1, _, none⟩) (by first | exact Nat.ne_of_lt (Nat.lt_of_lt_of_le (by have := World.block_lt_of_cell? _ _ hw_p0; first | rwa [add_block] at this | exact this) GWG1.out) | (rw [add_block]; exact Nat.ne_of_lt (Nat.lt_of_lt_of_le (by have := World.block_lt_of_cell? _ _ hw_p0; first | rwa [add_block] at this | exact this) GWG1.out)) | (show (Addr.add _ _).block ≠ _; rw [add_block]; exact Nat.ne_of_lt (Nat.lt_of_lt_of_le (by have := World.block_lt_of_cell? _ _ hw_p0; first | rwa [add_block] at this | exact this) GWG1.out)) | (dsimp only; exact Nat.ne_of_lt (Nat.lt_of_lt_of_le (by have := World.block_lt_of_cell? _ _ hw_p0; first | rwa [add_block] at this | exact this) GWG1.out))) _).trans (hHeld.1)))), ((cell_far (p := ⟨gG1, _, none⟩) (by first | exact Nat.ne_of_lt (Nat.lt_of_lt_of_le (by have := World.block_lt_of_cell? _ _ hw_p1; first | rwa [add_block] at this | exact this) GWG1.out) | (rw [add_block]; exact Nat.ne_of_lt (Nat.lt_of_lt_of_le (by have := World.block_lt_of_cell? _ _ hw_p1; first | rwa [add_block] at this | exact this) GWG1.out)) | (show (Addr.add _ _).block ≠ _; rw [add_block]; exact Nat.ne_of_lt (Nat.lt_of_lt_of_le (by have := World.block_lt_of_cell? _ _ hw_p1; first | rwa [add_block] at this | exact this) GWG1.out)) | (dsimp only; exact Nat.ne_of_lt (Nat.lt_of_lt_of_le (by have := World.block_lt_of_cell? _ _ hw_p1; first | rwa [add_block] at this | exact this) GWG1.out))) _).trans (((cell_far (p := ⟨gG1, _, none⟩) (by first | exact Nat.ne_of_lt (Nat.lt_of_lt_of_le (by have := World.block_lt_of_cell? _ _ hw_p1; first | rwa [add_block] at this | exact this) GWG1.out) | (rw [add_block]; exact Nat.ne_of_lt (Nat.lt_of_lt_of_le (by have := World.block_lt_of_cell? _ _ hw_p1; first | rwa [add_block] at this | exact this) GWG1.out)) | (show (Addr.add _ _).block ≠ _; rw [add_block]; exact Nat.ne_of_lt (Nat.lt_of_lt_of_le (by have := World.block_lt_of_cell? _ _ hw_p1; first | rwa [add_block] at this | exact this) GWG1.out)) | (dsimp only; exact Nat.ne_of_lt (Nat.lt_of_lt_of_le (by have := World.block_lt_of_cell? _ _ hw_p1; first | rwa [add_block] at this | exact this) GWG1.out))) _).trans (hHeld.2.1)))), ((cell_far (p := ⟨gG1, _, none⟩) (by first | exact Nat.ne_of_lt (Nat.lt_of_lt_of_le (by have := World.block_lt_of_cell? _ _ hw_q0; first | rwa [add_block] at this | exact this) GWG1.out) | (rw [add_block]; exact Nat.ne_of_lt (Nat.lt_of_lt_of_le (by have := World.block_lt_of_cell? _ _ hw_q0; first | rwa [add_block] at this | exact this) GWG1.out)) | (show (Addr.add _ _).block ≠ _; rw [add_block]; exact Nat.ne_of_lt (Nat.lt_of_lt_of_le (by have := World.block_lt_of_cell? _ _ hw_q0; first | rwa [add_block] at this | exact this) GWG1.out)) | (dsimp only; exact Nat.ne_of_lt (Nat.lt_of_lt_of_le (by have := World.block_lt_of_cell? _ _ hw_q0; first | rwa [add_block] at this | exact this) GWG1.out))) _).trans (((cell_far (p := ⟨gG1, _, none⟩) (by first | exact Nat.ne_of_lt (Nat.lt_of_lt_of_le (by have := World.block_lt_of_cell? _ _ hw_q0; first | rwa [add_block] at this | exact this) GWG1.out) | (rw [add_block]; exact Nat.ne_of_lt (Nat.lt_of_lt_of_le (by have := World.block_lt_of_cell? _ _ hw_q0; first | rwa [add_block] at this | exact this) GWG1.out)) | (show (Addr.add _ _).block ≠ _; rw [add_block]; exact Nat.ne_of_lt (Nat.lt_of_lt_of_le (by have := World.block_lt_of_cell? _ _ hw_q0; first | rwa [add_block] at this | exact this) GWG1.out)) | (dsimp only; exact Nat.ne_of_lt (Nat.lt_of_lt_of_le (by have := World.block_lt_of_cell? _ _ hw_q0; first | rwa [add_block] at this | exact this) GWG1.out))) _).trans (hHeld.2.2.1)))), ((cell_far (p := ⟨gG1, _, none⟩) (by first | exact Nat.ne_of_lt (Nat.lt_of_lt_of_le (by have := World.block_lt_of_cell? _ _ hw_q1; first | rwa [add_block] at this | exact this) GWG1.out) | (rw [add_block]; exact Nat.ne_of_lt (Nat.lt_of_lt_of_le (by have := World.block_lt_of_cell? _ _ hw_q1; first | rwa [add_block] at this | exact this) GWG1.out)) | (show (Addr.add _ _).block ≠ _; rw [add_block]; exact Nat.ne_of_lt (Nat.lt_of_lt_of_le (by have := World.block_lt_of_cell? _ _ hw_q1; first | rwa [add_block] at this | exact this) GWG1.out)) | (dsimp only; exact Nat.ne_of_lt (Nat.lt_of_lt_of_le (by have := World.block_lt_of_cell? _ _ hw_q1; first | rwa [add_block] at this | exact this) GWG1.out))) _).trans (((cell_far (p := ⟨gG1, _, none⟩) (by first | exact Nat.ne_of_lt (Nat.lt_of_lt_of_le (by have := World.block_lt_of_cell? _ _ hw_q1; first | rwa [add_block] at this | exact this) GWG1.out) | (rw [add_block]; exact Nat.ne_of_lt (Nat.lt_of_lt_of_le (by have := World.block_lt_of_cell? _ _ hw_q1; first | rwa [add_block] at this | exact this) GWG1.out)) | (show (Addr.add _ _).block ≠ _; rw [add_block]; exact Nat.ne_of_lt (Nat.lt_of_lt_of_le (by have := World.block_lt_of_cell? _ _ hw_q1; first | rwa [add_block] at this | exact this) GWG1.out)) | (dsimp only; exact Nat.ne_of_lt (Nat.lt_of_lt_of_le (by have := World.block_lt_of_cell? _ _ hw_q1; first | rwa [add_block] at this | exact this) GWG1.out))) _).trans (hHeld.2.2.2))))⟩ (fun hHeld => ?_)
      clear hK K
      refine one_ (i := 14) (N := none) (Bs 15 15) rfl rfl (one_of HT_.out (by kernel_rfl)) (by decide) (fun K hK => ?_)
      have hs13 : wE.cell? ⟨gG2, 0, none⟩ = some (.int .i64 0) := (blk_cell BKG2.out 0).trans rfl
      have hfs13 := blk_frozen BKG2.out 0
      have hns13_0 := NB12.out
      have hms13_0 := NB21.out
      have hs14 : wE.cell? ⟨gG2, 1, none⟩ = some (.int .i64 0) := (blk_cell BKG2.out 1).trans rfl
      have hfs14 := blk_frozen BKG2.out 1
      have hns14_0 := NB12.out
      have hms14_0 := NB21.out
      refine skip_ (w1 := ?_) (by rfl) rfl ?_ ?_
      rotate_left
      ·go_simp
       rfl
      refine hK.out _ _ ⟨((cell_far (p := ⟨gG2, _, none⟩) (by first | exact Nat.ne_of_lt (Nat.lt_of_lt_of_le (by have := World.block_lt_of_cell? _ _ hw_p0; first | rwa [add_block] at this | exact this) GWG2.out) | (rw [add_block]; exact Nat.ne_of_lt (Nat.lt_of_lt_of_le (by have := World.block_lt_of_cell? _ _ hw_p0; first | rwa [add_block] at this | exact this) GWG2.out)) | (show (Addr.add _ _).block ≠ _; rw [add_block]; exact Nat.ne_of_lt (Nat.lt_of_lt_of_le (by have := World.block_lt_of_cell? _ _ hw_p0; first | rwa [add_block] at this | exact this) GWG2.out)) | (dsimp only; exact Nat.ne_of_lt (Nat.lt_of_lt_of_le (by have := World.block_lt_of_cell? _ _ hw_p0; first | rwa [add_block] at this | exact this) GWG2.out))) _).trans (((cell_far (p := ⟨gG2, _, none⟩) (by first | exact Nat.ne_of_lt (Nat.lt_of_lt_of_le (by have := World.block_lt_of_cell? _ _ hw_p0; first | rwa [add_block] at this | exact this) GWG2.out) | (rw [add_block]; exact Nat.ne_of_lt (Nat.lt_of_lt_of_le (by have := World.block_lt_of_cell? _ _ hw_p0; first | rwa [add_block] at this | exact this) GWG2.out)) | (show (Addr.add _ _).block ≠ _; rw [add_block]; exact Nat.ne_of_lt (Nat.lt_of_lt_of_le (by have := World.block_lt_of_cell? _ _ hw_p0; first | rwa [add_block] at this | exact this) GWG2.out)) | (dsimp only; exact Nat.ne_of_lt (Nat.lt_of_lt_of_le (by have := World.block_lt_of_cell? _ _ hw_p0; first | rwa [add_block] at this | exact this) GWG2.out))) _).trans (hHeld.1)))), ((cell_far (p := ⟨gG2, _, none⟩) (by first | exact Nat.ne_of_lt (Nat.lt_of_lt_of_le (by have := World.block_lt_of_cell? _ _ hw_p1; first | rwa [add_block] at this | exact this) GWG2.out) | (rw [add_block]; exact Nat.ne_of_lt (Nat.lt_of_lt_of_le (by have := World.block_lt_of_cell? _ _ hw_p1; first | rwa [add_block] at this | exact this) GWG2.out)) | (show (Addr.add _ _).block ≠ _; rw [add_block]; exact Nat.ne_of_lt (Nat.lt_of_lt_of_le (by have := World.block_lt_of_cell? _ _ hw_p1; first | rwa [add_block] at this | exact this) GWG2.out)) | (dsimp only; exact Nat.ne_of_lt (Nat.lt_of_lt_of_le (by have := World.block_lt_of_cell? _ _ hw_p1; first | rwa [add_block] at this | exact this) GWG2.out))) _).trans (((cell_far (p := ⟨gG2, _, none⟩) (by first | exact Nat.ne_of_lt (Nat.lt_of_lt_of_le (by have := World.block_lt_of_cell? _ _ hw_p1; first | rwa [add_block] at this | exact this) GWG2.out) | (rw [add_block]; exact Nat.ne_of_lt (Nat.lt_of_lt_of_le (by have := World.block_lt_of_cell? _ _ hw_p1; first | rwa [add_block] at this | exact this) GWG2.out)) | (show (Addr.add _ _).block ≠ _; rw [add_block]; exact Nat.ne_of_lt (Nat.lt_of_lt_of_le (by have := World.block_lt_of_cell? _ _ hw_p1; first | rwa [add_block] at this | exact this) GWG2.out)) | (dsimp only; exact Nat.ne_of_lt (Nat.lt_of_lt_of_le (by have := World.block_lt_of_cell? _ _ hw_p1; first | rwa [add_block] at this | exact this) GWG2.out))) _).trans (hHeld.2.1)))), ((cell_far (p := ⟨gG2, _, none⟩) (by first | exact Nat.ne_of_lt (Nat.lt_of_lt_of_le (by have := World.block_lt_of_cell? _ _ hw_q0; first | rwa [add_block] at this | exact this) GWG2.out) | (rw [add_block]; exact Nat.ne_of_lt (Nat.lt_of_lt_of_le (by have := World.block_lt_of_cell? _ _ hw_q0; first | rwa [add_block] at this | exact this) GWG2.out)) | (show (Addr.add _ _).block ≠ _; rw [add_block]; exact Nat.ne_of_lt (Nat.lt_of_lt_of_le (by have := World.block_lt_of_cell? _ _ hw_q0; first | rwa [add_block] at this | exact this) GWG2.out)) | (dsimp only; exact Nat.ne_of_lt (Nat.lt_of_lt_of_le (by have := World.block_lt_of_cell? _ _ hw_q0; first | rwa [add_block] at this | exact this) GWG2.out))) _).trans (((cell_far (p := ⟨gG2, _, none⟩) (by first | exact Nat.ne_of_lt (Nat.lt_of_lt_of_le (by have := World.block_lt_of_cell? _ _ hw_q0; first | rwa [add_block] at this | exact this) GWG2.out) | (rw [add_block]; exact Nat.ne_of_lt (Nat.lt_of_lt_of_le (by have := World.block_lt_of_cell? _ _ hw_q0; first | rwa [add_block] at this | exact this) GWG2.out)) | (show (Addr.add _ _).block ≠ _; rw [add_block]; exact Nat.ne_of_lt (Nat.lt_of_lt_of_le (by have := World.block_lt_of_cell? _ _ hw_q0; first | rwa [add_block] at this | exact this) GWG2.out)) | (dsimp only; exact Nat.ne_of_lt (Nat.lt_of_lt_of_le (by have := World.block_lt_of_cell? _ _ hw_q0; first | rwa [add_block] at this | exact this) GWG2.out))) _).trans (hHeld.2.2.1)))), ((cell_far (p := ⟨gG2, _, none⟩) (by first | exact Nat.ne_of_lt (Nat.lt_of_lt_of_le (by have := World.block_lt_of_cell? _ _ hw_q1; first | rwa [add_block] at this | exact this) GWG2.out) | (rw [add_block]; exact Nat.ne_of_lt (Nat.lt_of_lt_of_le (by have := World.block_lt_of_cell? _ _ hw_q1; first | rwa [add_block] at this | exact this) GWG2.out)) | (show (Addr.add _ _).block ≠ _; rw [add_block]; exact Nat.ne_of_lt (Nat.lt_of_lt_of_le (by have := World.block_lt_of_cell? _ _ hw_q1; first | rwa [add_block] at this | exact this) GWG2.out)) | (dsimp only; exact Nat.ne_of_lt (Nat.lt_of_lt_of_le (by have := World.block_lt_of_cell? _ _ hw_q1; first | rwa [add_block] at this | exact this) GWG2.out))) _).trans (((cell_far (p := ⟨gG2, _, none⟩) (by first | exact Nat.ne_of_lt (Nat.lt_of_lt_of_le (by have := World.block_lt_of_cell? _ _ hw_q1; first | rwa [add_block] at this | exact this) GWG2.out) | (rw [add_block]; exact Nat.ne_of_lt (Nat.lt_of_lt_of_le (by have := World.block_lt_of_cell? _ _ hw_q1; first | rwa [add_block] at this | exact this) GWG2.out)) | (show (Addr.add _ _).block ≠ _; rw [add_block]; exact Nat.ne_of_lt (Nat.lt_of_lt_of_le (by have := World.block_lt_of_cell? _ _ hw_q1; first | rwa [add_block] at this | exact this) GWG2.out)) | (dsimp only; exact Nat.ne_of_lt (Nat.lt_of_lt_of_le (by have := World.block_lt_of_cell? _ _ hw_q1; first | rwa [add_block] at this | exact this) GWG2.out))) _).trans (hHeld.2.2.2))))⟩ (fun hHeld => ?_)
      clear hK K
      refine done_ (done_of HT_.out (by kernel_rfl)) ?_
      have B1 := Aside0.mk (blk_far (blk_far (blk_put (blk_put BKG1.out 0 (.int .i64 a.f0) rfl) 1 (.int .i64 a.f1) rfl) (p := ⟨gG2, 0, none⟩) NB12.out (.int .i64 b.f0)) (p := ⟨gG2, 1, none⟩) NB12.out (.int .i64 b.f1))
      have B2 := Aside0.mk (blk_put (blk_put (blk_far (blk_far BKG2.out (p := ⟨gG1, 0, none⟩) NB21.out (.int .i64 a.f0)) (p := ⟨gG1, 1, none⟩) NB21.out (.int .i64 a.f1)) 0 (.int .i64 b.f0) rfl) 1 (.int .i64 b.f1) rfl)
      have HBF := Aside0.mk (lS (j := 1) (v := .int .i64 b.f1) (lS (j := 0) (v := .int .i64 b.f0) (lS (j := 1) (v := .int .i64 a.f1) (lS (j := 0) (v := .int .i64 a.f0) HB.out GWG1.out) GWG1.out) GWG2.out) GWG2.out)
      clear hHeld hs11 hfs11 hns11_1 hms11_1 hs12 hfs12 hns12_1 hms12_1 hs13 hfs13 hns13_0 hms13_0 hs14 hfs14 hns14_0 hms14_0 BKG1 BKG2 HB
      generalize (((wE.setCell ⟨gG1, 0, none⟩ (.int .i64 a.f0)).setCell ⟨gG1, 1, none⟩ (.int .i64 a.f1)).setCell ⟨gG2, 0, none⟩ (.int .i64 b.f0)).setCell ⟨gG2, 1, none⟩ (.int .i64 b.f1) = wF at *
      have BP := Aside0.mk (blk_below BP0.out HBF.out)
      have e0 : wF.cell? ⟨gG1, 0, none⟩ = some (.int .i64 a.f0) := blk_cell B1.out 0
      have e1 : wF.cell? ⟨gG1, 1, none⟩ = some (.int .i64 a.f1) := blk_cell B1.out 1
      have e2 : wF.cell? ⟨gG2, 0, none⟩ = some (.int .i64 b.f0) := blk_cell B2.out 0
      have e3 : wF.cell? ⟨gG2, 1, none⟩ = some (.int .i64 b.f1) := blk_cell B2.out 1
      have e4 : wF.cell? ⟨gP, 0, none⟩ = some (.int .i64 p.f0) := blk_cell BP.out 0
      have e5 : wF.cell? ⟨gP, 1, none⟩ = some (.int .i64 p.f1) := blk_cell BP.out 1
      generalize hob : onB a b p = ob at *
      clear hob
      cases ob with
      | true =>
        have HR := Aside0.mk (show r = 0 by rw [HV.out, HST.out]; rfl)
        clear HV HST
        go_wp2_with (first | (go_at_call 59; go_must (refine (silversideref01_on.calls _ _ _ _ _ _ _ _ HON.out).mono ?_); rintro e w3 ⟨rfl, hb3⟩; have HB3 := Aside0.mk (below_step HBF.out hb3); clear hb3))
        go_ret
        exact ⟨by rw [HR.out]; rfl, below_step HBZ.out HB3.out⟩
      | false =>
        have HR := Aside0.mk (show r = insR l0 p (l0.length - (k + 1)) (k + 1) (xor odd cr) by rw [HV.out, HST.out]; rfl)
        clear HV HST
        by_cases h1 : a.f1 ≤ p.f1
        · have d1 : decide (a.f1 ≤ p.f1) = true := decide_eq_true h1
          by_cases h2 : p.f1 < b.f1
          · have d2 : decide (p.f1 < b.f1) = true := decide_eq_true h2
            have d3 : decide (b.f1 ≤ p.f1) = false := decide_eq_false (by omega)
            by_cases h3 : 0 < s1
            · have d4 : decide (0 < s1) = true := decide_eq_true h3
              have HC := Aside0.mk (show cr = true by rw [HCR.out, decide_eq_true_eq]; exact Or.inl ⟨h1, h2, h3⟩)
              rw [HC.out] at HR
              clear HCR HC h1 h2 h3
              go_wp2_with (first | (go_at_call 59; go_must (refine (silversideref01_on.calls _ _ _ _ _ _ _ _ HON.out).mono ?_); rintro e w3 ⟨rfl, hb3⟩; have HBN := Aside0.mk (below_step HBF.out hb3); have c0 := cB hb3 e0; have c1 := cB hb3 e1; have c2 := cB hb3 e2; have c3 := cB hb3 e3; have c4 := cB hb3 e4; have c5 := cB hb3 e5; clear hb3) | (go_at_call 31; go_must (refine (silversideref01_Turn.calls _ _ _ _ _ _ _ _ HT1.out).mono ?_); rintro e w4 ⟨rfl, hb4⟩; have HBM := Aside0.mk (below_step HBN.out hb4); have f0 := cB hb4 c0; have f1 := cB hb4 c1; have f2 := cB hb4 c2; have f3 := cB hb4 c3; have f4 := cB hb4 c4; have f5 := cB hb4 c5; clear hb4))
              go_roundw
              case rel => exact ⟨k + 1, xor odd true, by omega, by go_num, by cases odd <;> rfl, HR, HBM⟩
              case measure => simp [intOf]; omega
            · have d4 : decide (0 < s1) = false := decide_eq_false h3
              have HC := Aside0.mk (show cr = false by rw [HCR.out, decide_eq_false_iff_not]; omega)
              rw [HC.out] at HR
              clear HCR HC h1 h2 h3
              go_wp2_with (first | (go_at_call 59; go_must (refine (silversideref01_on.calls _ _ _ _ _ _ _ _ HON.out).mono ?_); rintro e w3 ⟨rfl, hb3⟩; have HBN := Aside0.mk (below_step HBF.out hb3); have c0 := cB hb3 e0; have c1 := cB hb3 e1; have c2 := cB hb3 e2; have c3 := cB hb3 e3; have c4 := cB hb3 e4; have c5 := cB hb3 e5; clear hb3) | (go_at_call 31; go_must (refine (silversideref01_Turn.calls _ _ _ _ _ _ _ _ HT1.out).mono ?_); rintro e w4 ⟨rfl, hb4⟩; have HBM := Aside0.mk (below_step HBN.out hb4); have f0 := cB hb4 c0; have f1 := cB hb4 c1; have f2 := cB hb4 c2; have f3 := cB hb4 c3; have f4 := cB hb4 c4; have f5 := cB hb4 c5; clear hb4))
              go_roundw
              case rel => exact ⟨k + 1, xor odd false, by omega, by go_num, by cases odd <;> rfl, HR, HBM⟩
              case measure => simp [intOf]; omega
          · have d2 : decide (p.f1 < b.f1) = false := decide_eq_false h2
            have d3 : decide (b.f1 ≤ p.f1) = true := decide_eq_true (by omega)
            have d5 : decide (p.f1 < a.f1) = false := decide_eq_false (by omega)
            have HC := Aside0.mk (show cr = false by rw [HCR.out, decide_eq_false_iff_not]; omega)
            rw [HC.out] at HR
            clear HCR HC h1 h2
            go_wp2_with (first | (go_at_call 59; go_must (refine (silversideref01_on.calls _ _ _ _ _ _ _ _ HON.out).mono ?_); rintro e w3 ⟨rfl, hb3⟩; have HBN := Aside0.mk (below_step HBF.out hb3); have c0 := cB hb3 e0; have c1 := cB hb3 e1; have c2 := cB hb3 e2; have c3 := cB hb3 e3; have c4 := cB hb3 e4; have c5 := cB hb3 e5; clear hb3))
            go_roundw
            case rel => exact ⟨k + 1, xor odd false, by omega, by go_num, by cases odd <;> rfl, HR, HBN⟩
            case measure => simp [intOf]; omega
        · have d1 : decide (a.f1 ≤ p.f1) = false := decide_eq_false h1
          have d5 : decide (p.f1 < a.f1) = true := decide_eq_true (by omega)
          by_cases h2 : b.f1 ≤ p.f1
          · have d3 : decide (b.f1 ≤ p.f1) = true := decide_eq_true h2
            by_cases h3 : 0 < s2
            · have d4 : decide (0 < s2) = true := decide_eq_true h3
              have HC := Aside0.mk (show cr = true by rw [HCR.out, decide_eq_true_eq]; exact Or.inr ⟨h2, by omega, h3⟩)
              rw [HC.out] at HR
              clear HCR HC h1 h2 h3
              go_wp2_with (first | (go_at_call 59; go_must (refine (silversideref01_on.calls _ _ _ _ _ _ _ _ HON.out).mono ?_); rintro e w3 ⟨rfl, hb3⟩; have HBN := Aside0.mk (below_step HBF.out hb3); have c0 := cB hb3 e0; have c1 := cB hb3 e1; have c2 := cB hb3 e2; have c3 := cB hb3 e3; have c4 := cB hb3 e4; have c5 := cB hb3 e5; clear hb3) | (go_at_call 31; go_must (refine (silversideref01_Turn.calls _ _ _ _ _ _ _ _ HT2.out).mono ?_); rintro e w4 ⟨rfl, hb4⟩; have HBM := Aside0.mk (below_step HBN.out hb4); have f0 := cB hb4 c0; have f1 := cB hb4 c1; have f2 := cB hb4 c2; have f3 := cB hb4 c3; have f4 := cB hb4 c4; have f5 := cB hb4 c5; clear hb4))
              go_roundw
              case rel => exact ⟨k + 1, xor odd true, by omega, by go_num, by cases odd <;> rfl, HR, HBM⟩
              case measure => simp [intOf]; omega
            · have d4 : decide (0 < s2) = false := decide_eq_false h3
              have HC := Aside0.mk (show cr = false by rw [HCR.out, decide_eq_false_iff_not]; omega)
              rw [HC.out] at HR
              clear HCR HC h1 h2 h3
              go_wp2_with (first | (go_at_call 59; go_must (refine (silversideref01_on.calls _ _ _ _ _ _ _ _ HON.out).mono ?_); rintro e w3 ⟨rfl, hb3⟩; have HBN := Aside0.mk (below_step HBF.out hb3); have c0 := cB hb3 e0; have c1 := cB hb3 e1; have c2 := cB hb3 e2; have c3 := cB hb3 e3; have c4 := cB hb3 e4; have c5 := cB hb3 e5; clear hb3) | (go_at_call 31; go_must (refine (silversideref01_Turn.calls _ _ _ _ _ _ _ _ HT2.out).mono ?_); rintro e w4 ⟨rfl, hb4⟩; have HBM := Aside0.mk (below_step HBN.out hb4); have f0 := cB hb4 c0; have f1 := cB hb4 c1; have f2 := cB hb4 c2; have f3 := cB hb4 c3; have f4 := cB hb4 c4; have f5 := cB hb4 c5; clear hb4))
              go_roundw
              case rel => exact ⟨k + 1, xor odd false, by omega, by go_num, by cases odd <;> rfl, HR, HBM⟩
              case measure => simp [intOf]; omega
          · have d3 : decide (b.f1 ≤ p.f1) = false := decide_eq_false h2
            have HC := Aside0.mk (show cr = false by rw [HCR.out, decide_eq_false_iff_not]; omega)
            rw [HC.out] at HR
            clear HCR HC h1 h2
            go_wp2_with (first | (go_at_call 59; go_must (refine (silversideref01_on.calls _ _ _ _ _ _ _ _ HON.out).mono ?_); rintro e w3 ⟨rfl, hb3⟩; have HBN := Aside0.mk (below_step HBF.out hb3); have c0 := cB hb3 e0; have c1 := cB hb3 e1; have c2 := cB hb3 e2; have c3 := cB hb3 e3; have c4 := cB hb3 e4; have c5 := cB hb3 e5; clear hb3))
            go_roundw
            case rel => exact ⟨k + 1, xor odd false, by omega, by go_num, by cases odd <;> rfl, HR, HBN⟩
            case measure => simp [intOf]; omega
    · obtain rfl : k = l0.length := by omega
      have HR := Aside0.mk (show r = if odd then 1 else -1 by rw [HV.out, Nat.sub_self]; rfl)
      clear HV
      cases odd with
      | true =>
        go_wp2
        go_ret
        exact ⟨by rw [HR.out]; rfl, below_step HBZ.out HB.out⟩
      | false =>
        go_wp2
        go_ret
        exact ⟨by rw [HR.out]; rfl, below_step HBZ.out HB.out⟩
def silversideref01_Inside.f (l0 : List S31) (a1 a2 : Int) : Option Int := if allOk l0 = true ∧ okPt ⟨a1, a2⟩ = true ∧ l0.length ≤ 4096 then some (insR l0 ⟨a1, a2⟩ l0.length 0 false) else none
theorem silversideref01_Inside.calls (A0 : Option Addr) (c0 : Nat) (l0 : List S31) (a1_0 a1_1 : Int) (r : Int) (w : World) (hr0 : Kd.C k31 w A0 l0.length l0) (hc0 : l0.length ≤ c0) (h : silversideref01_Inside.f l0 a1_0 a1_1 = some r) :
    Calls Try.prog 29 #[.slice A0 l0.length c0, .agg #[.int .i64 a1_0, .int .i64 a1_1]] w fun e w' => e = .returned (.int .i64 r) ∧ Below w.heap.size w w' := by
  unfold silversideref01_Inside.f at h
  split at h
  · rename_i hh
    cases h
    exact refinside_calls A0 c0 l0 ⟨a1_0, a1_1⟩ w hr0 hc0 hh.1 hh.2.1 hh.2.2
  · cases h
end Go.Proofs.Ythaklbjcjoolcaa.P
namespace Go.Proofs.Ythaklbjcjoolcaa.P
open Go.RowKit Go.Proofs.YthaklbjcjoolcaaW.PrintWords Go.Proofs.YthaklbjcjoolcaaW.PrintLast Go.Proofs.YthaklbjcjoolcaaW.PrintMore
/-- a point, moved -/
def mv (x y : Int) (p : S31) : S31 := ⟨p.f0 + x, p.f1 + y⟩
section
variable (x y : Int)
theorem crs_mv (a b c : S31) : crs (mv x y a) (mv x y b) (mv x y c) = crs a b c := by unfold crs mv; grind
theorem sqd_mv (a b : S31) : sqd (mv x y a) (mv x y b) = sqd a b := by unfold sqd mv; grind
theorem mn_mv (a b x : Int) : mn (a + x) (b + x) = mn a b + x := by unfold mn; split <;> split <;> omega
theorem mx_mv (a b x : Int) : mx (a + x) (b + x) = mx a b + x := by unfold mx; split <;> split <;> omega
theorem onB_mv (a b c : S31) : onB (mv x y a) (mv x y b) (mv x y c) = onB a b c := by
  rw [Bool.eq_iff_iff, onB_iff', onB_iff', crs_mv]
  unfold mv; simp only; omega
theorem ltP_mv (a b : S31) : ltP (mv x y a) (mv x y b) = ltP a b := by
  rw [Bool.eq_iff_iff]
  unfold ltP mv; simp only [decide_eq_true_eq]; omega
theorem meetB_mv (a b c d : S31) : meetB (mv x y a) (mv x y b) (mv x y c) (mv x y d) = meetB a b c d := by
  unfold meetB
  simp only [onB_mv, crs_mv]
theorem mv_inj {a b : S31} (h : mv x y a = mv x y b) : a = b := by
  unfold mv at h
  simp only [S31.mk.injEq] at h
  obtain ⟨h1, h2⟩ := h
  cases a; cases b
  simp only [S31.mk.injEq] at *
  omega
theorem pt_map (l : List S31) (i : Nat) (h : i < l.length) : pt (l.map (mv x y)) i = mv x y (pt l i) := by
  rw [pt_eq _ i (by rw [List.length_map]; exact h), pt_eq l i h, List.getElem_map]
theorem lf_mv {a b r : S31} : Lf (mv x y a) (mv x y b) (mv x y r) ↔ Lf a b r := by unfold Lf; rw [crs_mv, onB_mv]
theorem hull_mv {l H : List S31} (h : IsHull l H) : IsHull (l.map (mv x y)) (H.map (mv x y)) where
  pos := by rw [List.length_map]; exact h.pos
  mem := fun i hi => by
    rw [List.length_map] at hi
    rw [pt_map x y H i hi]; exact List.mem_map_of_mem (h.mem i hi)
  least := fun r hr => by
    obtain ⟨q, hq, rfl⟩ := List.mem_map.1 hr
    rw [pt_map x y H 0 h.pos, ltP_mv]; exact h.least q hq
  one := fun h1 r hr => by
    obtain ⟨q, hq, rfl⟩ := List.mem_map.1 hr
    rw [List.length_map] at h1
    rw [pt_map x y H 0 h.pos, h.one h1 q hq]
  ed := fun i hi r hr => by
    obtain ⟨q, hq, rfl⟩ := List.mem_map.1 hr
    rw [List.length_map] at hi ⊢
    rw [pt_map x y H i hi, pt_map x y H _ (nxt_lt h.pos), lf_mv]; exact h.ed i hi q hq
  ne := fun i h0 hi he => by
    rw [List.length_map] at hi
    rw [pt_map x y H i hi, pt_map x y H 0 h.pos] at he
    exact h.ne i h0 hi (mv_inj x y he)
  ner := fun i hi he => by
    rw [List.length_map] at hi
    rw [pt_map x y H i (by omega), pt_map x y H (i + 1) hi] at he
    exact h.ner i hi (mv_inj x y he)
theorem corners_mv {l : List S31} (h : 0 < l.length) : cornersS (l.map (mv x y)) = (cornersS l).map (mv x y) :=
  hull_unique (corners_hull _ (by rw [List.length_map]; exact h)) (hull_mv x y (corners_hull l h))
theorem widR_mv (l : List S31) (i : Nat) (hi : i < l.length) : ∀ (j : Nat) (m : Int), j ≤ i → widR (l.map (mv x y)) i j m = widR l i j m
  | 0, m, _ => rfl
  | j + 1, m, hj => by
    have e := widR_mv l i hi j m (by omega)
    unfold widR
    rw [e, pt_map x y l i hi, pt_map x y l j (by omega), sqd_mv]
theorem widA_mv (l : List S31) : ∀ i, i ≤ l.length → widA (l.map (mv x y)) i = widA l i
  | 0, _ => rfl
  | i + 1, hi => by
    have e := widA_mv l i (by omega)
    unfold widA
    rw [e, widR_mv x y l i (by omega) i _ (Nat.le_refl i)]
theorem nx_mv (l : List S31) (i : Nat) : nx (l.map (mv x y)) i = nx l i := by unfold nx; rw [List.length_map]
theorem rowB_mv (l : List S31) (i : Nat) (hi : i < l.length) : ∀ n k, k + n ≤ l.length → rowB (l.map (mv x y)) i n k = rowB l i n k
  | 0, _, _ => rfl
  | n + 1, k, hk => by
    have e := rowB_mv l i hi n (k + 1) (by omega)
    unfold rowB
    rw [e, nx_mv, nx_mv, pt_map x y l i hi, pt_map x y l k (by omega), pt_map x y l _ (nx_lt l i (by omega)), pt_map x y l _ (nx_lt l k (by omega)), meetB_mv]
theorem simB_mv (l : List S31) : ∀ n i, i + n ≤ l.length → simB (l.map (mv x y)) n i = simB l n i
  | 0, _, _ => rfl
  | n + 1, i, hi => by
    have e := simB_mv l n (i + 1) (by omega)
    have h0 : 0 < l.length := by omega
    have e1 : eqE (l.map (mv x y)) i = eqE l i := by
      unfold eqE
      rw [nx_mv, pt_map x y l i (by omega), pt_map x y l _ (nx_lt l i h0), Bool.eq_iff_iff]
      unfold mv
      simp only [Bool.and_eq_true, beq_iff_eq]; omega
    have e2 : xB (l.map (mv x y)) i = xB l i := by
      unfold xB
      rw [nx_mv, nx_mv, pt_map x y l i (by omega), pt_map x y l _ (nx_lt l i h0), pt_map x y l _ (nx_lt l _ h0), onB_mv, onB_mv]
    unfold simB
    rw [e, e1, e2, List.length_map]
    by_cases h : i + 2 ≤ l.length
    · rw [rowB_mv x y l i (by omega) _ _ (by omega)]
    · rw [show l.length - (i + 2) = 0 by omega]; rfl
theorem simple_mv {l : List S31} (h1 : allOk l = true) (h2 : allOk (l.map (mv x y)) = true) : simpleS (l.map (mv x y)) = simpleS l := by
  unfold simpleS
  rw [h1, h2, List.length_map, simB_mv x y l l.length 0 (by omega)]
theorem crossR_mv (a b p : S31) : crossR (mv x y a) (mv x y b) (mv x y p) = crossR a b p := by
  unfold crossR
  rw [crs_mv, crs_mv, Bool.eq_iff_iff, decide_eq_true_eq, decide_eq_true_eq]
  unfold mv; simp only; omega
theorem insR_mv (l : List S31) (p : S31) : ∀ n i odd, i + n ≤ l.length → insR (l.map (mv x y)) (mv x y p) n i odd = insR l p n i odd
  | 0, _, _, _ => rfl
  | n + 1, i, odd, hi => by
    have hlt : (i + 1) % l.length < l.length := Nat.mod_lt _ (by omega)
    unfold insR
    rw [List.length_map, pt_map x y l i (by omega), pt_map x y l _ hlt, onB_mv, crossR_mv, insR_mv l p n (i + 1) _ (by omega)]
end
/-! ### the area -/
def cyc (a b : S31) : Int := a.f0 * b.f1 - b.f0 * a.f1
def areN (l : List S31) : Nat → Int
  | 0 => 0
  | n + 1 => areN l n + cyc (pt l n) (pt l ((n + 1) % l.length))
theorem areN_mv (x y : Int) (l : List S31) (h0 : 0 < l.length) : ∀ n, n ≤ l.length → areN (l.map (mv x y)) n = areN l n + x * ((pt l (n % l.length)).f1 - (pt l 0).f1) - y * ((pt l (n % l.length)).f0 - (pt l 0).f0)
  | 0, _ => by rw [Nat.zero_mod]; show (0 : Int) = 0 + _ - _; grind
  | n + 1, hn => by
    have ih := areN_mv x y l h0 n (by omega)
    rw [Nat.mod_eq_of_lt (show n < l.length by omega)] at ih
    have hlt : (n + 1) % l.length < l.length := Nat.mod_lt _ h0
    unfold areN
    rw [ih, List.length_map, pt_map x y l n (by omega), pt_map x y l _ hlt]
    unfold cyc mv
    grind
theorem area_mv (x y : Int) (l : List S31) (h0 : 0 < l.length) : areN (l.map (mv x y)) l.length = areN l l.length := by
  rw [areN_mv x y l h0 l.length (Nat.le_refl _), Nat.mod_self]; grind
theorem cyc_bd {a b : S31} (ha : okPt a = true) (hb : okPt b = true) : -33554432 ≤ cyc a b ∧ cyc a b ≤ 33554432 := by
  rw [okPt_iff] at ha hb
  have h1 := mul_bd (a := a.f0) (b := b.f1) (m := 4096) (n := 4096) (by omega) (by omega)
  have h2 := mul_bd (a := b.f0) (b := a.f1) (m := 4096) (n := 4096) (by omega) (by omega)
  unfold cyc; omega
theorem areN_bd {l : List S31} (hok : allOk l = true) : ∀ n : Nat, n ≤ l.length → -33554432 * (n : Int) ≤ areN l n ∧ areN l n ≤ 33554432 * (n : Int)
  | 0, _ => ⟨by show _ ≤ (0 : Int); omega, by show (0 : Int) ≤ _; omega⟩
  | n + 1, hn => by
    have ih := areN_bd hok n (by omega)
    have h0 : 0 < l.length := by omega
    have hb := cyc_bd (pt_ok hok (i := n) (by omega)) (pt_ok hok (Nat.mod_lt (n + 1) h0))
    unfold areN; omega
theorem area_from {l : List S31} (hok : allOk l = true) (hl : l.length ≤ 512) : ∀ (n i : Nat), l.length - i = n → i ≤ l.length →
    plane_area.l0 (n + 1) l (areN l i) l (l.length : Int) (i : Int) = some (areN l l.length)
  | 0, i, hn, hi => by
    obtain rfl : i = l.length := by omega
    unfold plane_area.l0; rw [if_neg (by omega)]
  | n + 1, i, hn, hi => by
    have hlt : i < l.length := by omega
    have hj : (i + 1) % l.length < l.length := Nat.mod_lt _ (by omega)
    have ih := area_from hok hl n (i + 1) (by omega) (by omega)
    have hb := areN_bd hok (i + 1) (by omega)
    have hbi := areN_bd hok i (by omega)
    have oa := (okPt_iff _).1 (pt_ok hok hlt)
    have ob := (okPt_iff _).1 (pt_ok hok hj)
    have h1 := mul_bd (a := (pt l i).f0) (b := (pt l ((i + 1) % l.length)).f1) (m := 4096) (n := 4096) (by omega) (by omega)
    have h2 := mul_bd (a := (pt l ((i + 1) % l.length)).f0) (b := (pt l i).f1) (m := 4096) (n := 4096) (by omega) (by omega)
    have e : areN l (i + 1) = areN l i + cyc (pt l i) (pt l ((i + 1) % l.length)) := rfl
    unfold cyc at e
    unfold plane_area.l0
    rw [if_pos (by omega), if_pos (by omega), if_pos (by omega), if_neg (by omega), show Int.tmod (wrap64 ((i : Int) + 1)) (l.length : Int) = (((i + 1) % l.length : Nat) : Int) from nx_tmod l i hlt (by omega), if_pos (by omega), if_pos (by omega), rd_pt, rd_pt, w64i (x := (i : Int) + 1) (by omega) (by omega),
      w64i (x := (pt l i).f0 * (pt l ((i + 1) % l.length)).f1) (by omega) (by omega), w64i (x := (pt l ((i + 1) % l.length)).f0 * (pt l i).f1) (by omega) (by omega)]
    rw [w64i (x := (pt l i).f0 * (pt l ((i + 1) % l.length)).f1 - (pt l ((i + 1) % l.length)).f0 * (pt l i).f1) (by omega) (by omega), w64i (by omega) (by omega), ← e]
    exact ih
theorem area_val {l : List S31} (hok : allOk l = true) (hl : l.length ≤ 512) : plane_Area.f l = some (areN l l.length, 0) := by
  have h := area_from hok hl l.length 0 (by omega) (by omega)
  unfold plane_Area.f plane_area.f
  rw [if_neg (by omega), if_pos hok]
  have h' : plane_area.l0 (l.length + 1) l 0 l (l.length : Int) 0 = some (areN l l.length) := h
  rw [h']; rfl
theorem mod41 (a : Int) : ∃ m : Nat, m < 41 ∧ silversidelaw01_mod.f a 41 = some (m : Int) := by
  have e1 : IntKind.u64.wrap (41 : Int) = 41 := by decide
  have h1 : 0 ≤ IntKind.u64.wrap a := by
    unfold IntKind.wrap
    simp only [IntKind.bits, IntKind.signed]
    exact Int.emod_nonneg _ (by decide)
  unfold silversidelaw01_mod.f
  rw [e1, if_neg (by omega)]
  generalize IntKind.u64.wrap a = x at *
  rw [Int.tmod_eq_emod_of_nonneg h1]
  have h2 := Int.emod_nonneg x (show (41 : Int) ≠ 0 by decide)
  have h3 := Int.emod_lt_of_pos x (show (0 : Int) < 41 by decide)
  exact ⟨(x % 41).toNat, by omega, by rw [w64i (by omega) (by omega)]; congr 1; omega⟩
theorem grid_is (p : S31) : ∃ q : S31, silversidelaw01_grid.f p.f0 p.f1 = some (q.f0, q.f1) ∧ okPt q = true ∧ (okPt p = true → q = p) := by
  unfold silversidelaw01_grid.f
  rw [valid_is, Option.bind_some]
  by_cases h : okPt p = true
  · rw [if_pos h]; exact ⟨p, rfl, h, fun _ => rfl⟩
  · rw [if_neg h]
    obtain ⟨m, hm, e⟩ := mod41 p.f0
    obtain ⟨n, hn, e'⟩ := mod41 p.f1
    rw [e, e']
    simp only [Option.bind_some]
    rw [w64i (by omega) (by omega), w64i (by omega) (by omega)]
    exact ⟨⟨(m : Int) - 20, (n : Int) - 20⟩, rfl, (okPt_iff _).2 ⟨by simp only; omega, by simp only; omega⟩, fun h' => absurd h' h⟩
theorem allOk_snoc {l : List S31} {p : S31} (h : allOk l = true) (hp : okPt p = true) : allOk (l ++ [p]) = true := by
  unfold allOk at *
  rw [List.all_append, h, List.all_cons, hp]; rfl
/-- a set made of any list -/
theorem gset_from (l : List S31) (m : Nat) (hm : m ≤ 512) (hm1 : 1 ≤ m) : ∀ (n i : Nat) (out : List S31), l.length - i = n → i ≤ l.length → out.length = i → i ≤ m → allOk out = true →
    ∃ t : List S31, Ev (fun k => silversidelaw01_set.l0 k l (m : Int) out (i : Int)) t ∧ 1 ≤ t.length ∧ t.length ≤ m ∧ allOk t = true := by
  have fin : ∀ (i : Nat) (out : List S31), out.length = i → i ≤ m → allOk out = true → ∃ t : List S31, Ev (fun _ => if (out.length : Int) = 0 then (if out.length < 8796093022208 then (some (out ++ [(⟨0, 0⟩ : S31)])) else (none)) else (some out)) t ∧ 1 ≤ t.length ∧ t.length ≤ m ∧ allOk t = true := by
    intro i out h1 h2 h3
    by_cases h0 : out.length = 0
    · refine ⟨_, ev_pos (by omega) (ev_pos (by omega) (Ev.now _)), by simp, by simp only [List.length_append, List.length_singleton]; omega, allOk_snoc h3 (by decide)⟩
    · exact ⟨out, ev_neg (by omega) (Ev.now _), by omega, by omega, h3⟩
  intro n
  induction n with
  | zero =>
    intro i out hn hi ho him hok
    obtain ⟨t, ht, h1, h2, h3⟩ := fin i out ho him hok
    refine ⟨t, Ev.step (fun k => ?_) ht, h1, h2, h3⟩
    unfold silversidelaw01_set.l0
    rw [if_neg (by omega)]
  | succ n ih =>
    intro i out hn hi ho him hok
    have hlt : i < l.length := by omega
    by_cases h1 : i < m
    · obtain ⟨q, hq, hqo, _⟩ := grid_is l[i]
      obtain ⟨t, ht, h2, h3, h4⟩ := ih (i + 1) (out ++ [q]) (by omega) (by omega) (by rw [List.length_append, List.length_singleton, ho]) (by omega) (allOk_snoc hok hqo)
      refine ⟨t, Ev.step (fun k => ?_) ht, h2, h3, h4⟩
      conv => lhs; unfold silversidelaw01_set.l0
      rw [if_pos (by omega), if_pos (by omega), if_pos (by omega), rd_at l i hlt, hq, Option.bind_some, if_pos (by omega), w64i (x := (i : Int) + 1) (by omega) (by omega)]
      rfl
    · obtain ⟨t, ht, h2, h3, h4⟩ := fin i out ho him hok
      refine ⟨t, Ev.step (fun k => ?_) ht, h2, h3, h4⟩
      conv => lhs; unfold silversidelaw01_set.l0
      rw [if_pos (by omega), if_neg (by omega)]
theorem gset_ev (l : List S31) (m : Nat) (hm : m ≤ 512) (hm1 : 1 ≤ m) : ∃ t : List S31, Ev (fun k => silversidelaw01_set.f k l (m : Int)) t ∧ 1 ≤ t.length ∧ t.length ≤ m ∧ allOk t = true :=
  gset_from l m hm hm1 (l.length - 0) 0 [] rfl (by omega) rfl (by omega) rfl
end Go.Proofs.Ythaklbjcjoolcaa.P
namespace Go.Proofs.Ythaklbjcjoolcaa.Pure
open Go.RowKit Go.Proofs.Ythaklbjcjoolcaa.P Go.Proofs.YthaklbjcjoolcaaW.PrintWords Go.Proofs.YthaklbjcjoolcaaW.PrintLast Go.Proofs.YthaklbjcjoolcaaW.PrintMore
/-- inside or outside, as a number -/
def way (odd : Bool) : Int := if odd then 1 else -1
theorem way_flip (odd : Bool) : wrap64 (-way odd) = way (!odd) := by
  rw [w64i (by cases odd <;> decide) (by cases odd <;> decide)]
  cases odd <;> rfl
theorem prog_ins (l : List S31) (p : S31) (ho : allOk l = true) (hp : okPt p = true) (hn : l.length ≤ 4096) : ∀ (m i : Nat) (odd : Bool), l.length - i = m → i ≤ l.length →
    Ev (fun k => plane_Inside.l0 k l (way odd) (l.length : Int) (i : Int) p.f0 p.f1) (insR l p m i odd, 0)
  | 0, i, odd, hm, hi => by
    refine Ev.step (f := fun _ => some (way odd, 0)) (fun k => ?_) (Ev.now _)
    rw [plane_Inside.l0, if_neg (by omega)]
  | m + 1, i, odd, hm, hi => by
    have hlt : i < l.length := by omega
    have hnb : (i + 1) % l.length < l.length := Nat.mod_lt _ (by omega)
    have oa := pt_ok ho hlt
    have ob := pt_ok ho hnb
    have ih := fun o => prog_ins l p ho hp hn m (i + 1) o (by omega) (by omega)
    have ej : wrap64 ((i : Int) + 1) = ((i + 1 : Nat) : Int) := w64i (x := (i : Int) + 1) (by omega) (by omega)
    have he := edge_is l i hlt hn
    have hst : insR l p (m + 1) i odd = if onB (pt l i) (pt l ((i + 1) % l.length)) p = true then 0 else insR l p m (i + 1) (xor odd (crossR (pt l i) (pt l ((i + 1) % l.length)) p)) := rfl
    rw [hst]
    generalize pt l ((i + 1) % l.length) = b at *
    generalize pt l i = a at *
    have hh := has_is oa ob hp
    have t1 := turn_is oa ob hp
    have t2 := turn_is ob oa hp
    refine Ev.step (f := fun k => if onB a b p = true then some (0, 0) else plane_Inside.l0 k l (way (xor odd (crossR a b p))) (l.length : Int) ((i + 1 : Nat) : Int) p.f0 p.f1) (fun k => ?_) ?_
    · rw [plane_Inside.l0, if_pos (by omega), he, Option.bind_some]
      simp only
      rw [hh, Option.bind_some, ej]
      by_cases ho : onB a b p = true
      · rw [if_pos ho, if_pos ho]
      · rw [if_neg ho, if_neg ho]
        by_cases h1 : a.f1 > b.f1
        · rw [if_pos h1]
          by_cases h2 : b.f1 ≤ p.f1
          · rw [if_pos h2]
            by_cases h3 : p.f1 < a.f1
            · rw [if_pos h3, t2, Option.bind_some]
              by_cases h4 : 0 < crs b a p
              · have hc : crossR a b p = true := by unfold crossR; rw [decide_eq_true_eq]; exact Or.inr ⟨h2, h3, h4⟩
                rw [if_pos (sgn_pos.2 h4), hc, way_flip, Bool.xor_true]
              · have hc : crossR a b p = false := by unfold crossR; rw [decide_eq_false_iff_not]; omega
                rw [if_neg (fun h => h4 (sgn_pos.1 h)), hc, Bool.xor_false]
            · have hc : crossR a b p = false := by unfold crossR; rw [decide_eq_false_iff_not]; omega
              rw [if_neg h3, hc, Bool.xor_false]
          · have hc : crossR a b p = false := by unfold crossR; rw [decide_eq_false_iff_not]; omega
            rw [if_neg h2, hc, Bool.xor_false]
        · rw [if_neg h1]
          by_cases h2 : a.f1 ≤ p.f1
          · rw [if_pos h2]
            by_cases h3 : p.f1 < b.f1
            · rw [if_pos h3, t1, Option.bind_some]
              by_cases h4 : 0 < crs a b p
              · have hc : crossR a b p = true := by unfold crossR; rw [decide_eq_true_eq]; exact Or.inl ⟨h2, h3, h4⟩
                rw [if_pos (sgn_pos.2 h4), hc, way_flip, Bool.xor_true]
              · have hc : crossR a b p = false := by unfold crossR; rw [decide_eq_false_iff_not]; omega
                rw [if_neg (fun h => h4 (sgn_pos.1 h)), hc, Bool.xor_false]
            · have hc : crossR a b p = false := by unfold crossR; rw [decide_eq_false_iff_not]; omega
              rw [if_neg h3, hc, Bool.xor_false]
          · have hc : crossR a b p = false := by unfold crossR; rw [decide_eq_false_iff_not]; omega
            rw [if_neg h2, hc, Bool.xor_false]
    · by_cases ho : onB a b p = true
      · rw [if_pos ho]; exact ev_pos ho (Ev.now _)
      · rw [if_neg ho]; exact ev_neg ho (ih _)
theorem invalid_is (p : S31) : plane_invalid.f p.f0 p.f1 = some (!okPt p) := by
  unfold plane_invalid.f plane_valid.f okPt
  simp only [within_is, Option.bind_some]
  by_cases h1 : -4096 ≤ p.f0 ∧ p.f0 ≤ 4096
  · by_cases h2 : -4096 ≤ p.f1 ∧ p.f1 ≤ 4096 <;> simp [h1, h2]
  · simp [h1]
/-- the program's answer -/
theorem inside_ev (t : List S31) (p : S31) : Ev (fun k => plane_Inside.f k t p.f0 p.f1) (if simpleS t = true ∧ okPt p = true then (insR t p t.length 0 false, 0) else (0, 2)) := by
  have no : Ev (fun k => plane_Inside.j0 k t true p.f0 p.f1) (0, 2) := by
    refine Ev.step (f := fun _ => some (0, 2)) (fun k => ?_) (Ev.now _)
    rw [plane_Inside.j0, if_pos rfl]
  unfold plane_Inside.f
  refine Ev.bind (prog_simple t) ?_
  by_cases hs : simpleS t = true
  · refine ev_pos hs (Ev.bind (ev_is (invalid_is p)) ?_)
    by_cases hp : okPt p = true
    · rw [if_pos ⟨hs, hp⟩, hp]
      unfold simpleS at hs
      simp only [Bool.and_eq_true, decide_eq_true_eq] at hs
      refine Ev.step (fun k => ?_) (prog_ins t p hs.1.2 hp (by omega) t.length 0 false (by omega) (by omega))
      rw [plane_Inside.j0, if_neg (by decide)]
      rfl
    · rw [if_neg (fun h => hp h.2)]
      rw [Bool.not_eq_true] at hp
      rw [hp]; exact no
  · rw [if_neg (fun h => hs h.1)]
    exact ev_neg hs no
end Go.Proofs.Ythaklbjcjoolcaa.Pure
namespace Go.Proofs.Ythaklbjcjoolcaa.Pure
open Go.RowKit Go.Proofs.Ythaklbjcjoolcaa.P Go.Proofs.YthaklbjcjoolcaaW.PrintWords Go.Proofs.YthaklbjcjoolcaaW.PrintLast
theorem law_turn {a b c : S31} (ha : okPt a = true) (hb : okPt b = true) (hc : okPt c = true) : silversidelaw01_turn.f a.f0 a.f1 b.f0 b.f1 c.f0 c.f1 = some (sgn (crs a b c)) := by
  have hi : ∀ {p : S31}, okPt p = true → plane_invalid.f p.f0 p.f1 = some false := by
    intro p hp
    rw [okPt_iff] at hp
    unfold plane_invalid.f plane_valid.f
    simp only [within_is, Option.bind_some]
    rw [decide_eq_true (show -4096 ≤ p.f0 ∧ p.f0 ≤ 4096 from hp.1), decide_eq_true (show -4096 ≤ p.f1 ∧ p.f1 ≤ 4096 from hp.2)]
    rfl
  unfold silversidelaw01_turn.f plane_Turn.f
  simp only [hi ha, hi hb, hi hc, Option.bind_some, turn_is ha hb hc]
  rfl
end Go.Proofs.Ythaklbjcjoolcaa.Pure
namespace Go.Proofs.Ythaklbjcjoolcaa.P
open Go.ChangeShapes Go.WideShapes Go.ChangeAt Go.RowKit Go.Deep Go.Joins Go.Proofs.YthaklbjcjoolcaaW.PrintWords
set_option maxRecDepth 100000
theorem okWide_row {P : Program} {w : World} {r : Reach} {b0 : Nat} {t e : TypeId} {n : Nat} {v : Value} (ht : P.underlying t = some (.array n e)) (h : Value.okWide P w r b0 t v) : ∃ cs, v = .agg cs ∧ cs.size = P.cellsOf t := by
  simp only [Value.okWide, ht] at h
  obtain ⟨cs, h1, h2, _⟩ := h
  exact ⟨cs, h1, h2⟩
theorem array2 {α : Type} {cs : Array α} (h : cs.size = 2) : ∃ c0 c1, cs = #[c0, c1] := by
  obtain ⟨l⟩ := cs
  match l, h with
  | [c0, c1], _ => exact ⟨c0, c1, rfl⟩
section
variable {H : Type} {enc : TypeId × Value → H} {w : World} {base : Nat} {spare : Nat → Bool} {held : Bool}
/-- two numbers that came in -/
theorem open_two {r : Reach} {b0 : Nat} {v : Value} {d : DataW H} {p : List MemPlace} (hv : Value.okWide Try.prog w r b0 49 v) (h : DataW.Trod enc Try.prog w base spare held 49 v d p) :
    ∃ x y : Int, v = .agg #[.int .i64 x, .int .i64 y] := by
  obtain ⟨cs, rfl, hsz⟩ := okWide_row Try.underlying49 hv
  obtain ⟨c0, c1, rfl⟩ := array2 (hsz.trans (by kernel_rfl))
  obtain ⟨fuel, hf⟩ := h
  obtain ⟨xs, n, _, _, hl, hlen, hi⟩ := DataW.trod_array Try.underlying49 hf
  match xs, hlen with
  | [y0, y1], _ =>
    obtain ⟨x, e0, _⟩ := DataW.trod_int Try.underlying3 (show DataW.trod enc Try.prog w base spare held n 3 [c0] = some y0 from hi 0 (by decide))
    obtain ⟨y, e1, _⟩ := DataW.trod_int Try.underlying3 (show DataW.trod enc Try.prog w base spare held n 3 [c1] = some y1 from hi 1 (by decide))
    simp only [List.cons.injEq, and_true] at e0 e1
    subst e0 e1
    exact ⟨x, y, rfl⟩
end
end Go.Proofs.Ythaklbjcjoolcaa.P
namespace Go.Proofs.Ythaklbjcjoolcaa.Pure
open Go.RowKit Go.Proofs.Ythaklbjcjoolcaa.P Go.Proofs.YthaklbjcjoolcaaW.PrintWords Go.Proofs.YthaklbjcjoolcaaW.PrintLast
theorem mod4000 (a : Int) : ∃ m : Nat, m < 4000 ∧ silversidelaw01_mod.f a 4000 = some (m : Int) := by
  have e1 : IntKind.u64.wrap (4000 : Int) = 4000 := by decide
  have h1 : 0 ≤ IntKind.u64.wrap a := by
    unfold IntKind.wrap
    simp only [IntKind.bits, IntKind.signed]
    exact Int.emod_nonneg _ (by decide)
  unfold silversidelaw01_mod.f
  rw [e1, if_neg (by omega)]
  generalize IntKind.u64.wrap a = x at *
  rw [Int.tmod_eq_emod_of_nonneg h1]
  have h2 := Int.emod_nonneg x (show (4000 : Int) ≠ 0 by decide)
  have h3 := Int.emod_lt_of_pos x (show (0 : Int) < 4000 by decide)
  exact ⟨(x % 4000).toNat, by omega, by rw [w64i (by omega) (by omega)]; congr 1; omega⟩
section
variable {t : List S31} {q : S31} {x y : Int} (h1 : 1 ≤ t.length) (h2 : t.length ≤ 40) (hok : allOk t = true) (hq : okPt q = true) (hx : -2000 ≤ x ∧ x < 2000) (hy : -2000 ≤ y ∧ y < 2000)
include h1 h2 hok hq hx hy
theorem moves_end (hm : allOk (t.map (mv x y)) = true) (hq' : okPt (mv x y q) = true) : ∀ (d j : Nat), (cornersS t).length - j = d → j ≤ (cornersS t).length →
    Ev (fun k => silversidelaw01_PlaneMoves.l1 k t x y (t.map (mv x y)) (cornersS t) ((cornersS t).map (mv x y)) (j : Int) q.f0 q.f1 (q.f0 + x) (q.f1 + y)) true
  | 0, j, hd, hj => by
    have lm : (t.map (mv x y)).length = t.length := List.length_map ..
    refine Ev.step (fun k => by rw [silversidelaw01_PlaneMoves.l1, if_neg (by omega)]) ?_
    have i1 := inside_ev t q
    have i2 := inside_ev (t.map (mv x y)) (mv x y q)
    rw [simple_mv x y hok hm, hq', lm, insR_mv x y t q t.length 0 false (by omega)] at i2
    rw [hq] at i1
    have s1 := prog_simple t
    have s2 := prog_simple (t.map (mv x y))
    rw [simple_mv x y hok hm] at s2
    refine Ev.bind i1 (Ev.bind i2 (Ev.bind s1 (Ev.bind s2 (ev_pos (by rw [beq_self_eq_true]) (ev_pos rfl (ev_pos rfl (ev_pos (by omega) ?_)))))))
    rw [w64i (x := (t.length : Int) - 1) (by omega) (by omega), show ((t.length : Int) - 1) = ((t.length - 1 : Nat) : Int) by omega, rd_pt, rd_pt, show rd_T31 t 0 = pt t 0 from rfl, show rd_T31 (t.map (mv x y)) 0 = pt (t.map (mv x y)) 0 from rfl, pt_map x y t 0 (by omega), pt_map x y t (t.length - 1) (by omega)]
    have o0 := pt_ok hok (i := 0) (by omega)
    have o1 := pt_ok hok (i := t.length - 1) (by omega)
    have m0 := pt_ok hm (i := 0) (by omega)
    have m1 := pt_ok hm (i := t.length - 1) (by omega)
    rw [pt_map x y t 0 (by omega)] at m0
    rw [pt_map x y t (t.length - 1) (by omega)] at m1
    have e1 := law_turn o0 hq o1
    have e2 := law_turn m0 hq' m1
    rw [crs_mv] at e2
    exact ev_pos (by omega) (ev_pos (by omega) (Ev.bind (ev_is e1) (ev_pos (by omega) (ev_pos (by omega) (Ev.bind (ev_is e2) (ev_pos rfl awake_bind))))))
  | d + 1, j, hd, hj => by
    have hlt : j < (cornersS t).length := by omega
    have lc : ((cornersS t).map (mv x y)).length = (cornersS t).length := List.length_map ..
    have ih := moves_end hm hq' d (j + 1) (by omega) (by omega)
    have o := (okPt_iff _).1 (pt_ok (cornersS_ok hok) hlt)
    have hl := cornersS_len t
    refine Ev.step (fun k => ?_) ih
    conv => lhs; unfold silversidelaw01_PlaneMoves.l1
    rw [if_pos (by omega), if_pos (by omega), if_pos (by omega), rd_pt, rd_pt, pt_map x y _ j hlt, w64i (x := (pt (cornersS t) j).f0 + x) (by omega) (by omega), w64i (x := (pt (cornersS t) j).f1 + y) (by omega) (by omega), if_pos (show (pt (cornersS t) j).f0 + x = (mv x y (pt (cornersS t) j)).f0 from rfl), if_pos (show (pt (cornersS t) j).f1 + y = (mv x y (pt (cornersS t) j)).f1 from rfl), w64i (x := (j : Int) + 1) (by omega) (by omega)]
    rfl
theorem moves_j1 (hm : allOk (t.map (mv x y)) = true) (hq' : okPt (mv x y q) = true) : Ev (fun k => silversidelaw01_PlaneMoves.j1 k t x y (t.map (mv x y)) false q.f0 q.f1 (q.f0 + x) (q.f1 + y)) true := by
  have lm : (t.map (mv x y)).length = t.length := List.length_map ..
  have s1 := isSet_of h1 (by omega) hok
  have s2 := isSet_of (t := t.map (mv x y)) (by omega) (by omega) hm
  have a1 := area_val hok (by omega)
  have a2 := area_val (l := t.map (mv x y)) hm (by omega)
  rw [lm, area_mv x y t (by omega)] at a2
  have w1 : plane_Widest.f t = some (widA (cornersS t) (cornersS t).length, 0) := by unfold plane_Widest.f; rw [if_pos s1]
  have w2 : plane_Widest.f (t.map (mv x y)) = some (widA (cornersS t) (cornersS t).length, 0) := by
    unfold plane_Widest.f
    rw [if_pos s2, corners_mv x y (by omega), List.length_map, widA_mv x y _ _ (Nat.le_refl _)]
  have c2 := hull_is s2
  rw [corners_mv x y (by omega)] at c2
  have hb : (((cornersS t).length : Int) != (((cornersS t).map (mv x y)).length : Int)) = false := by rw [List.length_map]; simp
  refine Ev.step (fun k => by rw [silversidelaw01_PlaneMoves.j1, if_neg (by decide)]) ?_
  refine Ev.bind (ev_is (hull_is s1)) (Ev.bind (ev_is c2) (Ev.bind (ev_is a1) (Ev.bind (ev_is a2) (Ev.bind (ev_is w1) (Ev.bind (ev_is w2) (ev_pos rfl (ev_pos rfl (ev_pos rfl (ev_pos rfl (ev_pos rfl (ev_pos rfl (ev_pos rfl (ev_pos rfl ?_)))))))))))))
  show Ev (fun k => silversidelaw01_PlaneMoves.j2 k t x y (t.map (mv x y)) (cornersS t) ((cornersS t).map (mv x y)) (((cornersS t).length : Int) != (((cornersS t).map (mv x y)).length : Int)) q.f0 q.f1 (q.f0 + x) (q.f1 + y)) true
  rw [hb]
  refine Ev.step (fun k => ?_) (moves_end h1 h2 hok hq hx hy hm hq' (cornersS t).length 0 (by omega) (by omega))
  rw [silversidelaw01_PlaneMoves.j2, if_neg (by decide)]
  rfl
theorem moves_all : ∀ (d j : Nat), t.length - j = d → j ≤ t.length → Ev (fun k => silversidelaw01_PlaneMoves.l0 k t x y ((t.take j).map (mv x y)) (j : Int) q.f0 q.f1) true
  | 0, j, hd, hj => by
    obtain rfl : j = t.length := by omega
    have lm : (t.map (mv x y)).length = t.length := List.length_map ..
    have oq := (okPt_iff _).1 hq
    rw [List.take_length]
    refine Ev.step (fun k => by rw [silversidelaw01_PlaneMoves.l0, if_neg (by omega), w64i (x := q.f0 + x) (by omega) (by omega), w64i (x := q.f1 + y) (by omega) (by omega)]) ?_
    have bad : Ev (fun k => silversidelaw01_PlaneMoves.j1 k t x y (t.map (mv x y)) true q.f0 q.f1 (q.f0 + x) (q.f1 + y)) true :=
      Ev.step (fun k => by rw [silversidelaw01_PlaneMoves.j1, if_pos rfl]) awake_bind
    refine Ev.bind (valids_ev _ (by omega)) ?_
    by_cases hm : allOk (t.map (mv x y)) = true
    · refine ev_pos hm (Ev.bind (ev_is (valid_is (mv x y q))) ?_)
      by_cases hq' : okPt (mv x y q) = true
      · rw [hq']; exact moves_j1 h1 h2 hok hq hx hy hm hq'
      · rw [Bool.not_eq_true] at hq'
        rw [hq']; exact bad
    · exact ev_neg hm bad
  | d + 1, j, hd, hj => by
    have hlt : j < t.length := by omega
    have ih := moves_all d (j + 1) (by omega) (by omega)
    have o := (okPt_iff _).1 (pt_ok hok hlt)
    rw [take_pt t j hlt, List.map_append] at ih
    refine Ev.step (fun k => ?_) ih
    conv => lhs; unfold silversidelaw01_PlaneMoves.l0
    rw [if_pos (by omega), if_pos (by omega), rd_pt, if_pos (by rw [List.length_map, List.length_take]; omega), w64i (x := (pt t j).f0 + x) (by omega) (by omega), w64i (x := (pt t j).f1 + y) (by omega) (by omega), w64i (x := (j : Int) + 1) (by omega) (by omega)]
    rfl
end
theorem PlaneMoves (l : List S31) (px py b0 b1 : Int) (_ : ∀ q ∈ l, (Lit.int .i64 q.f0).wf = true ∧ (Lit.int .i64 q.f1).wf = true) (_ : (Lit.int .i64 px).wf = true) (_ : (Lit.int .i64 py).wf = true) : ∃ k, silversidelaw01_PlaneMoves.f k l px py b0 b1 = some true := by
  refine Ev.rounds ?_
  unfold silversidelaw01_PlaneMoves.f
  obtain ⟨t, ht, h1, h2, hok⟩ := gset_ev l 40 (by omega) (by omega)
  obtain ⟨q, hg, hq, _⟩ := grid_is ⟨px, py⟩
  obtain ⟨m, hm, e1⟩ := mod4000 b0
  obtain ⟨n, hn, e2⟩ := mod4000 b1
  refine Ev.bind ht (Ev.bind (ev_is hg) (Ev.bind (ev_is e1) (Ev.bind (ev_is e2) ?_)))
  rw [w64i (x := (m : Int) - 2000) (by omega) (by omega), w64i (x := (n : Int) - 2000) (by omega) (by omega)]
  exact moves_all h1 h2 hok hq (by omega) (by omega) t.length 0 (by omega) (by omega)
end Go.Proofs.Ythaklbjcjoolcaa.Pure
