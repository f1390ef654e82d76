/- Proved here: what functions that the law reaches compute, and plain laws of that. Put together by a program; a part was printed by one (wip/printplus.py). -/
import Derived.Test.YthaklbjcjoolcaaBQ1
import Derived.Test.YthaklbjcjoolcaaBQ4
import Derived.Test.YthaklbjcjoolcaaBQ2
import Derived.Test.YthaklbjcjoolcaaBQ3
set_option linter.unusedVariables false
set_option linter.unusedSimpArgs false
namespace Go.Proofs.Ythaklbjcjoolcaa.P
open Go.RowKit YthaklbjcjoolcaaW.PrintWords YthaklbjcjoolcaaW.PrintLast YthaklbjcjoolcaaW.PrintMore
attribute [local go_sem] max2_int min2_int max_two min_two max_three min_three max_four min_four

def R1_next.f (a0 : Int) (a1 : Int) : Option (Int) := if (wrap64 (a0 + 1)) < a1 then (some (wrap64 (a0 + 1))) else (some 0)
set_option maxHeartbeats 8000000 in
set_option maxRecDepth 100000 in
theorem R1_next.calls (a0 : Int) (a1 : Int) (r : Int) (w : World) (h : R1_next.f a0 a1 = some r) :
  Calls Try.prog 54 #[.int .i64 a0, .int .i64 a1] w fun e w' => e = .returned (.int .i64 r) ∧ Drawn0 w w' := by
 have H : (if (wrap64 (a0 + 1)) < a1 then (some (wrap64 (a0 + 1))) else (some 0)) = some r := h
 clear h
 by_cases c3 : (wrap64 (a0 + 1)) < a1
 ·rw [if_pos c3] at H
  have c3b0 : decide ((wrap64 (a0 + 1)) < a1) = true := decide_eq_true c3
  clear c3
  obtain rfl := Option.some.inj H
  go_enter Try.func54, Try.ntmps54
  go_wp2
  go_ret
  exact ⟨by first | rfl | (simp; done) | (simp [*]; done), by repeat (first | exact Drawn0.refl _ | apply Drawn0.step)⟩
 rw [if_neg c3] at H
 have c3b0 : decide ((wrap64 (a0 + 1)) < a1) = false := decide_eq_false c3
 clear c3
 obtain rfl := Option.some.inj H
 go_enter Try.func54, Try.ntmps54
 go_wp2
 go_ret
 exact ⟨by first | rfl | (simp; done) | (simp [*]; done), by repeat (first | exact Drawn0.refl _ | apply Drawn0.step)⟩


def R1_on.f (a0_0 : Int) (a0_1 : Int) (a1_0 : Int) (a1_1 : Int) (a2_0 : Int) (a2_1 : Int) : Option (Bool) := (R1_Turn.f a0_0 a0_1 a1_0 a1_1 a2_0 a2_1).bind fun t247 => (if t247 = 0 then (if a2_0 ≥ (mn a0_0 a1_0) then (if a2_0 ≤ (mx a0_0 a1_0) then (if a2_1 ≥ (mn a0_1 a1_1) then (some (decide (a2_1 ≤ (mx a0_1 a1_1)))) else (some false)) else (some false)) else (some false)) else (some false))
set_option maxHeartbeats 8000000 in
set_option maxRecDepth 100000 in
theorem R1_on.calls (a0_0 : Int) (a0_1 : Int) (a1_0 : Int) (a1_1 : Int) (a2_0 : Int) (a2_1 : Int) (r : Bool) (w : World) (h : R1_on.f a0_0 a0_1 a1_0 a1_1 a2_0 a2_1 = some r) :
  Calls Try.prog 59 #[.agg #[.int .i64 a0_0, .int .i64 a0_1], .agg #[.int .i64 a1_0, .int .i64 a1_1], .agg #[.int .i64 a2_0, .int .i64 a2_1]] w fun e w' => e = .returned (.bool r) ∧ Below w.heap.size w w' := by
 have hu31 := Try.underlying31
 have HB := Aside0.mk (Below.refl w.heap.size w)
 have H : ((R1_Turn.f a0_0 a0_1 a1_0 a1_1 a2_0 a2_1).bind fun t247 => (if t247 = 0 then (if a2_0 ≥ (mn a0_0 a1_0) then (if a2_0 ≤ (mx a0_0 a1_0) then (if a2_1 ≥ (mn a0_1 a1_1) then (some (decide (a2_1 ≤ (mx a0_1 a1_1)))) else (some false)) else (some false)) else (some false)) else (some false))) = some r := h
 clear h
 replace H := Option.bind_eq_some_iff.mp H
 obtain ⟨t247, A40, H⟩ := H
 replace H : (if t247 = 0 then (if a2_0 ≥ (mn a0_0 a1_0) then (if a2_0 ≤ (mx a0_0 a1_0) then (if a2_1 ≥ (mn a0_1 a1_1) then (some (decide (a2_1 ≤ (mx a0_1 a1_1)))) else (some false)) else (some false)) else (some false)) else (some false)) = some r := H
 have A4 := Aside0.mk A40
 clear A40
 by_cases c5 : t247 = 0
 rw [if_pos c5] at H
 have c5b0 : (t247 == 0) = true := beq_iff_eq.mpr c5
 have c5b1 : (t247 != 0) = false := bne_eq_false_iff_eq.mpr c5
 clear c5
 obtain ⟨ji6, hji6⟩ : ∃ j_ : Int, (mn a0_0 a1_0) = j_ := ⟨_, rfl⟩
 replace H : (if a2_0 ≥ (ji6) then (if a2_0 ≤ (mx a0_0 a1_0) then (if a2_1 ≥ (mn a0_1 a1_1) then (some (decide (a2_1 ≤ (mx a0_1 a1_1)))) else (some false)) else (some false)) else (some false)) = some r := by first | (rw [hji6] at H; exact H) | (simp only [hji6] at H ⊢; exact H)
 (try rw [hji6] at A4)
 have hji6_ : (if a1_0 < a0_0 then a1_0 else a0_0) = ji6 := hji6
 by_cases c7 : a2_0 ≥ (ji6)
 rw [if_pos c7] at H
 have c7b0 : decide ((ji6) ≤ a2_0) = true := decide_eq_true c7
 clear c7
 obtain ⟨ji8, hji8⟩ : ∃ j_ : Int, (mx a0_0 a1_0) = j_ := ⟨_, rfl⟩
 replace H : (if a2_0 ≤ (ji8) then (if a2_1 ≥ (mn a0_1 a1_1) then (some (decide (a2_1 ≤ (mx a0_1 a1_1)))) else (some false)) else (some false)) = some r := by first | (rw [hji8] at H; exact H) | (simp only [hji8] at H ⊢; exact H)
 (try rw [hji8] at A4)
 have hji8_ : (if a0_0 < a1_0 then a1_0 else a0_0) = ji8 := hji8
 by_cases c9 : a2_0 ≤ (ji8)
 rw [if_pos c9] at H
 have c9b0 : decide (a2_0 ≤ (ji8)) = true := decide_eq_true c9
 clear c9
 obtain ⟨ji10, hji10⟩ : ∃ j_ : Int, (mn a0_1 a1_1) = j_ := ⟨_, rfl⟩
 replace H : (if a2_1 ≥ (ji10) then (some (decide (a2_1 ≤ (mx a0_1 a1_1)))) else (some false)) = some r := by first | (rw [hji10] at H; exact H) | (simp only [hji10] at H ⊢; exact H)
 (try rw [hji10] at A4)
 have hji10_ : (if a1_1 < a0_1 then a1_1 else a0_1) = ji10 := hji10
 by_cases c11 : a2_1 ≥ (ji10)
 rw [if_pos c11] at H
 have c11b0 : decide ((ji10) ≤ a2_1) = true := decide_eq_true c11
 clear c11
 obtain ⟨ji12, hji12⟩ : ∃ j_ : Int, (mx a0_1 a1_1) = j_ := ⟨_, rfl⟩
 replace H : (some (decide (a2_1 ≤ (ji12)))) = some r := by first | (rw [hji12] at H; exact H) | (simp only [hji12] at H ⊢; exact H)
 (try rw [hji12] at A4)
 have hji12_ : (if a0_1 < a1_1 then a1_1 else a0_1) = ji12 := hji12
 obtain rfl := Option.some.inj H
 go_enter Try.func59, Try.ntmps59
 rotate_left 1
 rw [if_neg c11] at H
 have c11b0 : decide ((ji10) ≤ a2_1) = false := decide_eq_false c11
 clear c11
 obtain rfl := Option.some.inj H
 go_enter Try.func59, Try.ntmps59
 rotate_left 1
 rw [if_neg c9] at H
 have c9b0 : decide (a2_0 ≤ (ji8)) = false := decide_eq_false c9
 clear c9
 obtain rfl := Option.some.inj H
 go_enter Try.func59, Try.ntmps59
 rotate_left 1
 rw [if_neg c7] at H
 have c7b0 : decide ((ji6) ≤ a2_0) = false := decide_eq_false c7
 clear c7
 obtain rfl := Option.some.inj H
 go_enter Try.func59, Try.ntmps59
 rotate_left 1
 rw [if_neg c5] at H
 have c5b0 : (t247 == 0) = false := beq_eq_false_iff_ne.mpr c5
 have c5b1 : (t247 != 0) = true := bne_iff_ne.mpr c5
 obtain rfl := Option.some.inj H
 go_enter Try.func59, Try.ntmps59
 all_goals go_wp2_with (first | ((with_reducible refine gate_dst (N := 3) rfl ?_); (try (refine gate_guard (by rfl) ?_; dsimp only)); refine bxe 3 #[.int .i64 a0_0, .int .i64 a0_1] 31 ?_; intro gb244 hg wz0 hbox hb; have n0_ := Aside0.mk (below_step lB hb); have n1_ := Aside0.mk (hbox); have n2_ := Aside0.mk (lG (w := w) hg); have n3_ := Aside0.mk (lG (w := w) hg); clear HB; have HB := n0_; have BK244 := n1_; have GW244 := n2_; have GE244 := n3_; clear n0_ n1_ n2_ n3_; clear hb hbox hg) | ((with_reducible refine gate_dst (N := 4) rfl ?_); (try (refine gate_guard (by rfl) ?_; dsimp only)); refine bxe 4 #[.int .i64 a1_0, .int .i64 a1_1] 31 ?_; intro gb245 hg wz1 hbox hb; have n0_ := Aside0.mk (blk_below (g := gb244) (o := .cells #[.int .i64 a0_0, .int .i64 a0_1] 31 (0, 0)) (kX BK244.out) hb); have n1_ := Aside0.mk (below_step lB hb); have n2_ := Aside0.mk (hbox); have n3_ := Aside0.mk (lG (w := w) hg); have n4_ := Aside0.mk (lG (w := w) hg); have n5_ := Aside0.mk ((by rw [hg]; exact Nat.ne_of_lt (blk_lt (g := gb244) (o := .cells #[.int .i64 a0_0, .int .i64 a0_1] 31 (0, 0)) (kX BK244.out)) : gb244 ≠ gb245)); have n6_ := Aside0.mk ((by rw [hg]; exact Nat.ne_of_gt (blk_lt (g := gb244) (o := .cells #[.int .i64 a0_0, .int .i64 a0_1] 31 (0, 0)) (kX BK244.out)) : gb245 ≠ gb244)); clear BK244; clear HB; have BK244 := n0_; have HB := n1_; have BK245 := n2_; have GW245 := n3_; have GE245 := n4_; have NB244_245 := n5_; have NB245_244 := n6_; clear n0_ n1_ n2_ n3_ n4_ n5_ n6_; clear hb hbox hg) | ((with_reducible refine gate_dst (N := 5) rfl ?_); (try (refine gate_guard (by rfl) ?_; dsimp only)); refine bxe 5 #[.int .i64 a2_0, .int .i64 a2_1] 31 ?_; intro gb246 hg wz2 hbox hb; have n0_ := Aside0.mk (blk_below (g := gb244) (o := .cells #[.int .i64 a0_0, .int .i64 a0_1] 31 (0, 0)) (kX BK244.out) hb); have n1_ := Aside0.mk (blk_below (g := gb245) (o := .cells #[.int .i64 a1_0, .int .i64 a1_1] 31 (0, 0)) (kX BK245.out) hb); have n2_ := Aside0.mk (below_step lB hb); have n3_ := Aside0.mk (hbox); have n4_ := Aside0.mk (lG (w := w) hg); have n5_ := Aside0.mk (lG (w := w) hg); have n6_ := Aside0.mk ((by rw [hg]; exact Nat.ne_of_lt (blk_lt (g := gb244) (o := .cells #[.int .i64 a0_0, .int .i64 a0_1] 31 (0, 0)) (kX BK244.out)) : gb244 ≠ gb246)); have n7_ := Aside0.mk ((by rw [hg]; exact Nat.ne_of_gt (blk_lt (g := gb244) (o := .cells #[.int .i64 a0_0, .int .i64 a0_1] 31 (0, 0)) (kX BK244.out)) : gb246 ≠ gb244)); have n8_ := Aside0.mk ((by rw [hg]; exact Nat.ne_of_lt (blk_lt (g := gb245) (o := .cells #[.int .i64 a1_0, .int .i64 a1_1] 31 (0, 0)) (kX BK245.out)) : gb245 ≠ gb246)); have n9_ := Aside0.mk ((by rw [hg]; exact Nat.ne_of_gt (blk_lt (g := gb245) (o := .cells #[.int .i64 a1_0, .int .i64 a1_1] 31 (0, 0)) (kX BK245.out)) : gb246 ≠ gb245)); clear BK244; clear BK245; clear HB; have BK244 := n0_; have BK245 := n1_; have HB := n2_; have BK246 := n3_; have GW246 := n4_; have GE246 := n5_; have NB244_246 := n6_; have NB246_244 := n7_; have NB245_246 := n8_; have NB246_245 := n9_; clear n0_ n1_ n2_ n3_ n4_ n5_ n6_ n7_ n8_ n9_; clear hb hbox hg; have hnb16 := NB244_245.out; have hnc16 := NB245_244.out; have hnb17 := NB244_246.out; have hnc17 := NB246_244.out; have hcz18_0 : wz2.cell? ⟨gb244, 0, none⟩ = some (.int .i64 a0_0) := (blk_cell BK244.out 0).trans rfl; have hcz18_1 : wz2.cell? ⟨gb244, 1, none⟩ = some (.int .i64 a0_1) := (blk_cell BK244.out 1).trans rfl; have hfz18_0 := blk_frozen BK244.out 0; have hfz18_1 := blk_frozen BK244.out 1; have hnb19 := NB245_246.out; have hnc19 := NB246_245.out; have hcz20_0 : wz2.cell? ⟨gb245, 0, none⟩ = some (.int .i64 a1_0) := (blk_cell BK245.out 0).trans rfl; have hcz20_1 : wz2.cell? ⟨gb245, 1, none⟩ = some (.int .i64 a1_1) := (blk_cell BK245.out 1).trans rfl; have hfz20_0 := blk_frozen BK245.out 0; have hfz20_1 := blk_frozen BK245.out 1; have hcz21_0 : wz2.cell? ⟨gb246, 0, none⟩ = some (.int .i64 a2_0) := (blk_cell BK246.out 0).trans rfl; have hcz21_1 : wz2.cell? ⟨gb246, 1, none⟩ = some (.int .i64 a2_1) := (blk_cell BK246.out 1).trans rfl; have hfz21_0 := blk_frozen BK246.out 0; have hfz21_1 := blk_frozen BK246.out 1) | ((with_reducible refine gate_callee (f := 31) rfl ?_); refine goesL_ (some 10) rfl rfl Try.func31 (by kernel_rfl) rfl #[.agg #[.int .i64 a0_0, .int .i64 a0_1], .agg #[.int .i64 a1_0, .int .i64 a1_1], .agg #[.int .i64 a2_0, .int .i64 a2_1]] rfl (by (try simp only [List.map_toArray, List.map_cons, List.map_nil]); first | done | rfl | (simp only [List.length_drop, List.length_take]; rfl)) ?_; (with_reducible refine (R1_Turn.calls a0_0 a0_1 a1_0 a1_1 a2_0 a2_1 t247 _ A4.out).mono ?_); rintro e wz3 ⟨rfl, hb⟩; refine ⟨_, rfl, ?_⟩; have n0_ := Aside0.mk (blk_below (g := gb244) (o := .cells #[.int .i64 a0_0, .int .i64 a0_1] 31 (0, 0)) (kX BK244.out) hb); have n1_ := Aside0.mk (blk_below (g := gb245) (o := .cells #[.int .i64 a1_0, .int .i64 a1_1] 31 (0, 0)) (kX BK245.out) hb); have n2_ := Aside0.mk (blk_below (g := gb246) (o := .cells #[.int .i64 a2_0, .int .i64 a2_1] 31 (0, 0)) (kX BK246.out) hb); have n3_ := Aside0.mk (below_step lB hb); clear BK244; clear BK245; clear BK246; clear HB; have BK244 := n0_; have BK245 := n1_; have BK246 := n2_; have HB := n3_; clear n0_ n1_ n2_ n3_; (try clear hb); (try clear hb2); (try clear hk); (try clear hi); have hcz23_0 : wz3.cell? ⟨gb246, 0, none⟩ = some (.int .i64 a2_0) := (blk_cell BK246.out 0).trans rfl; have hcz23_1 : wz3.cell? ⟨gb246, 1, none⟩ = some (.int .i64 a2_1) := (blk_cell BK246.out 1).trans rfl; have hfz23_0 := blk_frozen BK246.out 0; have hfz23_1 := blk_frozen BK246.out 1; have hcz24_0 : wz3.cell? ⟨gb244, 0, none⟩ = some (.int .i64 a0_0) := (blk_cell BK244.out 0).trans rfl; have hcz24_1 : wz3.cell? ⟨gb244, 1, none⟩ = some (.int .i64 a0_1) := (blk_cell BK244.out 1).trans rfl; have hfz24_0 := blk_frozen BK244.out 0; have hfz24_1 := blk_frozen BK244.out 1; have hcz25_0 : wz3.cell? ⟨gb245, 0, none⟩ = some (.int .i64 a1_0) := (blk_cell BK245.out 0).trans rfl; have hcz25_1 : wz3.cell? ⟨gb245, 1, none⟩ = some (.int .i64 a1_1) := (blk_cell BK245.out 1).trans rfl; have hfz25_0 := blk_frozen BK245.out 0; have hfz25_1 := blk_frozen BK245.out 1))
 all_goals first
   | (go_ret
      exact ⟨by first | rfl | (simp [errW_none, errW_some] <;> rfl) | (simp only [← hji6, ← hji8, ← hji10, ← hji12]; first | rfl | (simp [errW_none, errW_some] <;> rfl)) | (simp [*, errW_none, errW_some] <;> rfl), lB⟩)
   | (go_ret
      exact ⟨by first | rfl | (simp [errW_none, errW_some] <;> rfl) | (simp only [← hji6, ← hji8, ← hji10]; first | rfl | (simp [errW_none, errW_some] <;> rfl)) | (simp [*, errW_none, errW_some] <;> rfl), lB⟩)
   | (go_ret
      exact ⟨by first | rfl | (simp [errW_none, errW_some] <;> rfl) | (simp only [← hji6, ← hji8]; first | rfl | (simp [errW_none, errW_some] <;> rfl)) | (simp [*, errW_none, errW_some] <;> rfl), lB⟩)
   | (go_ret
      exact ⟨by first | rfl | (simp [errW_none, errW_some] <;> rfl) | (simp only [← hji6]; first | rfl | (simp [errW_none, errW_some] <;> rfl)) | (simp [*, errW_none, errW_some] <;> rfl), lB⟩)
   | (go_ret
      exact en)


def R1_meet.j0 : Nat → Bool → Int → Int → Int → Int → Int → Int → Int → Int → Option (Bool)
 | 0, _, _, _, _, _, _, _, _, _ => none
 | k + 1, x30, x249000, x249001, x250000, x250001, x251000, x251001, x252000, x252001 => if x30 = true then (some true) else ((R1_on.f x249000 x249001 x250000 x250001 x251000 x251001).bind fun t256 => (if t256 = true then (some true) else ((R1_on.f x249000 x249001 x250000 x250001 x252000 x252001).bind fun t257 => (if t257 = true then (some true) else ((R1_on.f x251000 x251001 x252000 x252001 x249000 x249001).bind fun t258 => (if t258 = true then (some true) else ((R1_on.f x251000 x251001 x252000 x252001 x250000 x250001).bind fun t259 => (some t259))))))))
def R1_meet.f (k : Nat) (a0_0 : Int) (a0_1 : Int) (a1_0 : Int) (a1_1 : Int) (a2_0 : Int) (a2_1 : Int) (a3_0 : Int) (a3_1 : Int) : Option (Bool) := (R1_Turn.f a0_0 a0_1 a1_0 a1_1 a2_0 a2_1).bind fun t252 => ((R1_Turn.f a0_0 a0_1 a1_0 a1_1 a3_0 a3_1).bind fun t253 => (if (wrap64 (t252 * t253)) < 0 then ((R1_Turn.f a2_0 a2_1 a3_0 a3_1 a0_0 a0_1).bind fun t254 => ((R1_Turn.f a2_0 a2_1 a3_0 a3_1 a1_0 a1_1).bind fun t255 => (R1_meet.j0 k (decide ((wrap64 (t254 * t255)) < 0)) a0_0 a0_1 a1_0 a1_1 a2_0 a2_1 a3_0 a3_1))) else (R1_meet.j0 k false a0_0 a0_1 a1_0 a1_1 a2_0 a2_1 a3_0 a3_1)))
theorem R1_meet.mono_l : ∀ k, (∀ y0 y1 y2 y3 y4 y5 y6 y7 y8, LeO (R1_meet.j0 k y0 y1 y2 y3 y4 y5 y6 y7 y8) (R1_meet.j0 (k + 1) y0 y1 y2 y3 y4 y5 y6 y7 y8))
 | 0 => fun _ _ _ _ _ _ _ _ _ r h => by simp [R1_meet.j0] at h
 | k + 1 => by
  have ih0 := R1_meet.mono_l k
  ·intro y0 y1 y2 y3 y4 y5 y6 y7 y8
   unfold R1_meet.j0
   repeat' first
   | (with_reducible exact ih0 _ _ _ _ _ _ _ _ _)
   | (with_reducible first | exact LeO.refl _ | exact LeO.none _ | refine LeO.ite ?_ ?_ | refine LeO.bind ?_ (fun _ => ?_))
   | exact ih0 _ _ _ _ _ _ _ _ _
   | exact LeO.none _ | refine LeO.ite ?_ ?_ | refine LeO.bind ?_ (fun _ => ?_)
theorem R1_meet.mono : ∀ a0 a1 a2 a3 a4 a5 a6 a7 k, LeO (R1_meet.f k a0 a1 a2 a3 a4 a5 a6 a7) (R1_meet.f (k + 1) a0 a1 a2 a3 a4 a5 a6 a7) := by
 intro a0 a1 a2 a3 a4 a5 a6 a7 k
 have ih0 := R1_meet.mono_l k
 unfold R1_meet.f
 repeat' first
   | (with_reducible exact ih0 _ _ _ _ _ _ _ _ _)
   | (with_reducible first | exact LeO.refl _ | exact LeO.none _ | refine LeO.ite ?_ ?_ | refine LeO.bind ?_ (fun _ => ?_))
   | exact ih0 _ _ _ _ _ _ _ _ _
   | exact LeO.none _ | refine LeO.ite ?_ ?_ | refine LeO.bind ?_ (fun _ => ?_)
def R1_meet.T1 : Bool × List (List Nat × List Nat) := (true, [([], []), ([], []), ([], []), ([0, 1, 2], [0, 1, 2]), ([], []), ([], []), ([], []), ([4, 5, 6, 3], [4, 5, 6]), ([3, 7], [3, 7]), ([8], [8]), ([9, 7], [9]), ([10], [10]), ([10], [10]), ([10], [10]), ([11, 12, 13, 10, 10], [10, 11, 12, 13]), ([10], [10]), ([10], [10]), ([10], [10]), ([15, 16, 17, 14, 10], [10, 15, 16, 17]), ([14, 18, 10], [10, 14, 18]), ([19, 10], [10, 19]), ([10, 20], [10, 20])])
def R1_meet.B1 : List Nat := [0, 0, 0, 7, 0, 0, 0, 127, 255, 511, 1023, 2047, 2047, 2047, 16383, 2047, 2047, 2047, 262143, 524287, 1048575, 2097151]
theorem R1_meet.tab1 : rtab .any (opsOf Try.f60 1) = R1_meet.T1 := by kernel_rfl
theorem R1_meet.bits1 : waitsOk R1_meet.T1.2 R1_meet.B1 = true := by kernel_rfl
set_option maxHeartbeats 8000000 in
set_option maxRecDepth 100000 in
theorem R1_meet.calls (k : Nat) (a0_0 : Int) (a0_1 : Int) (a1_0 : Int) (a1_1 : Int) (a2_0 : Int) (a2_1 : Int) (a3_0 : Int) (a3_1 : Int) (r : Bool) (w : World) (h : R1_meet.f k a0_0 a0_1 a1_0 a1_1 a2_0 a2_1 a3_0 a3_1 = some r) :
  Calls Try.prog 60 #[.agg #[.int .i64 a0_0, .int .i64 a0_1], .agg #[.int .i64 a1_0, .int .i64 a1_1], .agg #[.int .i64 a2_0, .int .i64 a2_1], .agg #[.int .i64 a3_0, .int .i64 a3_1]] w fun e w' => e = .returned (.bool r) ∧ Below w.heap.size w w' := by
 have hu31 := Try.underlying31
 have HB := Aside0.mk (Below.refl w.heap.size w)
 have H : ((R1_Turn.f a0_0 a0_1 a1_0 a1_1 a2_0 a2_1).bind fun t252 => ((R1_Turn.f a0_0 a0_1 a1_0 a1_1 a3_0 a3_1).bind fun t253 => (if (wrap64 (t252 * t253)) < 0 then ((R1_Turn.f a2_0 a2_1 a3_0 a3_1 a0_0 a0_1).bind fun t254 => ((R1_Turn.f a2_0 a2_1 a3_0 a3_1 a1_0 a1_1).bind fun t255 => (R1_meet.j0 k (decide ((wrap64 (t254 * t255)) < 0)) a0_0 a0_1 a1_0 a1_1 a2_0 a2_1 a3_0 a3_1))) else (R1_meet.j0 k false a0_0 a0_1 a1_0 a1_1 a2_0 a2_1 a3_0 a3_1)))) = some r := h
 clear h
 have HC5 := Aside0.mk H
 clear H
 go_enter Try.func60, Try.ntmps60
 go_upto_region 1 with (first | ((with_reducible refine gate_dst (N := 4) rfl ?_); refine bxe 4 #[.int .i64 a0_0, .int .i64 a0_1] 31 ?_; intro gb248 hg w6 hbox hb; have n0_ := Aside0.mk (below_step lB hb); have n1_ := Aside0.mk (hbox); have n2_ := Aside0.mk (lG (w := w) hg); have n3_ := Aside0.mk (lG (w := w) hg); clear HB; have HB := n0_; have BK248 := n1_; have GW248 := n2_; have GE248 := n3_; clear n0_ n1_ n2_ n3_; clear hb hbox hg) | ((with_reducible refine gate_dst (N := 5) rfl ?_); refine bxe 5 #[.int .i64 a1_0, .int .i64 a1_1] 31 ?_; intro gb249 hg w7 hbox hb; have n0_ := Aside0.mk (blk_below (g := gb248) (o := .cells #[.int .i64 a0_0, .int .i64 a0_1] 31 (0, 0)) (kX BK248.out) hb); have n1_ := Aside0.mk (below_step lB hb); have n2_ := Aside0.mk (hbox); have n3_ := Aside0.mk (lG (w := w) hg); have n4_ := Aside0.mk (lG (w := w) hg); have n5_ := Aside0.mk ((by rw [hg]; exact Nat.ne_of_lt (blk_lt (g := gb248) (o := .cells #[.int .i64 a0_0, .int .i64 a0_1] 31 (0, 0)) (kX BK248.out)) : gb248 ≠ gb249)); have n6_ := Aside0.mk ((by rw [hg]; exact Nat.ne_of_gt (blk_lt (g := gb248) (o := .cells #[.int .i64 a0_0, .int .i64 a0_1] 31 (0, 0)) (kX BK248.out)) : gb249 ≠ gb248)); clear BK248; clear HB; have BK248 := n0_; have HB := n1_; have BK249 := n2_; have GW249 := n3_; have GE249 := n4_; have NB248_249 := n5_; have NB249_248 := n6_; clear n0_ n1_ n2_ n3_ n4_ n5_ n6_; clear hb hbox hg) | ((with_reducible refine gate_dst (N := 6) rfl ?_); refine bxe 6 #[.int .i64 a2_0, .int .i64 a2_1] 31 ?_; intro gb250 hg w8 hbox hb; have n0_ := Aside0.mk (blk_below (g := gb248) (o := .cells #[.int .i64 a0_0, .int .i64 a0_1] 31 (0, 0)) (kX BK248.out) hb); have n1_ := Aside0.mk (blk_below (g := gb249) (o := .cells #[.int .i64 a1_0, .int .i64 a1_1] 31 (0, 0)) (kX BK249.out) hb); have n2_ := Aside0.mk (below_step lB hb); have n3_ := Aside0.mk (hbox); have n4_ := Aside0.mk (lG (w := w) hg); have n5_ := Aside0.mk (lG (w := w) hg); have n6_ := Aside0.mk ((by rw [hg]; exact Nat.ne_of_lt (blk_lt (g := gb248) (o := .cells #[.int .i64 a0_0, .int .i64 a0_1] 31 (0, 0)) (kX BK248.out)) : gb248 ≠ gb250)); have n7_ := Aside0.mk ((by rw [hg]; exact Nat.ne_of_gt (blk_lt (g := gb248) (o := .cells #[.int .i64 a0_0, .int .i64 a0_1] 31 (0, 0)) (kX BK248.out)) : gb250 ≠ gb248)); have n8_ := Aside0.mk ((by rw [hg]; exact Nat.ne_of_lt (blk_lt (g := gb249) (o := .cells #[.int .i64 a1_0, .int .i64 a1_1] 31 (0, 0)) (kX BK249.out)) : gb249 ≠ gb250)); have n9_ := Aside0.mk ((by rw [hg]; exact Nat.ne_of_gt (blk_lt (g := gb249) (o := .cells #[.int .i64 a1_0, .int .i64 a1_1] 31 (0, 0)) (kX BK249.out)) : gb250 ≠ gb249)); clear BK248; clear BK249; clear HB; have BK248 := n0_; have BK249 := n1_; have HB := n2_; have BK250 := n3_; have GW250 := n4_; have GE250 := n5_; have NB248_250 := n6_; have NB250_248 := n7_; have NB249_250 := n8_; have NB250_249 := n9_; clear n0_ n1_ n2_ n3_ n4_ n5_ n6_ n7_ n8_ n9_; clear hb hbox hg) | ((with_reducible refine gate_dst (N := 7) rfl ?_); refine bxe 7 #[.int .i64 a3_0, .int .i64 a3_1] 31 ?_; intro gb251 hg w9 hbox hb; have n0_ := Aside0.mk (blk_below (g := gb248) (o := .cells #[.int .i64 a0_0, .int .i64 a0_1] 31 (0, 0)) (kX BK248.out) hb); have n1_ := Aside0.mk (blk_below (g := gb249) (o := .cells #[.int .i64 a1_0, .int .i64 a1_1] 31 (0, 0)) (kX BK249.out) hb); have n2_ := Aside0.mk (blk_below (g := gb250) (o := .cells #[.int .i64 a2_0, .int .i64 a2_1] 31 (0, 0)) (kX BK250.out) hb); have n3_ := Aside0.mk (below_step lB hb); have n4_ := Aside0.mk (hbox); have n5_ := Aside0.mk (lG (w := w) hg); have n6_ := Aside0.mk (lG (w := w) hg); have n7_ := Aside0.mk ((by rw [hg]; exact Nat.ne_of_lt (blk_lt (g := gb248) (o := .cells #[.int .i64 a0_0, .int .i64 a0_1] 31 (0, 0)) (kX BK248.out)) : gb248 ≠ gb251)); have n8_ := Aside0.mk ((by rw [hg]; exact Nat.ne_of_gt (blk_lt (g := gb248) (o := .cells #[.int .i64 a0_0, .int .i64 a0_1] 31 (0, 0)) (kX BK248.out)) : gb251 ≠ gb248)); have n9_ := Aside0.mk ((by rw [hg]; exact Nat.ne_of_lt (blk_lt (g := gb249) (o := .cells #[.int .i64 a1_0, .int .i64 a1_1] 31 (0, 0)) (kX BK249.out)) : gb249 ≠ gb251)); have n10_ := Aside0.mk ((by rw [hg]; exact Nat.ne_of_gt (blk_lt (g := gb249) (o := .cells #[.int .i64 a1_0, .int .i64 a1_1] 31 (0, 0)) (kX BK249.out)) : gb251 ≠ gb249)); have n11_ := Aside0.mk ((by rw [hg]; exact Nat.ne_of_lt (blk_lt (g := gb250) (o := .cells #[.int .i64 a2_0, .int .i64 a2_1] 31 (0, 0)) (kX BK250.out)) : gb250 ≠ gb251)); have n12_ := Aside0.mk ((by rw [hg]; exact Nat.ne_of_gt (blk_lt (g := gb250) (o := .cells #[.int .i64 a2_0, .int .i64 a2_1] 31 (0, 0)) (kX BK250.out)) : gb251 ≠ gb250)); clear BK248; clear BK249; clear BK250; clear HB; have BK248 := n0_; have BK249 := n1_; have BK250 := n2_; have HB := n3_; have BK251 := n4_; have GW251 := n5_; have GE251 := n6_; have NB248_251 := n7_; have NB251_248 := n8_; have NB249_251 := n9_; have NB251_249 := n10_; have NB250_251 := n11_; have NB251_250 := n12_; clear n0_ n1_ n2_ n3_ n4_ n5_ n6_ n7_ n8_ n9_ n10_ n11_ n12_; clear hb hbox hg))
 (try simp only [Act.put, sA, sB, sC])
 go_cut [30] (fun v30 wc => ∃ (kq : Nat) (x30_4 : Bool), v30 = .bool x30_4 ∧ Aside0 (R1_meet.j0 kq x30_4 a0_0 a0_1 a1_0 a1_1 a2_0 a2_1 a3_0 a3_1 = some r) ∧ Aside0 (kq ≤ k) ∧ Aside0 (wc.heap[gb248]? = some (.cells #[.int .i64 a0_0, .int .i64 a0_1] 31 (0, 0))) ∧ Aside0 (wc.heap[gb249]? = some (.cells #[.int .i64 a1_0, .int .i64 a1_1] 31 (0, 0))) ∧ Aside0 (wc.heap[gb250]? = some (.cells #[.int .i64 a2_0, .int .i64 a2_1] 31 (0, 0))) ∧ Aside0 (wc.heap[gb251]? = some (.cells #[.int .i64 a3_0, .int .i64 a3_1] 31 (0, 0))) ∧ Aside0 (Below w.heap.size w wc))
 case first =>
  have H := HC5.out
  clear HC5
  replace H := Option.bind_eq_some_iff.mp H
  obtain ⟨t252, A100, H⟩ := H
  replace H : ((R1_Turn.f a0_0 a0_1 a1_0 a1_1 a3_0 a3_1).bind fun t253 => (if (wrap64 (t252 * t253)) < 0 then ((R1_Turn.f a2_0 a2_1 a3_0 a3_1 a0_0 a0_1).bind fun t254 => ((R1_Turn.f a2_0 a2_1 a3_0 a3_1 a1_0 a1_1).bind fun t255 => (R1_meet.j0 k (decide ((wrap64 (t254 * t255)) < 0)) a0_0 a0_1 a1_0 a1_1 a2_0 a2_1 a3_0 a3_1))) else (R1_meet.j0 k false a0_0 a0_1 a1_0 a1_1 a2_0 a2_1 a3_0 a3_1))) = some r := H
  have A10 := Aside0.mk A100
  clear A100
  replace H := Option.bind_eq_some_iff.mp H
  obtain ⟨t253, A110, H⟩ := H
  replace H : (if (wrap64 (t252 * t253)) < 0 then ((R1_Turn.f a2_0 a2_1 a3_0 a3_1 a0_0 a0_1).bind fun t254 => ((R1_Turn.f a2_0 a2_1 a3_0 a3_1 a1_0 a1_1).bind fun t255 => (R1_meet.j0 k (decide ((wrap64 (t254 * t255)) < 0)) a0_0 a0_1 a1_0 a1_1 a2_0 a2_1 a3_0 a3_1))) else (R1_meet.j0 k false a0_0 a0_1 a1_0 a1_1 a2_0 a2_1 a3_0 a3_1)) = some r := H
  have A11 := Aside0.mk A110
  clear A110
  by_cases c12 : (wrap64 (t252 * t253)) < 0
  ·rw [if_pos c12] at H
   have c12b0 : decide ((wrap64 (t252 * t253)) < 0) = true := decide_eq_true c12
   clear c12
   (first | rw [c12b0] | (simp only [i64_w, i32_w]; rw [c12b0]) | skip)
   replace H := Option.bind_eq_some_iff.mp H
   obtain ⟨t254, A130, H⟩ := H
   replace H : ((R1_Turn.f a2_0 a2_1 a3_0 a3_1 a1_0 a1_1).bind fun t255 => (R1_meet.j0 k (decide ((wrap64 (t254 * t255)) < 0)) a0_0 a0_1 a1_0 a1_1 a2_0 a2_1 a3_0 a3_1)) = some r := H
   have A13 := Aside0.mk A130
   clear A130
   replace H := Option.bind_eq_some_iff.mp H
   obtain ⟨t255, A140, H⟩ := H
   replace H : (R1_meet.j0 k (decide ((wrap64 (t254 * t255)) < 0)) a0_0 a0_1 a1_0 a1_1 a2_0 a2_1 a3_0 a3_1) = some r := H
   have A14 := Aside0.mk A140
   clear A140
   have H' := Aside0.mk H
   clear H
   try go_wp2
   replace BK248 := Aside0.mk (kD BK248.out)
   replace BK249 := Aside0.mk (kD BK249.out)
   replace BK250 := Aside0.mk (kD BK250.out)
   replace BK251 := Aside0.mk (kD BK251.out)
   replace HB := Aside0.mk (lD HB.out)
   refine start_ (n := 22) (S := fun w' => w'.cell? ⟨gb248, 0, none⟩ = some (.int .i64 a0_0) ∧ w'.cell? ⟨gb248, 1, none⟩ = some (.int .i64 a0_1) ∧ w'.cell? ⟨gb249, 0, none⟩ = some (.int .i64 a1_0) ∧ w'.cell? ⟨gb249, 1, none⟩ = some (.int .i64 a1_1) ∧ w'.cell? ⟨gb250, 0, none⟩ = some (.int .i64 a2_0) ∧ w'.cell? ⟨gb250, 1, none⟩ = some (.int .i64 a2_1) ∧ w'.cell? ⟨gb251, 0, none⟩ = some (.int .i64 a3_0) ∧ w'.cell? ⟨gb251, 1, none⟩ = some (.int .i64 a3_1)) (ds := []) (Bs 0 22) (by kernel_rfl) rfl rfl ⟨(blk_cell BK248.out 0).trans rfl, (blk_cell BK248.out 1).trans rfl, (blk_cell BK249.out 0).trans rfl, (blk_cell BK249.out 1).trans rfl, (blk_cell BK250.out 0).trans rfl, (blk_cell BK250.out 1).trans rfl, (blk_cell BK251.out 0).trans rfl, (blk_cell BK251.out 1).trans rfl⟩ (fun hHeld => ?_); refine with_tabW R1_meet.tab1 R1_meet.bits1 (fun HT_ HW_ => ?_)
   generalize w9.drew = w15 at BK248 BK249 BK250 BK251 HB hHeld ⊢
   refine ta 0 9 (Bs 1 22) HT_ HW_ hHeld ?_
   refine ta 1 10 (Bs 2 22) HT_ HW_ hHeld ?_
   refine ta 2 11 (Bs 3 22) HT_ HW_ hHeld ?_
   refine ta 4 13 (Br [3,1,1,17]) HT_ HW_ hHeld ?_
   refine ta 5 14 (Br [3,1,2,16]) HT_ HW_ hHeld ?_
   refine ta 6 15 (Br [3,1,3,15]) HT_ HW_ hHeld ?_
   refine one_ (i := 3) (N := some 12) (Bs 7 22) rfl rfl (one_of HT_.out (by kernel_rfl)) (by decide) (fun K hK => ?_)
   refine goes_ Try.func31 (by kernel_rfl) rfl #[.agg #[.int .i64 a0_0, .int .i64 a0_1], .agg #[.int .i64 a1_0, .int .i64 a1_1], .agg #[.int .i64 a2_0, .int .i64 a2_1]] (by rfl) rfl rfl (by (try simp only [List.map_toArray, List.map_cons, List.map_nil]); first | done | rfl | (simp only [List.length_drop, List.length_take]; rfl)) ?_
   with_reducible refine (R1_Turn.calls a0_0 a0_1 a1_0 a1_1 a2_0 a2_1 t252 _ A10.out).mono ?_
   rintro e w16 ⟨rfl, hb⟩
   refine ⟨_, rfl, ?_⟩
   have n4_ := Aside0.mk (below_step lB hb)
   clear HB
   have HB := n4_
   clear n4_
   replace BK248 := Aside0.mk (blk_below (g := gb248) (o := .cells #[.int .i64 a0_0, .int .i64 a0_1] 31 (0, 0)) (kX BK248.out) hb)
   replace BK249 := Aside0.mk (blk_below (g := gb249) (o := .cells #[.int .i64 a1_0, .int .i64 a1_1] 31 (0, 0)) (kX BK249.out) hb)
   replace BK250 := Aside0.mk (blk_below (g := gb250) (o := .cells #[.int .i64 a2_0, .int .i64 a2_1] 31 (0, 0)) (kX BK250.out) hb)
   replace BK251 := Aside0.mk (blk_below (g := gb251) (o := .cells #[.int .i64 a3_0, .int .i64 a3_1] 31 (0, 0)) (kX BK251.out) hb)
   (try clear hb)
   (try clear hb2)
   (try clear hk)
   (try clear hi)
   refine hK.out _ _ ⟨(blk_cell BK248.out 0).trans rfl, (blk_cell BK248.out 1).trans rfl, (blk_cell BK249.out 0).trans rfl, (blk_cell BK249.out 1).trans rfl, (blk_cell BK250.out 0).trans rfl, (blk_cell BK250.out 1).trans rfl, (blk_cell BK251.out 0).trans rfl, (blk_cell BK251.out 1).trans rfl⟩ (fun hHeld => ?_)
   clear hK K
   refine nm 12 ?_
   refine one_ (i := 7) (N := some 16) (Bs 8 22) rfl rfl (one_of HT_.out (by kernel_rfl)) (by decide) (fun K hK => ?_)
   refine goes_ Try.func31 (by kernel_rfl) rfl #[.agg #[.int .i64 a0_0, .int .i64 a0_1], .agg #[.int .i64 a1_0, .int .i64 a1_1], .agg #[.int .i64 a3_0, .int .i64 a3_1]] (by rfl) rfl rfl (by (try simp only [List.map_toArray, List.map_cons, List.map_nil]); first | done | rfl | (simp only [List.length_drop, List.length_take]; rfl)) ?_
   with_reducible refine (R1_Turn.calls a0_0 a0_1 a1_0 a1_1 a3_0 a3_1 t253 _ A11.out).mono ?_
   rintro e w17 ⟨rfl, hb⟩
   refine ⟨_, rfl, ?_⟩
   have n4_ := Aside0.mk (below_step lB hb)
   clear HB
   have HB := n4_
   clear n4_
   replace BK248 := Aside0.mk (blk_below (g := gb248) (o := .cells #[.int .i64 a0_0, .int .i64 a0_1] 31 (0, 0)) (kX BK248.out) hb)
   replace BK249 := Aside0.mk (blk_below (g := gb249) (o := .cells #[.int .i64 a1_0, .int .i64 a1_1] 31 (0, 0)) (kX BK249.out) hb)
   replace BK250 := Aside0.mk (blk_below (g := gb250) (o := .cells #[.int .i64 a2_0, .int .i64 a2_1] 31 (0, 0)) (kX BK250.out) hb)
   replace BK251 := Aside0.mk (blk_below (g := gb251) (o := .cells #[.int .i64 a3_0, .int .i64 a3_1] 31 (0, 0)) (kX BK251.out) hb)
   (try clear hb)
   (try clear hb2)
   (try clear hk)
   (try clear hi)
   refine hK.out _ _ ⟨(blk_cell BK248.out 0).trans rfl, (blk_cell BK248.out 1).trans rfl, (blk_cell BK249.out 0).trans rfl, (blk_cell BK249.out 1).trans rfl, (blk_cell BK250.out 0).trans rfl, (blk_cell BK250.out 1).trans rfl, (blk_cell BK251.out 0).trans rfl, (blk_cell BK251.out 1).trans rfl⟩ (fun hHeld => ?_)
   clear hK K
   refine nm 16 ?_
   refine pu 8 17 (Bs 9 22) HT_ ?_
   refine pu 9 18 (Bs 10 22) HT_ ?_
   refine pu 10 19 (Bs 11 22) HT_ ?_
   refine ta 11 20 (Bs 12 22) HT_ HW_ hHeld ?_
   refine ta 12 21 (Bs 13 22) HT_ HW_ hHeld ?_
   refine ta 13 22 (Bs 14 22) HT_ HW_ hHeld ?_
   refine ta 15 24 (Br [14,1,1,6]) HT_ HW_ hHeld ?_
   refine ta 16 25 (Br [14,1,2,5]) HT_ HW_ hHeld ?_
   refine ta 17 26 (Br [14,1,3,4]) HT_ HW_ hHeld ?_
   refine one_ (i := 14) (N := some 23) (Bs 18 22) rfl rfl (one_of HT_.out (by kernel_rfl)) (by decide) (fun K hK => ?_)
   refine goes_ Try.func31 (by kernel_rfl) rfl #[.agg #[.int .i64 a2_0, .int .i64 a2_1], .agg #[.int .i64 a3_0, .int .i64 a3_1], .agg #[.int .i64 a0_0, .int .i64 a0_1]] (by rfl) rfl rfl (by (try simp only [List.map_toArray, List.map_cons, List.map_nil]); first | done | rfl | (simp only [List.length_drop, List.length_take]; rfl)) ?_
   with_reducible refine (R1_Turn.calls a2_0 a2_1 a3_0 a3_1 a0_0 a0_1 t254 _ A13.out).mono ?_
   rintro e w18 ⟨rfl, hb⟩
   refine ⟨_, rfl, ?_⟩
   have n4_ := Aside0.mk (below_step lB hb)
   clear HB
   have HB := n4_
   clear n4_
   replace BK248 := Aside0.mk (blk_below (g := gb248) (o := .cells #[.int .i64 a0_0, .int .i64 a0_1] 31 (0, 0)) (kX BK248.out) hb)
   replace BK249 := Aside0.mk (blk_below (g := gb249) (o := .cells #[.int .i64 a1_0, .int .i64 a1_1] 31 (0, 0)) (kX BK249.out) hb)
   replace BK250 := Aside0.mk (blk_below (g := gb250) (o := .cells #[.int .i64 a2_0, .int .i64 a2_1] 31 (0, 0)) (kX BK250.out) hb)
   replace BK251 := Aside0.mk (blk_below (g := gb251) (o := .cells #[.int .i64 a3_0, .int .i64 a3_1] 31 (0, 0)) (kX BK251.out) hb)
   (try clear hb)
   (try clear hb2)
   (try clear hk)
   (try clear hi)
   refine hK.out _ _ ⟨(blk_cell BK248.out 0).trans rfl, (blk_cell BK248.out 1).trans rfl, (blk_cell BK249.out 0).trans rfl, (blk_cell BK249.out 1).trans rfl, (blk_cell BK250.out 0).trans rfl, (blk_cell BK250.out 1).trans rfl, (blk_cell BK251.out 0).trans rfl, (blk_cell BK251.out 1).trans rfl⟩ (fun hHeld => ?_)
   clear hK K
   refine nm 23 ?_
   refine one_ (i := 18) (N := some 27) (Bs 19 22) rfl rfl (one_of HT_.out (by kernel_rfl)) (by decide) (fun K hK => ?_)
   refine goes_ Try.func31 (by kernel_rfl) rfl #[.agg #[.int .i64 a2_0, .int .i64 a2_1], .agg #[.int .i64 a3_0, .int .i64 a3_1], .agg #[.int .i64 a1_0, .int .i64 a1_1]] (by rfl) rfl rfl (by (try simp only [List.map_toArray, List.map_cons, List.map_nil]); first | done | rfl | (simp only [List.length_drop, List.length_take]; rfl)) ?_
   with_reducible refine (R1_Turn.calls a2_0 a2_1 a3_0 a3_1 a1_0 a1_1 t255 _ A14.out).mono ?_
   rintro e w19 ⟨rfl, hb⟩
   refine ⟨_, rfl, ?_⟩
   have n4_ := Aside0.mk (below_step lB hb)
   clear HB
   have HB := n4_
   clear n4_
   replace BK248 := Aside0.mk (blk_below (g := gb248) (o := .cells #[.int .i64 a0_0, .int .i64 a0_1] 31 (0, 0)) (kX BK248.out) hb)
   replace BK249 := Aside0.mk (blk_below (g := gb249) (o := .cells #[.int .i64 a1_0, .int .i64 a1_1] 31 (0, 0)) (kX BK249.out) hb)
   replace BK250 := Aside0.mk (blk_below (g := gb250) (o := .cells #[.int .i64 a2_0, .int .i64 a2_1] 31 (0, 0)) (kX BK250.out) hb)
   replace BK251 := Aside0.mk (blk_below (g := gb251) (o := .cells #[.int .i64 a3_0, .int .i64 a3_1] 31 (0, 0)) (kX BK251.out) hb)
   (try clear hb)
   (try clear hb2)
   (try clear hk)
   (try clear hi)
   refine hK.out _ _ ⟨(blk_cell BK248.out 0).trans rfl, (blk_cell BK248.out 1).trans rfl, (blk_cell BK249.out 0).trans rfl, (blk_cell BK249.out 1).trans rfl, (blk_cell BK250.out 0).trans rfl, (blk_cell BK250.out 1).trans rfl, (blk_cell BK251.out 0).trans rfl, (blk_cell BK251.out 1).trans rfl⟩ (fun hHeld => ?_)
   clear hK K
   refine nm 27 ?_
   refine pu 19 28 (Bs 20 22) HT_ ?_
   refine pu 20 29 (Bs 21 22) HT_ ?_
   refine pu 21 30 (Bs 22 22) HT_ ?_
   refine done_ (done_of HT_.out (by kernel_rfl)) ?_
   try go_wp2
   go_meet
   case rel => exact ⟨_, (decide ((wrap64 (t254 * t255)) < 0)), (by first | rfl | (simp; done) | (simp [*]; done)), H', ⟨by first | omega | exact Nat.le_refl _⟩, ⟨by (with_reducible repeat (first | refine kN ?_ _ | refine kD ?_ | refine kA ?_ _)); exact BK248.out⟩, ⟨by (with_reducible repeat (first | refine kN ?_ _ | refine kD ?_ | refine kA ?_ _)); exact BK249.out⟩, ⟨by (with_reducible repeat (first | refine kN ?_ _ | refine kD ?_ | refine kA ?_ _)); exact BK250.out⟩, ⟨by (with_reducible repeat (first | refine kN ?_ _ | refine kD ?_ | refine kA ?_ _)); exact BK251.out⟩, ⟨by repeat (first | (with_reducible first | exact HB.out | apply lA | apply lN | apply lD | refine lS ?_ GE248.out | refine lS ?_ GE249.out | refine lS ?_ GE250.out | refine lS ?_ GE251.out) | exact HB.out)⟩⟩
  rw [if_neg c12] at H
  have c12b0 : decide ((wrap64 (t252 * t253)) < 0) = false := decide_eq_false c12
  clear c12
  (first | rw [c12b0] | (simp only [i64_w, i32_w]; rw [c12b0]) | skip)
  have H' := Aside0.mk H
  clear H
  try go_wp2
  replace BK248 := Aside0.mk (kD BK248.out)
  replace BK249 := Aside0.mk (kD BK249.out)
  replace BK250 := Aside0.mk (kD BK250.out)
  replace BK251 := Aside0.mk (kD BK251.out)
  replace HB := Aside0.mk (lD HB.out)
  refine start_ (n := 22) (S := fun w' => w'.cell? ⟨gb248, 0, none⟩ = some (.int .i64 a0_0) ∧ w'.cell? ⟨gb248, 1, none⟩ = some (.int .i64 a0_1) ∧ w'.cell? ⟨gb249, 0, none⟩ = some (.int .i64 a1_0) ∧ w'.cell? ⟨gb249, 1, none⟩ = some (.int .i64 a1_1) ∧ w'.cell? ⟨gb250, 0, none⟩ = some (.int .i64 a2_0) ∧ w'.cell? ⟨gb250, 1, none⟩ = some (.int .i64 a2_1) ∧ w'.cell? ⟨gb251, 0, none⟩ = some (.int .i64 a3_0) ∧ w'.cell? ⟨gb251, 1, none⟩ = some (.int .i64 a3_1)) (ds := []) (Bs 0 22) (by kernel_rfl) rfl rfl ⟨(blk_cell BK248.out 0).trans rfl, (blk_cell BK248.out 1).trans rfl, (blk_cell BK249.out 0).trans rfl, (blk_cell BK249.out 1).trans rfl, (blk_cell BK250.out 0).trans rfl, (blk_cell BK250.out 1).trans rfl, (blk_cell BK251.out 0).trans rfl, (blk_cell BK251.out 1).trans rfl⟩ (fun hHeld => ?_); refine with_tabW R1_meet.tab1 R1_meet.bits1 (fun HT_ HW_ => ?_)
  generalize w9.drew = w20 at BK248 BK249 BK250 BK251 HB hHeld ⊢
  refine ta 0 9 (Bs 1 22) HT_ HW_ hHeld ?_
  refine ta 1 10 (Bs 2 22) HT_ HW_ hHeld ?_
  refine ta 2 11 (Bs 3 22) HT_ HW_ hHeld ?_
  refine ta 4 13 (Br [3,1,1,17]) HT_ HW_ hHeld ?_
  refine ta 5 14 (Br [3,1,2,16]) HT_ HW_ hHeld ?_
  refine ta 6 15 (Br [3,1,3,15]) HT_ HW_ hHeld ?_
  refine one_ (i := 3) (N := some 12) (Bs 7 22) rfl rfl (one_of HT_.out (by kernel_rfl)) (by decide) (fun K hK => ?_)
  refine goes_ Try.func31 (by kernel_rfl) rfl #[.agg #[.int .i64 a0_0, .int .i64 a0_1], .agg #[.int .i64 a1_0, .int .i64 a1_1], .agg #[.int .i64 a2_0, .int .i64 a2_1]] (by rfl) rfl rfl (by (try simp only [List.map_toArray, List.map_cons, List.map_nil]); first | done | rfl | (simp only [List.length_drop, List.length_take]; rfl)) ?_
  with_reducible refine (R1_Turn.calls a0_0 a0_1 a1_0 a1_1 a2_0 a2_1 t252 _ A10.out).mono ?_
  rintro e w21 ⟨rfl, hb⟩
  refine ⟨_, rfl, ?_⟩
  have n4_ := Aside0.mk (below_step lB hb)
  clear HB
  have HB := n4_
  clear n4_
  replace BK248 := Aside0.mk (blk_below (g := gb248) (o := .cells #[.int .i64 a0_0, .int .i64 a0_1] 31 (0, 0)) (kX BK248.out) hb)
  replace BK249 := Aside0.mk (blk_below (g := gb249) (o := .cells #[.int .i64 a1_0, .int .i64 a1_1] 31 (0, 0)) (kX BK249.out) hb)
  replace BK250 := Aside0.mk (blk_below (g := gb250) (o := .cells #[.int .i64 a2_0, .int .i64 a2_1] 31 (0, 0)) (kX BK250.out) hb)
  replace BK251 := Aside0.mk (blk_below (g := gb251) (o := .cells #[.int .i64 a3_0, .int .i64 a3_1] 31 (0, 0)) (kX BK251.out) hb)
  (try clear hb)
  (try clear hb2)
  (try clear hk)
  (try clear hi)
  refine hK.out _ _ ⟨(blk_cell BK248.out 0).trans rfl, (blk_cell BK248.out 1).trans rfl, (blk_cell BK249.out 0).trans rfl, (blk_cell BK249.out 1).trans rfl, (blk_cell BK250.out 0).trans rfl, (blk_cell BK250.out 1).trans rfl, (blk_cell BK251.out 0).trans rfl, (blk_cell BK251.out 1).trans rfl⟩ (fun hHeld => ?_)
  clear hK K
  refine nm 12 ?_
  refine one_ (i := 7) (N := some 16) (Bs 8 22) rfl rfl (one_of HT_.out (by kernel_rfl)) (by decide) (fun K hK => ?_)
  refine goes_ Try.func31 (by kernel_rfl) rfl #[.agg #[.int .i64 a0_0, .int .i64 a0_1], .agg #[.int .i64 a1_0, .int .i64 a1_1], .agg #[.int .i64 a3_0, .int .i64 a3_1]] (by rfl) rfl rfl (by (try simp only [List.map_toArray, List.map_cons, List.map_nil]); first | done | rfl | (simp only [List.length_drop, List.length_take]; rfl)) ?_
  with_reducible refine (R1_Turn.calls a0_0 a0_1 a1_0 a1_1 a3_0 a3_1 t253 _ A11.out).mono ?_
  rintro e w22 ⟨rfl, hb⟩
  refine ⟨_, rfl, ?_⟩
  have n4_ := Aside0.mk (below_step lB hb)
  clear HB
  have HB := n4_
  clear n4_
  replace BK248 := Aside0.mk (blk_below (g := gb248) (o := .cells #[.int .i64 a0_0, .int .i64 a0_1] 31 (0, 0)) (kX BK248.out) hb)
  replace BK249 := Aside0.mk (blk_below (g := gb249) (o := .cells #[.int .i64 a1_0, .int .i64 a1_1] 31 (0, 0)) (kX BK249.out) hb)
  replace BK250 := Aside0.mk (blk_below (g := gb250) (o := .cells #[.int .i64 a2_0, .int .i64 a2_1] 31 (0, 0)) (kX BK250.out) hb)
  replace BK251 := Aside0.mk (blk_below (g := gb251) (o := .cells #[.int .i64 a3_0, .int .i64 a3_1] 31 (0, 0)) (kX BK251.out) hb)
  (try clear hb)
  (try clear hb2)
  (try clear hk)
  (try clear hi)
  refine hK.out _ _ ⟨(blk_cell BK248.out 0).trans rfl, (blk_cell BK248.out 1).trans rfl, (blk_cell BK249.out 0).trans rfl, (blk_cell BK249.out 1).trans rfl, (blk_cell BK250.out 0).trans rfl, (blk_cell BK250.out 1).trans rfl, (blk_cell BK251.out 0).trans rfl, (blk_cell BK251.out 1).trans rfl⟩ (fun hHeld => ?_)
  clear hK K
  refine nm 16 ?_
  refine pu 8 17 (Bs 9 22) HT_ ?_
  refine pu 9 18 (Bs 10 22) HT_ ?_
  refine pu 10 19 (Bs 11 22) HT_ ?_
  refine po 11 20 (Bs 12 22) HT_ ?_
  refine po 12 21 (Bs 13 22) HT_ ?_
  refine po 13 22 (Bs 14 22) HT_ ?_
  refine po 14 23 (Bs 15 22) HT_ ?_
  refine po 15 24 (Bs 16 22) HT_ ?_
  refine po 16 25 (Bs 17 22) HT_ ?_
  refine po 17 26 (Bs 18 22) HT_ ?_
  refine po 18 27 (Bs 19 22) HT_ ?_
  refine po 19 28 (Bs 20 22) HT_ ?_
  refine po 20 29 (Bs 21 22) HT_ ?_
  refine pu 21 30 (Bs 22 22) HT_ ?_
  refine done_ (done_of HT_.out (by kernel_rfl)) ?_
  try go_wp2
  go_meet
  case rel => exact ⟨_, (false), (by first | rfl | (simp; done) | (simp [*]; done)), H', ⟨by first | omega | exact Nat.le_refl _⟩, ⟨by (with_reducible repeat (first | refine kN ?_ _ | refine kD ?_ | refine kA ?_ _)); exact BK248.out⟩, ⟨by (with_reducible repeat (first | refine kN ?_ _ | refine kD ?_ | refine kA ?_ _)); exact BK249.out⟩, ⟨by (with_reducible repeat (first | refine kN ?_ _ | refine kD ?_ | refine kA ?_ _)); exact BK250.out⟩, ⟨by (with_reducible repeat (first | refine kN ?_ _ | refine kD ?_ | refine kA ?_ _)); exact BK251.out⟩, ⟨by repeat (first | (with_reducible first | exact HB.out | apply lA | apply lN | apply lD | refine lS ?_ GE248.out | refine lS ?_ GE249.out | refine lS ?_ GE250.out | refine lS ?_ GE251.out) | exact HB.out)⟩⟩
 case rest =>
  clear HC5
  try clear c1
  try clear p2
  try clear c3
  try clear c6
  try clear p6
  try clear c12
  try clear c12b0
  obtain ⟨kq, x30_4, rfl, HA, HJ4, BK248, BK249, BK250, BK251, HB⟩ := hcut
  cases kq with
  | zero => exact absurd HA.out (by simp [R1_meet.j0])
  | succ kj4 =>
   have H := HA.out
   clear HA
   simp only [R1_meet.j0] at H
   by_cases c23 : x30_4 = true
   subst c23
   have H1 : (some true) = some r := by rw [if_pos rfl] at H; exact H
   clear H
   have H := H1
   clear H1
   obtain rfl := Option.some.inj H
   rotate_left 1
   replace c23 := Bool.eq_false_iff.mpr c23
   subst c23
   have H1 : ((R1_on.f a0_0 a0_1 a1_0 a1_1 a2_0 a2_1).bind fun t256 => (if t256 = true then (some true) else ((R1_on.f a0_0 a0_1 a1_0 a1_1 a3_0 a3_1).bind fun t257 => (if t257 = true then (some true) else ((R1_on.f a2_0 a2_1 a3_0 a3_1 a0_0 a0_1).bind fun t258 => (if t258 = true then (some true) else ((R1_on.f a2_0 a2_1 a3_0 a3_1 a1_0 a1_1).bind fun t259 => (some t259)))))))) = some r := by rw [if_neg (show ¬ (false = true) by decide)] at H; exact H
   clear H
   have H := H1
   clear H1
   replace H := Option.bind_eq_some_iff.mp H
   obtain ⟨t256, A240, H⟩ := H
   replace H : (if t256 = true then (some true) else ((R1_on.f a0_0 a0_1 a1_0 a1_1 a3_0 a3_1).bind fun t257 => (if t257 = true then (some true) else ((R1_on.f a2_0 a2_1 a3_0 a3_1 a0_0 a0_1).bind fun t258 => (if t258 = true then (some true) else ((R1_on.f a2_0 a2_1 a3_0 a3_1 a1_0 a1_1).bind fun t259 => (some t259))))))) = some r := H
   have A24 := Aside0.mk A240
   clear A240
   by_cases c25 : t256 = true
   subst c25
   have H1 : (some true) = some r := by rw [if_pos rfl] at H; exact H
   clear H
   have H := H1
   clear H1
   obtain rfl := Option.some.inj H
   have hnb26 := NB248_249.out
   have hnc26 := NB249_248.out
   have hnb27 := NB248_250.out
   have hnc27 := NB250_248.out
   have hnb28 := NB248_251.out
   have hnc28 := NB251_248.out
   have hcz29_0 : wc.cell? ⟨gb248, 0, none⟩ = some (.int .i64 a0_0) := (blk_cell BK248.out 0).trans rfl
   have hcz29_1 : wc.cell? ⟨gb248, 1, none⟩ = some (.int .i64 a0_1) := (blk_cell BK248.out 1).trans rfl
   have hfz29_0 := blk_frozen BK248.out 0
   have hfz29_1 := blk_frozen BK248.out 1
   have hnb30 := NB249_250.out
   have hnc30 := NB250_249.out
   have hnb31 := NB249_251.out
   have hnc31 := NB251_249.out
   have hcz32_0 : wc.cell? ⟨gb249, 0, none⟩ = some (.int .i64 a1_0) := (blk_cell BK249.out 0).trans rfl
   have hcz32_1 : wc.cell? ⟨gb249, 1, none⟩ = some (.int .i64 a1_1) := (blk_cell BK249.out 1).trans rfl
   have hfz32_0 := blk_frozen BK249.out 0
   have hfz32_1 := blk_frozen BK249.out 1
   have hnb33 := NB250_251.out
   have hnc33 := NB251_250.out
   have hcz34_0 : wc.cell? ⟨gb250, 0, none⟩ = some (.int .i64 a2_0) := (blk_cell BK250.out 0).trans rfl
   have hcz34_1 : wc.cell? ⟨gb250, 1, none⟩ = some (.int .i64 a2_1) := (blk_cell BK250.out 1).trans rfl
   have hfz34_0 := blk_frozen BK250.out 0
   have hfz34_1 := blk_frozen BK250.out 1
   rotate_left 1
   replace c25 := Bool.eq_false_iff.mpr c25
   subst c25
   have H1 : ((R1_on.f a0_0 a0_1 a1_0 a1_1 a3_0 a3_1).bind fun t257 => (if t257 = true then (some true) else ((R1_on.f a2_0 a2_1 a3_0 a3_1 a0_0 a0_1).bind fun t258 => (if t258 = true then (some true) else ((R1_on.f a2_0 a2_1 a3_0 a3_1 a1_0 a1_1).bind fun t259 => (some t259)))))) = some r := by rw [if_neg (show ¬ (false = true) by decide)] at H; exact H
   clear H
   have H := H1
   clear H1
   replace H := Option.bind_eq_some_iff.mp H
   obtain ⟨t257, A360, H⟩ := H
   replace H : (if t257 = true then (some true) else ((R1_on.f a2_0 a2_1 a3_0 a3_1 a0_0 a0_1).bind fun t258 => (if t258 = true then (some true) else ((R1_on.f a2_0 a2_1 a3_0 a3_1 a1_0 a1_1).bind fun t259 => (some t259))))) = some r := H
   have A36 := Aside0.mk A360
   clear A360
   by_cases c37 : t257 = true
   subst c37
   have H1 : (some true) = some r := by rw [if_pos rfl] at H; exact H
   clear H
   have H := H1
   clear H1
   obtain rfl := Option.some.inj H
   have hnb38 := NB248_249.out
   have hnc38 := NB249_248.out
   have hnb39 := NB248_250.out
   have hnc39 := NB250_248.out
   have hnb40 := NB248_251.out
   have hnc40 := NB251_248.out
   have hcz41_0 : wc.cell? ⟨gb248, 0, none⟩ = some (.int .i64 a0_0) := (blk_cell BK248.out 0).trans rfl
   have hcz41_1 : wc.cell? ⟨gb248, 1, none⟩ = some (.int .i64 a0_1) := (blk_cell BK248.out 1).trans rfl
   have hfz41_0 := blk_frozen BK248.out 0
   have hfz41_1 := blk_frozen BK248.out 1
   have hnb42 := NB249_250.out
   have hnc42 := NB250_249.out
   have hnb43 := NB249_251.out
   have hnc43 := NB251_249.out
   have hcz44_0 : wc.cell? ⟨gb249, 0, none⟩ = some (.int .i64 a1_0) := (blk_cell BK249.out 0).trans rfl
   have hcz44_1 : wc.cell? ⟨gb249, 1, none⟩ = some (.int .i64 a1_1) := (blk_cell BK249.out 1).trans rfl
   have hfz44_0 := blk_frozen BK249.out 0
   have hfz44_1 := blk_frozen BK249.out 1
   have hnb45 := NB250_251.out
   have hnc45 := NB251_250.out
   have hcz46_0 : wc.cell? ⟨gb250, 0, none⟩ = some (.int .i64 a2_0) := (blk_cell BK250.out 0).trans rfl
   have hcz46_1 : wc.cell? ⟨gb250, 1, none⟩ = some (.int .i64 a2_1) := (blk_cell BK250.out 1).trans rfl
   have hfz46_0 := blk_frozen BK250.out 0
   have hfz46_1 := blk_frozen BK250.out 1
   rotate_left 1
   replace c37 := Bool.eq_false_iff.mpr c37
   subst c37
   have H1 : ((R1_on.f a2_0 a2_1 a3_0 a3_1 a0_0 a0_1).bind fun t258 => (if t258 = true then (some true) else ((R1_on.f a2_0 a2_1 a3_0 a3_1 a1_0 a1_1).bind fun t259 => (some t259)))) = some r := by rw [if_neg (show ¬ (false = true) by decide)] at H; exact H
   clear H
   have H := H1
   clear H1
   replace H := Option.bind_eq_some_iff.mp H
   obtain ⟨t258, A520, H⟩ := H
   replace H : (if t258 = true then (some true) else ((R1_on.f a2_0 a2_1 a3_0 a3_1 a1_0 a1_1).bind fun t259 => (some t259))) = some r := H
   have A52 := Aside0.mk A520
   clear A520
   by_cases c53 : t258 = true
   subst c53
   have H1 : (some true) = some r := by rw [if_pos rfl] at H; exact H
   clear H
   have H := H1
   clear H1
   obtain rfl := Option.some.inj H
   have hnb54 := NB248_249.out
   have hnc54 := NB249_248.out
   have hnb55 := NB248_250.out
   have hnc55 := NB250_248.out
   have hnb56 := NB248_251.out
   have hnc56 := NB251_248.out
   have hcz57_0 : wc.cell? ⟨gb248, 0, none⟩ = some (.int .i64 a0_0) := (blk_cell BK248.out 0).trans rfl
   have hcz57_1 : wc.cell? ⟨gb248, 1, none⟩ = some (.int .i64 a0_1) := (blk_cell BK248.out 1).trans rfl
   have hfz57_0 := blk_frozen BK248.out 0
   have hfz57_1 := blk_frozen BK248.out 1
   have hnb58 := NB249_250.out
   have hnc58 := NB250_249.out
   have hnb59 := NB249_251.out
   have hnc59 := NB251_249.out
   have hcz60_0 : wc.cell? ⟨gb249, 0, none⟩ = some (.int .i64 a1_0) := (blk_cell BK249.out 0).trans rfl
   have hcz60_1 : wc.cell? ⟨gb249, 1, none⟩ = some (.int .i64 a1_1) := (blk_cell BK249.out 1).trans rfl
   have hfz60_0 := blk_frozen BK249.out 0
   have hfz60_1 := blk_frozen BK249.out 1
   have hnb61 := NB250_251.out
   have hnc61 := NB251_250.out
   have hcz62_0 : wc.cell? ⟨gb250, 0, none⟩ = some (.int .i64 a2_0) := (blk_cell BK250.out 0).trans rfl
   have hcz62_1 : wc.cell? ⟨gb250, 1, none⟩ = some (.int .i64 a2_1) := (blk_cell BK250.out 1).trans rfl
   have hfz62_0 := blk_frozen BK250.out 0
   have hfz62_1 := blk_frozen BK250.out 1
   rotate_left 1
   replace c53 := Bool.eq_false_iff.mpr c53
   subst c53
   have H1 : ((R1_on.f a2_0 a2_1 a3_0 a3_1 a1_0 a1_1).bind fun t259 => (some t259)) = some r := by rw [if_neg (show ¬ (false = true) by decide)] at H; exact H
   clear H
   have H := H1
   clear H1
   replace H := Option.bind_eq_some_iff.mp H
   obtain ⟨t259, A720, H⟩ := H
   replace H : (some t259) = some r := H
   have A72 := Aside0.mk A720
   clear A720
   obtain rfl := Option.some.inj H
   have hnb73 := NB248_249.out
   have hnc73 := NB249_248.out
   have hnb74 := NB248_250.out
   have hnc74 := NB250_248.out
   have hnb75 := NB248_251.out
   have hnc75 := NB251_248.out
   have hcz76_0 : wc.cell? ⟨gb248, 0, none⟩ = some (.int .i64 a0_0) := (blk_cell BK248.out 0).trans rfl
   have hcz76_1 : wc.cell? ⟨gb248, 1, none⟩ = some (.int .i64 a0_1) := (blk_cell BK248.out 1).trans rfl
   have hfz76_0 := blk_frozen BK248.out 0
   have hfz76_1 := blk_frozen BK248.out 1
   have hnb77 := NB249_250.out
   have hnc77 := NB250_249.out
   have hnb78 := NB249_251.out
   have hnc78 := NB251_249.out
   have hcz79_0 : wc.cell? ⟨gb249, 0, none⟩ = some (.int .i64 a1_0) := (blk_cell BK249.out 0).trans rfl
   have hcz79_1 : wc.cell? ⟨gb249, 1, none⟩ = some (.int .i64 a1_1) := (blk_cell BK249.out 1).trans rfl
   have hfz79_0 := blk_frozen BK249.out 0
   have hfz79_1 := blk_frozen BK249.out 1
   have hnb80 := NB250_251.out
   have hnc80 := NB251_250.out
   have hcz81_0 : wc.cell? ⟨gb250, 0, none⟩ = some (.int .i64 a2_0) := (blk_cell BK250.out 0).trans rfl
   have hcz81_1 : wc.cell? ⟨gb250, 1, none⟩ = some (.int .i64 a2_1) := (blk_cell BK250.out 1).trans rfl
   have hfz81_0 := blk_frozen BK250.out 0
   have hfz81_1 := blk_frozen BK250.out 1
   all_goals go_wp2_with (first | ((with_reducible refine gate_callee (f := 59) rfl ?_); refine goesL_ (some 34) rfl rfl Try.func59 (by kernel_rfl) rfl #[.agg #[.int .i64 a0_0, .int .i64 a0_1], .agg #[.int .i64 a1_0, .int .i64 a1_1], .agg #[.int .i64 a2_0, .int .i64 a2_1]] rfl (by (try simp only [List.map_toArray, List.map_cons, List.map_nil]); first | done | rfl | (simp only [List.length_drop, List.length_take]; rfl)) ?_; (with_reducible refine (R1_on.calls a0_0 a0_1 a1_0 a1_1 a2_0 a2_1 false _ A24.out).mono ?_); rintro e wz0 ⟨rfl, hb⟩; refine ⟨_, rfl, ?_⟩; have n0_ := Aside0.mk (blk_below (g := gb248) (o := .cells #[.int .i64 a0_0, .int .i64 a0_1] 31 (0, 0)) (kX BK248.out) hb); have n1_ := Aside0.mk (blk_below (g := gb249) (o := .cells #[.int .i64 a1_0, .int .i64 a1_1] 31 (0, 0)) (kX BK249.out) hb); have n2_ := Aside0.mk (blk_below (g := gb250) (o := .cells #[.int .i64 a2_0, .int .i64 a2_1] 31 (0, 0)) (kX BK250.out) hb); have n3_ := Aside0.mk (blk_below (g := gb251) (o := .cells #[.int .i64 a3_0, .int .i64 a3_1] 31 (0, 0)) (kX BK251.out) hb); have n4_ := Aside0.mk (below_step lB hb); clear BK248; clear BK249; clear BK250; clear BK251; clear HB; have BK248 := n0_; have BK249 := n1_; have BK250 := n2_; have BK251 := n3_; have HB := n4_; clear n0_ n1_ n2_ n3_ n4_; (try clear hb); (try clear hb2); (try clear hk); (try clear hi); have hcz48_0 : wz0.cell? ⟨gb248, 0, none⟩ = some (.int .i64 a0_0) := (blk_cell BK248.out 0).trans rfl; have hcz48_1 : wz0.cell? ⟨gb248, 1, none⟩ = some (.int .i64 a0_1) := (blk_cell BK248.out 1).trans rfl; have hfz48_0 := blk_frozen BK248.out 0; have hfz48_1 := blk_frozen BK248.out 1; have hcz49_0 : wz0.cell? ⟨gb249, 0, none⟩ = some (.int .i64 a1_0) := (blk_cell BK249.out 0).trans rfl; have hcz49_1 : wz0.cell? ⟨gb249, 1, none⟩ = some (.int .i64 a1_1) := (blk_cell BK249.out 1).trans rfl; have hfz49_0 := blk_frozen BK249.out 0; have hfz49_1 := blk_frozen BK249.out 1; have hcz50_0 : wz0.cell? ⟨gb251, 0, none⟩ = some (.int .i64 a3_0) := (blk_cell BK251.out 0).trans rfl; have hcz50_1 : wz0.cell? ⟨gb251, 1, none⟩ = some (.int .i64 a3_1) := (blk_cell BK251.out 1).trans rfl; have hfz50_0 := blk_frozen BK251.out 0; have hfz50_1 := blk_frozen BK251.out 1) | (go_at_call 59; (with_reducible refine (R1_on.calls a0_0 a0_1 a1_0 a1_1 a3_0 a3_1 false _ A36.out).mono ?_); rintro e wz1 ⟨rfl, hb⟩; have n0_ := Aside0.mk (blk_below (g := gb248) (o := .cells #[.int .i64 a0_0, .int .i64 a0_1] 31 (0, 0)) (kX BK248.out) hb); have n1_ := Aside0.mk (blk_below (g := gb249) (o := .cells #[.int .i64 a1_0, .int .i64 a1_1] 31 (0, 0)) (kX BK249.out) hb); have n2_ := Aside0.mk (blk_below (g := gb250) (o := .cells #[.int .i64 a2_0, .int .i64 a2_1] 31 (0, 0)) (kX BK250.out) hb); have n3_ := Aside0.mk (blk_below (g := gb251) (o := .cells #[.int .i64 a3_0, .int .i64 a3_1] 31 (0, 0)) (kX BK251.out) hb); have n4_ := Aside0.mk (below_step lB hb); clear BK248; clear BK249; clear BK250; clear BK251; clear HB; have BK248 := n0_; have BK249 := n1_; have BK250 := n2_; have BK251 := n3_; have HB := n4_; clear n0_ n1_ n2_ n3_ n4_; (try clear hb); (try clear hb2); (try clear hk); (try clear hi); have hcz68_0 : wz1.cell? ⟨gb250, 0, none⟩ = some (.int .i64 a2_0) := (blk_cell BK250.out 0).trans rfl; have hcz68_1 : wz1.cell? ⟨gb250, 1, none⟩ = some (.int .i64 a2_1) := (blk_cell BK250.out 1).trans rfl; have hfz68_0 := blk_frozen BK250.out 0; have hfz68_1 := blk_frozen BK250.out 1; have hcz69_0 : wz1.cell? ⟨gb251, 0, none⟩ = some (.int .i64 a3_0) := (blk_cell BK251.out 0).trans rfl; have hcz69_1 : wz1.cell? ⟨gb251, 1, none⟩ = some (.int .i64 a3_1) := (blk_cell BK251.out 1).trans rfl; have hfz69_0 := blk_frozen BK251.out 0; have hfz69_1 := blk_frozen BK251.out 1; have hcz70_0 : wz1.cell? ⟨gb248, 0, none⟩ = some (.int .i64 a0_0) := (blk_cell BK248.out 0).trans rfl; have hcz70_1 : wz1.cell? ⟨gb248, 1, none⟩ = some (.int .i64 a0_1) := (blk_cell BK248.out 1).trans rfl; have hfz70_0 := blk_frozen BK248.out 0; have hfz70_1 := blk_frozen BK248.out 1) | (go_at_call 59; (with_reducible refine (R1_on.calls a2_0 a2_1 a3_0 a3_1 a0_0 a0_1 false _ A52.out).mono ?_); rintro e wz2 ⟨rfl, hb⟩; have n0_ := Aside0.mk (blk_below (g := gb248) (o := .cells #[.int .i64 a0_0, .int .i64 a0_1] 31 (0, 0)) (kX BK248.out) hb); have n1_ := Aside0.mk (blk_below (g := gb249) (o := .cells #[.int .i64 a1_0, .int .i64 a1_1] 31 (0, 0)) (kX BK249.out) hb); have n2_ := Aside0.mk (blk_below (g := gb250) (o := .cells #[.int .i64 a2_0, .int .i64 a2_1] 31 (0, 0)) (kX BK250.out) hb); have n3_ := Aside0.mk (blk_below (g := gb251) (o := .cells #[.int .i64 a3_0, .int .i64 a3_1] 31 (0, 0)) (kX BK251.out) hb); have n4_ := Aside0.mk (below_step lB hb); clear BK248; clear BK249; clear BK250; clear BK251; clear HB; have BK248 := n0_; have BK249 := n1_; have BK250 := n2_; have BK251 := n3_; have HB := n4_; clear n0_ n1_ n2_ n3_ n4_; (try clear hb); (try clear hb2); (try clear hk); (try clear hi); have hcz91_0 : wz2.cell? ⟨gb250, 0, none⟩ = some (.int .i64 a2_0) := (blk_cell BK250.out 0).trans rfl; have hcz91_1 : wz2.cell? ⟨gb250, 1, none⟩ = some (.int .i64 a2_1) := (blk_cell BK250.out 1).trans rfl; have hfz91_0 := blk_frozen BK250.out 0; have hfz91_1 := blk_frozen BK250.out 1; have hcz92_0 : wz2.cell? ⟨gb251, 0, none⟩ = some (.int .i64 a3_0) := (blk_cell BK251.out 0).trans rfl; have hcz92_1 : wz2.cell? ⟨gb251, 1, none⟩ = some (.int .i64 a3_1) := (blk_cell BK251.out 1).trans rfl; have hfz92_0 := blk_frozen BK251.out 0; have hfz92_1 := blk_frozen BK251.out 1; have hcz93_0 : wz2.cell? ⟨gb249, 0, none⟩ = some (.int .i64 a1_0) := (blk_cell BK249.out 0).trans rfl; have hcz93_1 : wz2.cell? ⟨gb249, 1, none⟩ = some (.int .i64 a1_1) := (blk_cell BK249.out 1).trans rfl; have hfz93_0 := blk_frozen BK249.out 0; have hfz93_1 := blk_frozen BK249.out 1) | (go_at_call 59; (with_reducible refine (R1_on.calls a2_0 a2_1 a3_0 a3_1 a1_0 a1_1 t259 _ A72.out).mono ?_); rintro e wz3 ⟨rfl, hb⟩; have n0_ := Aside0.mk (blk_below (g := gb248) (o := .cells #[.int .i64 a0_0, .int .i64 a0_1] 31 (0, 0)) (kX BK248.out) hb); have n1_ := Aside0.mk (blk_below (g := gb249) (o := .cells #[.int .i64 a1_0, .int .i64 a1_1] 31 (0, 0)) (kX BK249.out) hb); have n2_ := Aside0.mk (blk_below (g := gb250) (o := .cells #[.int .i64 a2_0, .int .i64 a2_1] 31 (0, 0)) (kX BK250.out) hb); have n3_ := Aside0.mk (blk_below (g := gb251) (o := .cells #[.int .i64 a3_0, .int .i64 a3_1] 31 (0, 0)) (kX BK251.out) hb); have n4_ := Aside0.mk (below_step lB hb); clear BK248; clear BK249; clear BK250; clear BK251; clear HB; have BK248 := n0_; have BK249 := n1_; have BK250 := n2_; have BK251 := n3_; have HB := n4_; clear n0_ n1_ n2_ n3_ n4_; (try clear hb); (try clear hb2); (try clear hk); (try clear hi)) | (go_at_call 59; (with_reducible refine (R1_on.calls a2_0 a2_1 a3_0 a3_1 a0_0 a0_1 true _ A52.out).mono ?_); rintro e wz2 ⟨rfl, hb⟩; have n0_ := Aside0.mk (blk_below (g := gb248) (o := .cells #[.int .i64 a0_0, .int .i64 a0_1] 31 (0, 0)) (kX BK248.out) hb); have n1_ := Aside0.mk (blk_below (g := gb249) (o := .cells #[.int .i64 a1_0, .int .i64 a1_1] 31 (0, 0)) (kX BK249.out) hb); have n2_ := Aside0.mk (blk_below (g := gb250) (o := .cells #[.int .i64 a2_0, .int .i64 a2_1] 31 (0, 0)) (kX BK250.out) hb); have n3_ := Aside0.mk (blk_below (g := gb251) (o := .cells #[.int .i64 a3_0, .int .i64 a3_1] 31 (0, 0)) (kX BK251.out) hb); have n4_ := Aside0.mk (below_step lB hb); clear BK248; clear BK249; clear BK250; clear BK251; clear HB; have BK248 := n0_; have BK249 := n1_; have BK250 := n2_; have BK251 := n3_; have HB := n4_; clear n0_ n1_ n2_ n3_ n4_; (try clear hb); (try clear hb2); (try clear hk); (try clear hi)) | (go_at_call 59; (with_reducible refine (R1_on.calls a0_0 a0_1 a1_0 a1_1 a3_0 a3_1 true _ A36.out).mono ?_); rintro e wz1 ⟨rfl, hb⟩; have n0_ := Aside0.mk (blk_below (g := gb248) (o := .cells #[.int .i64 a0_0, .int .i64 a0_1] 31 (0, 0)) (kX BK248.out) hb); have n1_ := Aside0.mk (blk_below (g := gb249) (o := .cells #[.int .i64 a1_0, .int .i64 a1_1] 31 (0, 0)) (kX BK249.out) hb); have n2_ := Aside0.mk (blk_below (g := gb250) (o := .cells #[.int .i64 a2_0, .int .i64 a2_1] 31 (0, 0)) (kX BK250.out) hb); have n3_ := Aside0.mk (blk_below (g := gb251) (o := .cells #[.int .i64 a3_0, .int .i64 a3_1] 31 (0, 0)) (kX BK251.out) hb); have n4_ := Aside0.mk (below_step lB hb); clear BK248; clear BK249; clear BK250; clear BK251; clear HB; have BK248 := n0_; have BK249 := n1_; have BK250 := n2_; have BK251 := n3_; have HB := n4_; clear n0_ n1_ n2_ n3_ n4_; (try clear hb); (try clear hb2); (try clear hk); (try clear hi)) | ((with_reducible refine gate_callee (f := 59) rfl ?_); refine goesL_ (some 34) rfl rfl Try.func59 (by kernel_rfl) rfl #[.agg #[.int .i64 a0_0, .int .i64 a0_1], .agg #[.int .i64 a1_0, .int .i64 a1_1], .agg #[.int .i64 a2_0, .int .i64 a2_1]] rfl (by (try simp only [List.map_toArray, List.map_cons, List.map_nil]); first | done | rfl | (simp only [List.length_drop, List.length_take]; rfl)) ?_; (with_reducible refine (R1_on.calls a0_0 a0_1 a1_0 a1_1 a2_0 a2_1 true _ A24.out).mono ?_); rintro e wz0 ⟨rfl, hb⟩; refine ⟨_, rfl, ?_⟩; have n0_ := Aside0.mk (blk_below (g := gb248) (o := .cells #[.int .i64 a0_0, .int .i64 a0_1] 31 (0, 0)) (kX BK248.out) hb); have n1_ := Aside0.mk (blk_below (g := gb249) (o := .cells #[.int .i64 a1_0, .int .i64 a1_1] 31 (0, 0)) (kX BK249.out) hb); have n2_ := Aside0.mk (blk_below (g := gb250) (o := .cells #[.int .i64 a2_0, .int .i64 a2_1] 31 (0, 0)) (kX BK250.out) hb); have n3_ := Aside0.mk (blk_below (g := gb251) (o := .cells #[.int .i64 a3_0, .int .i64 a3_1] 31 (0, 0)) (kX BK251.out) hb); have n4_ := Aside0.mk (below_step lB hb); clear BK248; clear BK249; clear BK250; clear BK251; clear HB; have BK248 := n0_; have BK249 := n1_; have BK250 := n2_; have BK251 := n3_; have HB := n4_; clear n0_ n1_ n2_ n3_ n4_; (try clear hb); (try clear hb2); (try clear hk); (try clear hi)))
   all_goals first
     | (go_ret
        exact en)


attribute [local go_sem high] eqA31
mutual
def R1_Simple.j0 : Nat → List (S31) → Int → Bool → Option (Bool)
 | 0, _, _, _ => none
 | k + 1, x0, x3, x21 => if x21 = true then (some false) else (R1_Simple.l0 k x0 x3 0)
def R1_Simple.l0 : Nat → List (S31) → Int → Int → Option (Bool)
 | 0, _, _, _ => none
 | k + 1, x0, x3, x4 => if x4 < x3 then (if 0 ≤ x4 then (if x4 < (x0.length : Int) then ((R1_next.f x4 x3).bind fun t262 => (if 0 ≤ t262 then (if t262 < (x0.length : Int) then (if (((rd_T31 x0 x4).f0) == ((rd_T31 x0 t262).f0) && (((rd_T31 x0 x4).f1) == ((rd_T31 x0 t262).f1))) = true then (some false) else (R1_Simple.l0 k x0 x3 (wrap64 (x4 + 1)))) else (none)) else (none))) else (none)) else (none)) else (R1_Simple.l1 k x0 x3 0)
def R1_Simple.l1 : Nat → List (S31) → Int → Int → Option (Bool)
 | 0, _, _, _ => none
 | k + 1, x0, x3, x5 => if x5 < x3 then ((R1_next.f x5 x3).bind fun t264 => ((R1_next.f t264 x3).bind fun t265 => (if 0 ≤ x5 then (if x5 < (x0.length : Int) then (if 0 ≤ t264 then (if t264 < (x0.length : Int) then (if 0 ≤ t265 then (if t265 < (x0.length : Int) then ((R1_Turn.f ((rd_T31 x0 x5).f0) ((rd_T31 x0 x5).f1) ((rd_T31 x0 t264).f0) ((rd_T31 x0 t264).f1) ((rd_T31 x0 t265).f0) ((rd_T31 x0 t265).f1)).bind fun t269 => (if t269 = 0 then ((R1_on.f ((rd_T31 x0 x5).f0) ((rd_T31 x0 x5).f1) ((rd_T31 x0 t264).f0) ((rd_T31 x0 t264).f1) ((rd_T31 x0 t265).f0) ((rd_T31 x0 t265).f1)).bind fun t273 => (if t273 = true then (R1_Simple.j3 k x0 x3 x5 t264 true) else ((R1_on.f ((rd_T31 x0 t264).f0) ((rd_T31 x0 t264).f1) ((rd_T31 x0 t265).f0) ((rd_T31 x0 t265).f1) ((rd_T31 x0 x5).f0) ((rd_T31 x0 x5).f1)).bind fun t277 => (R1_Simple.j3 k x0 x3 x5 t264 t277)))) else (R1_Simple.j3 k x0 x3 x5 t264 false))) else (none)) else (none)) else (none)) else (none)) else (none)) else (none)))) else (some true)
def R1_Simple.j3 : Nat → List (S31) → Int → Int → Int → Bool → Option (Bool)
 | 0, _, _, _, _, _ => none
 | k + 1, x0, x3, x5, x6, x92 => if x92 = true then (some false) else (R1_Simple.l2 k x0 x3 x5 x6 (wrap64 (x5 + 2)))
def R1_Simple.l2 : Nat → List (S31) → Int → Int → Int → Int → Option (Bool)
 | 0, _, _, _, _, _ => none
 | k + 1, x0, x3, x5, x6, x8 => if x8 < x3 then ((R1_next.f x8 x3).bind fun t278 => (if t278 = x5 then (R1_Simple.l2 k x0 x3 x5 x6 (wrap64 (x8 + 1))) else (if 0 ≤ x5 then (if x5 < (x0.length : Int) then (if 0 ≤ x6 then (if x6 < (x0.length : Int) then (if 0 ≤ x8 then (if x8 < (x0.length : Int) then ((R1_next.f x8 x3).bind fun t282 => (if 0 ≤ t282 then (if t282 < (x0.length : Int) then ((R1_meet.f k ((rd_T31 x0 x5).f0) ((rd_T31 x0 x5).f1) ((rd_T31 x0 x6).f0) ((rd_T31 x0 x6).f1) ((rd_T31 x0 x8).f0) ((rd_T31 x0 x8).f1) ((rd_T31 x0 t282).f0) ((rd_T31 x0 t282).f1)).bind fun t284 => (if t284 = true then (some false) else (R1_Simple.l2 k x0 x3 x5 x6 (wrap64 (x8 + 1))))) else (none)) else (none))) else (none)) else (none)) else (none)) else (none)) else (none)) else (none)))) else (R1_Simple.l1 k x0 x3 (wrap64 (x5 + 1)))
end
def R1_Simple.f (k : Nat) (l0 : List (S31)) : Option (Bool) := if (l0.length : Int) < 3 then (R1_Simple.j0 k l0 (l0.length : Int) true) else (if (l0.length : Int) > 512 then (R1_Simple.j0 k l0 (l0.length : Int) true) else ((R1_Valids.f k l0).bind fun t260 => (R1_Simple.j0 k l0 (l0.length : Int) (!t260))))
theorem R1_Simple.mono_l : ∀ k, (∀ y0 y1 y2, LeO (R1_Simple.j0 k y0 y1 y2) (R1_Simple.j0 (k + 1) y0 y1 y2)) ∧ (∀ y0 y1 y2, LeO (R1_Simple.l0 k y0 y1 y2) (R1_Simple.l0 (k + 1) y0 y1 y2)) ∧ (∀ y0 y1 y2, LeO (R1_Simple.l1 k y0 y1 y2) (R1_Simple.l1 (k + 1) y0 y1 y2)) ∧ (∀ y0 y1 y2 y3 y4, LeO (R1_Simple.j3 k y0 y1 y2 y3 y4) (R1_Simple.j3 (k + 1) y0 y1 y2 y3 y4)) ∧ (∀ y0 y1 y2 y3 y4, LeO (R1_Simple.l2 k y0 y1 y2 y3 y4) (R1_Simple.l2 (k + 1) y0 y1 y2 y3 y4))
 | 0 => ⟨fun _ _ _ r h => by simp [R1_Simple.j0] at h, fun _ _ _ r h => by simp [R1_Simple.l0] at h, fun _ _ _ r h => by simp [R1_Simple.l1] at h, fun _ _ _ _ _ r h => by simp [R1_Simple.j3] at h, fun _ _ _ _ _ r h => by simp [R1_Simple.l2] at h⟩
 | k + 1 => by
  obtain ⟨ih0, ih1, ih2, ih3, ih4⟩ := R1_Simple.mono_l k
  refine ⟨?_, ?_, ?_, ?_, ?_⟩
  ·intro y0 y1 y2
   unfold R1_Simple.j0
   repeat' first
   | (with_reducible exact ih0 _ _ _)
   | (with_reducible exact ih1 _ _ _)
   | (with_reducible exact ih2 _ _ _)
   | (with_reducible exact ih3 _ _ _ _ _)
   | (with_reducible exact ih4 _ _ _ _ _)
   | (with_reducible exact R1_Valids.mono _ _)
   | (with_reducible exact R1_meet.mono _ _ _ _ _ _ _ _ _)
   | (with_reducible first | exact LeO.refl _ | exact LeO.none _ | refine LeO.ite ?_ ?_ | refine LeO.bind ?_ (fun _ => ?_))
   | exact ih0 _ _ _
   | exact ih1 _ _ _
   | exact ih2 _ _ _
   | exact ih3 _ _ _ _ _
   | exact ih4 _ _ _ _ _
   | exact R1_Valids.mono _ _
   | exact R1_meet.mono _ _ _ _ _ _ _ _ _
   | exact LeO.none _ | refine LeO.ite ?_ ?_ | refine LeO.bind ?_ (fun _ => ?_)
  ·intro y0 y1 y2
   unfold R1_Simple.l0
   repeat' first
   | (with_reducible exact ih0 _ _ _)
   | (with_reducible exact ih1 _ _ _)
   | (with_reducible exact ih2 _ _ _)
   | (with_reducible exact ih3 _ _ _ _ _)
   | (with_reducible exact ih4 _ _ _ _ _)
   | (with_reducible exact R1_Valids.mono _ _)
   | (with_reducible exact R1_meet.mono _ _ _ _ _ _ _ _ _)
   | (with_reducible first | exact LeO.refl _ | exact LeO.none _ | refine LeO.ite ?_ ?_ | refine LeO.bind ?_ (fun _ => ?_))
   | exact ih0 _ _ _
   | exact ih1 _ _ _
   | exact ih2 _ _ _
   | exact ih3 _ _ _ _ _
   | exact ih4 _ _ _ _ _
   | exact R1_Valids.mono _ _
   | exact R1_meet.mono _ _ _ _ _ _ _ _ _
   | exact LeO.none _ | refine LeO.ite ?_ ?_ | refine LeO.bind ?_ (fun _ => ?_)
  ·intro y0 y1 y2
   unfold R1_Simple.l1
   repeat' first
   | (with_reducible exact ih0 _ _ _)
   | (with_reducible exact ih1 _ _ _)
   | (with_reducible exact ih2 _ _ _)
   | (with_reducible exact ih3 _ _ _ _ _)
   | (with_reducible exact ih4 _ _ _ _ _)
   | (with_reducible exact R1_Valids.mono _ _)
   | (with_reducible exact R1_meet.mono _ _ _ _ _ _ _ _ _)
   | (with_reducible first | exact LeO.refl _ | exact LeO.none _ | refine LeO.ite ?_ ?_ | refine LeO.bind ?_ (fun _ => ?_))
   | exact ih0 _ _ _
   | exact ih1 _ _ _
   | exact ih2 _ _ _
   | exact ih3 _ _ _ _ _
   | exact ih4 _ _ _ _ _
   | exact R1_Valids.mono _ _
   | exact R1_meet.mono _ _ _ _ _ _ _ _ _
   | exact LeO.none _ | refine LeO.ite ?_ ?_ | refine LeO.bind ?_ (fun _ => ?_)
  ·intro y0 y1 y2 y3 y4
   unfold R1_Simple.j3
   repeat' first
   | (with_reducible exact ih0 _ _ _)
   | (with_reducible exact ih1 _ _ _)
   | (with_reducible exact ih2 _ _ _)
   | (with_reducible exact ih3 _ _ _ _ _)
   | (with_reducible exact ih4 _ _ _ _ _)
   | (with_reducible exact R1_Valids.mono _ _)
   | (with_reducible exact R1_meet.mono _ _ _ _ _ _ _ _ _)
   | (with_reducible first | exact LeO.refl _ | exact LeO.none _ | refine LeO.ite ?_ ?_ | refine LeO.bind ?_ (fun _ => ?_))
   | exact ih0 _ _ _
   | exact ih1 _ _ _
   | exact ih2 _ _ _
   | exact ih3 _ _ _ _ _
   | exact ih4 _ _ _ _ _
   | exact R1_Valids.mono _ _
   | exact R1_meet.mono _ _ _ _ _ _ _ _ _
   | exact LeO.none _ | refine LeO.ite ?_ ?_ | refine LeO.bind ?_ (fun _ => ?_)
  ·intro y0 y1 y2 y3 y4
   unfold R1_Simple.l2
   repeat' first
   | (with_reducible exact ih0 _ _ _)
   | (with_reducible exact ih1 _ _ _)
   | (with_reducible exact ih2 _ _ _)
   | (with_reducible exact ih3 _ _ _ _ _)
   | (with_reducible exact ih4 _ _ _ _ _)
   | (with_reducible exact R1_Valids.mono _ _)
   | (with_reducible exact R1_meet.mono _ _ _ _ _ _ _ _ _)
   | (with_reducible first | exact LeO.refl _ | exact LeO.none _ | refine LeO.ite ?_ ?_ | refine LeO.bind ?_ (fun _ => ?_))
   | exact ih0 _ _ _
   | exact ih1 _ _ _
   | exact ih2 _ _ _
   | exact ih3 _ _ _ _ _
   | exact ih4 _ _ _ _ _
   | exact R1_Valids.mono _ _
   | exact R1_meet.mono _ _ _ _ _ _ _ _ _
   | exact LeO.none _ | refine LeO.ite ?_ ?_ | refine LeO.bind ?_ (fun _ => ?_)
theorem R1_Simple.mono : ∀ a0 k, LeO (R1_Simple.f k a0) (R1_Simple.f (k + 1) a0) := by
 intro a0 k
 obtain ⟨ih0, ih1, ih2, ih3, ih4⟩ := R1_Simple.mono_l k
 unfold R1_Simple.f
 repeat' first
   | (with_reducible exact ih0 _ _ _)
   | (with_reducible exact ih1 _ _ _)
   | (with_reducible exact ih2 _ _ _)
   | (with_reducible exact ih3 _ _ _ _ _)
   | (with_reducible exact ih4 _ _ _ _ _)
   | (with_reducible exact R1_Valids.mono _ _)
   | (with_reducible exact R1_meet.mono _ _ _ _ _ _ _ _ _)
   | (with_reducible first | exact LeO.refl _ | exact LeO.none _ | refine LeO.ite ?_ ?_ | refine LeO.bind ?_ (fun _ => ?_))
   | exact ih0 _ _ _
   | exact ih1 _ _ _
   | exact ih2 _ _ _
   | exact ih3 _ _ _ _ _
   | exact ih4 _ _ _ _ _
   | exact R1_Valids.mono _ _
   | exact R1_meet.mono _ _ _ _ _ _ _ _ _
   | exact LeO.none _ | refine LeO.ite ?_ ?_ | refine LeO.bind ?_ (fun _ => ?_)
def R1_Simple.T7 : Bool × List (List Nat × List Nat) := (true, [([], []), ([], []), ([0, 1], [0, 1]), ([2], [2]), ([], []), ([], []), ([], []), ([5, 6], [5, 6]), ([4, 7], [4, 7]), ([8], [8]), ([3, 9], [3, 9])])
def R1_Simple.B7 : List Nat := [0, 0, 3, 7, 0, 0, 0, 96, 240, 496, 1023]
theorem R1_Simple.tab7 : rtab .any (opsOf Try.f26 7) = R1_Simple.T7 := by kernel_rfl
theorem R1_Simple.bits7 : waitsOk R1_Simple.T7.2 R1_Simple.B7 = true := by kernel_rfl
def R1_Simple.T14 : Bool × List (List Nat × List Nat) := (true, [([], []), ([], []), ([0, 1], [0, 1]), ([2], [2]), ([], []), ([], []), ([4, 5], [4, 5]), ([6], [6]), ([], []), ([], []), ([8, 9], [8, 9]), ([10], [10]), ([3, 7, 11], [3, 7, 11]), ([12], [12]), ([13, 12], [13]), ([14], [14]), ([14], [14]), ([15, 16, 14], [14, 15, 16]), ([17, 14], [14, 17]), ([14], [14]), ([14], [14]), ([19, 20, 14], [14, 19, 20]), ([21, 14], [14, 21]), ([14], [14]), ([14], [14]), ([23, 24, 14], [14, 23, 24]), ([25, 14], [14, 25]), ([18, 22, 26, 14, 14], [14, 18, 22, 26]), ([27, 27, 14], [14, 27]), ([28], [28]), ([28], [28]), ([29, 30, 28], [28, 29, 30]), ([31, 28], [28, 31]), ([28], [28]), ([28], [28]), ([33, 34, 28], [28, 33, 34]), ([35, 28], [28, 35]), ([28], [28]), ([28], [28]), ([37, 38, 28], [28, 37, 38]), ([39, 28], [28, 39]), ([32, 36, 40, 28, 28], [28, 32, 36, 40]), ([28, 41, 14], [14, 28, 41]), ([14, 42], [14, 42])])
def R1_Simple.B14 : List Nat := [0, 0, 3, 7, 0, 0, 48, 112, 0, 0, 768, 1792, 4095, 8191, 16383, 32767, 32767, 131071, 262143, 32767, 32767, 1605631, 3702783, 32767, 32767, 25198591, 58753023, 134217727, 268435455, 536870911, 536870911, 2147483647, 4294967295, 536870911, 536870911, 26306674687, 60666413055, 536870911, 536870911, 412853731327, 962609545215, 2199023255551, 4398046511103, 8796093022207]
theorem R1_Simple.tab14 : rtab .any (opsOf Try.f26 14) = R1_Simple.T14 := by kernel_rfl
theorem R1_Simple.bits14 : waitsOk R1_Simple.T14.2 R1_Simple.B14 = true := by kernel_rfl
def R1_Simple.T19 : Bool × List (List Nat × List Nat) := (true, [([], []), ([], []), ([0, 1], [0, 1]), ([], []), ([2, 3], [2, 3]), ([4, 2], [4]), ([5], [5]), ([5], [5]), ([6, 7, 5], [5, 6, 7]), ([8, 5], [5, 8]), ([5], [5]), ([5], [5]), ([10, 11, 5], [5, 10, 11]), ([12, 5], [5, 12]), ([5], [5]), ([5], [5]), ([14, 15, 5], [5, 14, 15]), ([16, 5], [5, 16]), ([5], [5]), ([5], [5]), ([5], [5]), ([19, 20, 5, 5], [5, 19, 20]), ([18, 21, 5], [5, 18, 21]), ([22, 5], [5, 22]), ([9, 13, 17, 23, 21, 5], [5, 9, 13, 17, 23]), ([5, 24], [5, 24])])
def R1_Simple.B19 : List Nat := [0, 0, 3, 0, 15, 31, 63, 63, 255, 511, 63, 63, 3135, 7231, 63, 63, 49215, 114751, 63, 63, 63, 1572927, 3932223, 8126527, 16777215, 33554431]
theorem R1_Simple.tab19 : rtab .any (opsOf Try.f26 19) = R1_Simple.T19 := by kernel_rfl
theorem R1_Simple.bits19 : waitsOk R1_Simple.T19.2 R1_Simple.B19 = true := by kernel_rfl
set_option maxHeartbeats 8000000 in
set_option maxRecDepth 100000 in
theorem R1_Simple.calls (k : Nat) (A0 : Option Addr) (c0 : Nat) (l0 : List (S31)) (r : Bool) (w : World) (hr0 : Kd.C k31 w A0 l0.length l0) (hc0 : l0.length ≤ c0) (h : R1_Simple.f k l0 = some r) :
  Calls Try.prog 26 #[.slice A0 l0.length c0] w fun e w' => e = .returned (.bool r) ∧ Below w.heap.size w w' := by
 have hu31 := Try.underlying31
 have HR0 := Aside0.mk hr0
 have HC0 := Aside0.mk hc0
 clear hr0 hc0
 have HB := Aside0.mk (Below.refl w.heap.size w)
 have H : (if (l0.length : Int) < 3 then (R1_Simple.j0 k l0 (l0.length : Int) true) else (if (l0.length : Int) > 512 then (R1_Simple.j0 k l0 (l0.length : Int) true) else ((R1_Valids.f k l0).bind fun t260 => (R1_Simple.j0 k l0 (l0.length : Int) (!t260))))) = some r := h
 clear h
 have HC2 := Aside0.mk H
 clear H
 go_enter Try.func26, Try.ntmps26
 go_upto_region 2 with (fail)
 go_cut [21] (fun v21 wc => ∃ (kq : Nat) (x21_1 : Bool), v21 = .bool x21_1 ∧ Aside0 (R1_Simple.j0 kq l0 (l0.length : Int) x21_1 = some r) ∧ Aside0 (kq ≤ k) ∧ Aside0 (Below w.heap.size w wc))
 case first =>
  have H := HC2.out
  clear HC2
  by_cases c3 : (l0.length : Int) < 3
  ·rw [if_pos c3] at H
   have c3b0 : decide ((l0.length : Int) < 3) = true := decide_eq_true c3
   have c3b1 : decide (l0.length < 3) = true := decide_eq_true (by omega)
   clear c3
   (first | rw [c3b0] | (simp only [i64_w, i32_w]; rw [c3b0]) | skip)
   have H' := Aside0.mk H
   clear H
   go_wp2
   go_meet
   case rel => exact ⟨_, (true), (by first | rfl | (simp; done) | (simp [*]; done)), H', ⟨by first | omega | exact Nat.le_refl _⟩, ⟨by repeat (first | (with_reducible first | exact HB.out | apply lA | apply lN | apply lD) | exact HB.out)⟩⟩
  rw [if_neg c3] at H
  have c3b0 : decide ((l0.length : Int) < 3) = false := decide_eq_false c3
  have c3b1 : decide (l0.length < 3) = false := decide_eq_false (by omega)
  clear c3
  (first | rw [c3b0] | (simp only [i64_w, i32_w]; rw [c3b0]) | skip)
  by_cases c4 : (l0.length : Int) > 512
  ·rw [if_pos c4] at H
   have c4b0 : decide (512 < (l0.length : Int)) = true := decide_eq_true c4
   have c4b1 : decide (512 < l0.length) = true := decide_eq_true (by omega)
   clear c4
   have H' := Aside0.mk H
   clear H
   go_wp2
   go_meet
   case rel => exact ⟨_, (true), (by first | rfl | (simp; done) | (simp [*]; done)), H', ⟨by first | omega | exact Nat.le_refl _⟩, ⟨by repeat (first | (with_reducible first | exact HB.out | apply lA | apply lN | apply lD) | exact HB.out)⟩⟩
  rw [if_neg c4] at H
  have c4b0 : decide (512 < (l0.length : Int)) = false := decide_eq_false c4
  have c4b1 : decide (512 < l0.length) = false := decide_eq_false (by omega)
  clear c4
  replace H := Option.bind_eq_some_iff.mp H
  obtain ⟨t260, A50, H⟩ := H
  replace H : (R1_Simple.j0 k l0 (l0.length : Int) (!t260)) = some r := H
  have A5 := Aside0.mk A50
  clear A50
  have H' := Aside0.mk H
  clear H
  go_wp2_with (first | (go_at_call 22; (with_reducible refine (R1_Valids.calls k _ _ l0 t260 _ ?side1 ?side2 A5.out).mono ?_); (case side1 => repeat (first | exact (Kd.C_below HR0.out HB.out) | (with_reducible refine Kd.C_alloc ?_ _) | (with_reducible refine Kd.C_drewN ?_ _) | (with_reducible refine Kd.C_drew ?_))); (case side2 => exact HC0.out); rintro e w6 ⟨rfl, hb⟩; have n0_ := Aside0.mk (below_step lB hb); clear HB; have HB := n0_; clear n0_; (try clear hb); (try clear hb2); (try clear hk); (try clear hi)))
  go_meet
  case rel => exact ⟨_, (!t260), (by first | rfl | (simp; done) | (simp [*]; done)), H', ⟨by first | omega | exact Nat.le_refl _⟩, ⟨by repeat (first | (with_reducible first | exact HB.out | apply lA | apply lN | apply lD) | exact HB.out)⟩⟩
 case rest =>
  clear HC2
  try clear c2
  try clear p2
  try clear c3
  try clear c3b0
  try clear c3b1
  try clear c4
  try clear c4b0
  try clear c4b1
  obtain ⟨kq, x21_1, rfl, HA, HJ1, HB⟩ := hcut
  cases kq with
  | zero => exact absurd HA.out (by simp [R1_Simple.j0])
  | succ kj1 =>
   have H := HA.out
   clear HA
   simp only [R1_Simple.j0] at H
   by_cases c7 : x21_1 = true
   ·subst c7
    have H1 : (some false) = some r := by rw [if_pos rfl] at H; exact H
    clear H
    have H := H1
    clear H1
    obtain rfl := Option.some.inj H
    go_wp2
    go_ret
    exact en
   replace c7 := Bool.eq_false_iff.mpr c7
   subst c7
   have H1 : (R1_Simple.l0 kj1 l0 (l0.length : Int) 0) = some r := by rw [if_neg (show ¬ (false = true) by decide)] at H; exact H
   clear H
   have H := H1
   clear H1
   have H' := Aside0.mk H
   clear H
   go_wp2
   go_loopg [4] kj1 (fun kq v4 w' => ∃ (x4_2 : Int), v4 = .int .i64 x4_2 ∧ Aside0 (R1_Simple.l0 kq l0 (l0.length : Int) x4_2 = some r) ∧ Aside0 (kq ≤ kj1) ∧ Aside0 (Below w.heap.size w w'))
   case atStart => exact ⟨(0), (by first | rfl | (simp; done) | (simp [*]; done)), H', ⟨Nat.le_refl _⟩, ⟨by repeat (first | (with_reducible first | exact HB.out | apply lA | apply lN | apply lD) | exact HB.out)⟩⟩
   case round =>
    clear H'
    try clear c2
    try clear p2
    try clear c3
    try clear c3b0
    try clear c3b1
    try clear c4
    try clear c4b0
    try clear c4b1
    try clear c7
    try clear p2
    obtain ⟨x4_2, rfl, HA, HK2, HB⟩ := hrel
    cases gk with
    | zero => exact absurd HA.out (by simp [R1_Simple.l0])
    | succ k2 =>
     have H := HA.out
     clear HA
     simp only [R1_Simple.l0] at H
     by_cases c8 : x4_2 < (l0.length : Int)
     ·rw [if_pos c8] at H
      have c8b0 : decide (x4_2 < (l0.length : Int)) = true := decide_eq_true c8
      clear c8
      by_cases c9 : 0 ≤ x4_2
      rotate_left
      ·rw [if_neg c9] at H; exact absurd H (by simp)
      rw [if_pos c9] at H
      have c9b0 : decide (0 ≤ x4_2) = true := decide_eq_true c9
      clear c9
      by_cases c10 : x4_2 < (l0.length : Int)
      rotate_left
      ·rw [if_neg c10] at H; exact absurd H (by simp)
      rw [if_pos c10] at H
      have c10b0 : decide (x4_2 < (l0.length : Int)) = true := decide_eq_true c10
      clear c10
      replace H := Option.bind_eq_some_iff.mp H
      obtain ⟨t262, A110, H⟩ := H
      replace H : (if 0 ≤ t262 then (if t262 < (l0.length : Int) then (if (((rd_T31 l0 x4_2).f0) == ((rd_T31 l0 t262).f0) && (((rd_T31 l0 x4_2).f1) == ((rd_T31 l0 t262).f1))) = true then (some false) else (R1_Simple.l0 k2 l0 (l0.length : Int) (wrap64 (x4_2 + 1)))) else (none)) else (none)) = some r := H
      have A11 := Aside0.mk A110
      clear A110
      by_cases c12 : 0 ≤ t262
      rotate_left
      ·rw [if_neg c12] at H; exact absurd H (by simp)
      rw [if_pos c12] at H
      have c12b0 : decide (0 ≤ t262) = true := decide_eq_true c12
      clear c12
      by_cases c13 : t262 < (l0.length : Int)
      rotate_left
      ·rw [if_neg c13] at H; exact absurd H (by simp)
      rw [if_pos c13] at H
      have c13b0 : decide (t262 < (l0.length : Int)) = true := decide_eq_true c13
      clear c13
      by_cases c14 : (((rd_T31 l0 x4_2).f0) == ((rd_T31 l0 t262).f0) && (((rd_T31 l0 x4_2).f1) == ((rd_T31 l0 t262).f1))) = true
      ·rw [if_pos c14] at H
       have c14b0 : (((rd_T31 l0 x4_2).f0) == ((rd_T31 l0 t262).f0) && (((rd_T31 l0 x4_2).f1) == ((rd_T31 l0 t262).f1))) = true := c14
       (try (have c14b1 : decide (((rd_T31 l0 x4_2).f0) = ((rd_T31 l0 t262).f0) && (((rd_T31 l0 x4_2).f1) == ((rd_T31 l0 t262).f1))) = true := by simpa using c14))
       (try (have c14b2 : (((rd_T31 l0 x4_2).f0) == ((rd_T31 l0 t262).f0) && (((rd_T31 l0 x4_2).f1) == ((rd_T31 l0 t262).f1))) = true := by simpa using c14))
       clear c14
       obtain rfl := Option.some.inj H
       try go_wp2
       replace HB := Aside0.mk (lD HB.out)
       have p261 : 0 ≤ (x4_2 : Int) := of_decide_eq_true (by first | (with_reducible assumption) | assumption)
       have q261 : x4_2 < (l0.length : Int) := of_decide_eq_true (by first | (with_reducible assumption) | assumption)
       obtain ⟨ad261, e261, hx261_0, hx261_1⟩ := at_T31 HR0.out x4_2 p261 q261
       have hw261_1 := hx261_1
       have hw261_0 := hx261_0
       cases e261
       replace hx261_0 := cB HB.out hx261_0
       replace hx261_1 := cB HB.out hx261_1
       replace p261 := eq_true p261
       replace q261 := eq_true q261
       have p263 : 0 ≤ (t262 : Int) := of_decide_eq_true (by first | (with_reducible assumption) | assumption)
       have q263 : t262 < (l0.length : Int) := of_decide_eq_true (by first | (with_reducible assumption) | assumption)
       obtain ⟨ad263, e263, hx263_0, hx263_1⟩ := at_T31 HR0.out t262 p263 q263
       have hw263_1 := hx263_1
       have hw263_0 := hx263_0
       obtain rfl : ad261 = ad263 := (by injection e263)
       replace hx263_0 := cB HB.out hx263_0
       replace hx263_1 := cB HB.out hx263_1
       replace p263 := eq_true p263
       replace q263 := eq_true q263
       refine start_ (n := 11) (S := fun w' => w'.cell? (ad261.add ((x4_2).toNat * 2)) = some (.int .i64 ((rd_T31 l0 x4_2).f0)) ∧ w'.cell? ⟨(ad261.add ((x4_2).toNat * 2)).block, (ad261.add ((x4_2).toNat * 2)).off + 1, none⟩ = some (.int .i64 ((rd_T31 l0 x4_2).f1)) ∧ w'.cell? (ad261.add ((t262).toNat * 2)) = some (.int .i64 ((rd_T31 l0 t262).f0)) ∧ w'.cell? ⟨(ad261.add ((t262).toNat * 2)).block, (ad261.add ((t262).toNat * 2)).off + 1, none⟩ = some (.int .i64 ((rd_T31 l0 t262).f1))) (ds := []) (Bs 0 11) (by kernel_rfl) rfl rfl ⟨(cB HB.out hw261_0), (cB HB.out hw261_1), (cB HB.out hw263_0), (cB HB.out hw263_1)⟩ (fun hHeld => ?_); refine with_tabW R1_Simple.tab7 R1_Simple.bits7 (fun HT_ HW_ => ?_)
       generalize wr.drew = w15 at HB hx261_0 hx261_1 hx263_0 hx263_1 hHeld ⊢
       refine pu 0 27 (Bs 1 11) HT_ ?_
       refine pu 1 28 (Bs 2 11) HT_ ?_
       refine pu 2 29 (Bs 3 11) HT_ ?_
       refine pu 4 31 (Br [3,1,1,6]) HT_ ?_
       refine pu 5 32 (Br [3,1,2,5]) HT_ ?_
       refine pu 6 33 (Br [3,1,3,4]) HT_ ?_
       refine ta 3 30 (Bs 7 11) HT_ HW_ hHeld ?_
       refine one_ (i := 7) (N := some 34) (Bs 8 11) rfl rfl (one_of HT_.out (by kernel_rfl)) (by decide) (fun K hK => ?_)
       refine goes_ Try.func54 (by kernel_rfl) rfl #[.int .i64 x4_2, .int .i64 (l0.length : Int)] (by rfl) rfl rfl (by (try simp only [List.map_toArray, List.map_cons, List.map_nil]); first | done | rfl | (simp only [List.length_drop, List.length_take]; rfl)) ?_
       with_reducible refine (R1_next.calls x4_2 (l0.length : Int) t262 _ A11.out).mono ?_
       rintro e w' ⟨rfl, ⟨nd, rfl⟩⟩
       refine ⟨_, rfl, ?_⟩
       refine hK.out _ _ ⟨(cB HB.out hw261_0), (cB HB.out hw261_1), (cB HB.out hw263_0), (cB HB.out hw263_1)⟩ (fun hHeld => ?_)
       clear hK K
       refine nm 34 ?_
       refine pu 8 35 (Bs 9 11) HT_ ?_
       refine ta 9 36 (Bs 10 11) HT_ HW_ hHeld ?_
       refine pu 10 37 (Bs 11 11) HT_ ?_
       refine done_ (done_of HT_.out (by kernel_rfl)) ?_
       try go_wp2
       go_ret
       exact en
      rw [if_neg c14] at H
      have c14b0 : (((rd_T31 l0 x4_2).f0) == ((rd_T31 l0 t262).f0) && (((rd_T31 l0 x4_2).f1) == ((rd_T31 l0 t262).f1))) = false := by simpa using c14
      (try (have c14b1 : decide (((rd_T31 l0 x4_2).f0) = ((rd_T31 l0 t262).f0) && (((rd_T31 l0 x4_2).f1) == ((rd_T31 l0 t262).f1))) = false := by simpa using c14))
      (try (have c14b2 : (((rd_T31 l0 x4_2).f0) == ((rd_T31 l0 t262).f0) && (((rd_T31 l0 x4_2).f1) == ((rd_T31 l0 t262).f1))) = false := by simpa using c14))
      (try (have c14b3 : ¬ (((rd_T31 l0 x4_2).f0) = ((rd_T31 l0 t262).f0) && (((rd_T31 l0 x4_2).f1) == ((rd_T31 l0 t262).f1))) := by simpa using c14))
      clear c14
      have H' := Aside0.mk H
      clear H
      try go_wp2
      replace HB := Aside0.mk (lD HB.out)
      have p261 : 0 ≤ (x4_2 : Int) := of_decide_eq_true (by first | (with_reducible assumption) | assumption)
      have q261 : x4_2 < (l0.length : Int) := of_decide_eq_true (by first | (with_reducible assumption) | assumption)
      obtain ⟨ad261, e261, hx261_0, hx261_1⟩ := at_T31 HR0.out x4_2 p261 q261
      have hw261_1 := hx261_1
      have hw261_0 := hx261_0
      cases e261
      replace hx261_0 := cB HB.out hx261_0
      replace hx261_1 := cB HB.out hx261_1
      replace p261 := eq_true p261
      replace q261 := eq_true q261
      have p263 : 0 ≤ (t262 : Int) := of_decide_eq_true (by first | (with_reducible assumption) | assumption)
      have q263 : t262 < (l0.length : Int) := of_decide_eq_true (by first | (with_reducible assumption) | assumption)
      obtain ⟨ad263, e263, hx263_0, hx263_1⟩ := at_T31 HR0.out t262 p263 q263
      have hw263_1 := hx263_1
      have hw263_0 := hx263_0
      obtain rfl : ad261 = ad263 := (by injection e263)
      replace hx263_0 := cB HB.out hx263_0
      replace hx263_1 := cB HB.out hx263_1
      replace p263 := eq_true p263
      replace q263 := eq_true q263
      refine start_ (n := 11) (S := fun w' => w'.cell? (ad261.add ((x4_2).toNat * 2)) = some (.int .i64 ((rd_T31 l0 x4_2).f0)) ∧ w'.cell? ⟨(ad261.add ((x4_2).toNat * 2)).block, (ad261.add ((x4_2).toNat * 2)).off + 1, none⟩ = some (.int .i64 ((rd_T31 l0 x4_2).f1)) ∧ w'.cell? (ad261.add ((t262).toNat * 2)) = some (.int .i64 ((rd_T31 l0 t262).f0)) ∧ w'.cell? ⟨(ad261.add ((t262).toNat * 2)).block, (ad261.add ((t262).toNat * 2)).off + 1, none⟩ = some (.int .i64 ((rd_T31 l0 t262).f1))) (ds := []) (Bs 0 11) (by kernel_rfl) rfl rfl ⟨(cB HB.out hw261_0), (cB HB.out hw261_1), (cB HB.out hw263_0), (cB HB.out hw263_1)⟩ (fun hHeld => ?_); refine with_tabW R1_Simple.tab7 R1_Simple.bits7 (fun HT_ HW_ => ?_)
      generalize wr.drew = w16 at HB hx261_0 hx261_1 hx263_0 hx263_1 hHeld ⊢
      refine pu 0 27 (Bs 1 11) HT_ ?_
      refine pu 1 28 (Bs 2 11) HT_ ?_
      refine pu 2 29 (Bs 3 11) HT_ ?_
      refine pu 4 31 (Br [3,1,1,6]) HT_ ?_
      refine pu 5 32 (Br [3,1,2,5]) HT_ ?_
      refine pu 6 33 (Br [3,1,3,4]) HT_ ?_
      refine ta 3 30 (Bs 7 11) HT_ HW_ hHeld ?_
      refine one_ (i := 7) (N := some 34) (Bs 8 11) rfl rfl (one_of HT_.out (by kernel_rfl)) (by decide) (fun K hK => ?_)
      refine goes_ Try.func54 (by kernel_rfl) rfl #[.int .i64 x4_2, .int .i64 (l0.length : Int)] (by rfl) rfl rfl (by (try simp only [List.map_toArray, List.map_cons, List.map_nil]); first | done | rfl | (simp only [List.length_drop, List.length_take]; rfl)) ?_
      with_reducible refine (R1_next.calls x4_2 (l0.length : Int) t262 _ A11.out).mono ?_
      rintro e w' ⟨rfl, ⟨nd, rfl⟩⟩
      refine ⟨_, rfl, ?_⟩
      refine hK.out _ _ ⟨(cB HB.out hw261_0), (cB HB.out hw261_1), (cB HB.out hw263_0), (cB HB.out hw263_1)⟩ (fun hHeld => ?_)
      clear hK K
      refine nm 34 ?_
      refine pu 8 35 (Bs 9 11) HT_ ?_
      refine ta 9 36 (Bs 10 11) HT_ HW_ hHeld ?_
      refine pu 10 37 (Bs 11 11) HT_ ?_
      refine done_ (done_of HT_.out (by kernel_rfl)) ?_
      try go_wp2
      go_roundg k2
      case measure => have := HJ1.out; have := HK2.out; omega
      case rel => exact ⟨(wrap64 (x4_2 + 1)), (by first | rfl | (simp; done) | (simp [*]; done)), H', ⟨by have := HJ1.out; have := HK2.out; omega⟩, ⟨by repeat (first | (with_reducible first | exact HB.out | apply lA | apply lN | apply lD) | exact HB.out)⟩⟩
     rw [if_neg c8] at H
     have c8b0 : decide (x4_2 < (l0.length : Int)) = false := decide_eq_false c8
     clear c8
     have H' := Aside0.mk H
     clear H
     go_wp2
     go_loopg [5] k2 (fun kq v5 w' => ∃ (x5_3 : Int), v5 = .int .i64 x5_3 ∧ Aside0 (R1_Simple.l1 kq l0 (l0.length : Int) x5_3 = some r) ∧ Aside0 (kq ≤ k2) ∧ Aside0 (Below w.heap.size w w'))
     case atStart => exact ⟨(0), (by first | rfl | (simp; done) | (simp [*]; done)), H', ⟨Nat.le_refl _⟩, ⟨by repeat (first | (with_reducible first | exact HB.out | apply lA | apply lN | apply lD) | exact HB.out)⟩⟩
     case round =>
      clear H'
      try clear c1
      try clear c2
      try clear p2
      try clear q2
      try clear hx2
      try clear c3
      try clear c3b0
      try clear c3b1
      try clear c4
      try clear c4b0
      try clear c4b1
      try clear c5
      try clear p6
      try clear c7
      try clear c8
      try clear c8b0
      try clear c9
      try clear c9b0
      try clear c10
      try clear c10b0
      try clear c12
      try clear c12b0
      try clear c13
      try clear c13b0
      try clear c14
      try clear c14b0
      try clear c14b1
      try clear c14b2
      try clear hx261_0
      try clear hx261_1
      try clear hx263_0
      try clear hx263_1
      try clear p2
      try clear p261
      try clear p263
      try clear q261
      try clear q263
      obtain ⟨x5_3, rfl, HA, HK3, HB⟩ := hrel
      cases gk with
      | zero => exact absurd HA.out (by simp [R1_Simple.l1])
      | succ k3 =>
       have H := HA.out
       clear HA
       simp only [R1_Simple.l1] at H
       by_cases c17 : x5_3 < (l0.length : Int)
       rotate_left
       ·rw [if_neg c17] at H
        have c17b0 : decide (x5_3 < (l0.length : Int)) = false := decide_eq_false c17
        clear c17
        obtain rfl := Option.some.inj H
        go_wp2
        go_ret
        exact en
       rw [if_pos c17] at H
       have c17b0 : decide (x5_3 < (l0.length : Int)) = true := decide_eq_true c17
       clear c17
       replace H := Option.bind_eq_some_iff.mp H
       obtain ⟨t264, A180, H⟩ := H
       replace H : ((R1_next.f t264 (l0.length : Int)).bind fun t265 => (if 0 ≤ x5_3 then (if x5_3 < (l0.length : Int) then (if 0 ≤ t264 then (if t264 < (l0.length : Int) then (if 0 ≤ t265 then (if t265 < (l0.length : Int) then ((R1_Turn.f ((rd_T31 l0 x5_3).f0) ((rd_T31 l0 x5_3).f1) ((rd_T31 l0 t264).f0) ((rd_T31 l0 t264).f1) ((rd_T31 l0 t265).f0) ((rd_T31 l0 t265).f1)).bind fun t269 => (if t269 = 0 then ((R1_on.f ((rd_T31 l0 x5_3).f0) ((rd_T31 l0 x5_3).f1) ((rd_T31 l0 t264).f0) ((rd_T31 l0 t264).f1) ((rd_T31 l0 t265).f0) ((rd_T31 l0 t265).f1)).bind fun t273 => (if t273 = true then (R1_Simple.j3 k3 l0 (l0.length : Int) x5_3 t264 true) else ((R1_on.f ((rd_T31 l0 t264).f0) ((rd_T31 l0 t264).f1) ((rd_T31 l0 t265).f0) ((rd_T31 l0 t265).f1) ((rd_T31 l0 x5_3).f0) ((rd_T31 l0 x5_3).f1)).bind fun t277 => (R1_Simple.j3 k3 l0 (l0.length : Int) x5_3 t264 t277)))) else (R1_Simple.j3 k3 l0 (l0.length : Int) x5_3 t264 false))) else (none)) else (none)) else (none)) else (none)) else (none)) else (none))) = some r := H
       have A18 := Aside0.mk A180
       clear A180
       replace H := Option.bind_eq_some_iff.mp H
       obtain ⟨t265, A190, H⟩ := H
       replace H : (if 0 ≤ x5_3 then (if x5_3 < (l0.length : Int) then (if 0 ≤ t264 then (if t264 < (l0.length : Int) then (if 0 ≤ t265 then (if t265 < (l0.length : Int) then ((R1_Turn.f ((rd_T31 l0 x5_3).f0) ((rd_T31 l0 x5_3).f1) ((rd_T31 l0 t264).f0) ((rd_T31 l0 t264).f1) ((rd_T31 l0 t265).f0) ((rd_T31 l0 t265).f1)).bind fun t269 => (if t269 = 0 then ((R1_on.f ((rd_T31 l0 x5_3).f0) ((rd_T31 l0 x5_3).f1) ((rd_T31 l0 t264).f0) ((rd_T31 l0 t264).f1) ((rd_T31 l0 t265).f0) ((rd_T31 l0 t265).f1)).bind fun t273 => (if t273 = true then (R1_Simple.j3 k3 l0 (l0.length : Int) x5_3 t264 true) else ((R1_on.f ((rd_T31 l0 t264).f0) ((rd_T31 l0 t264).f1) ((rd_T31 l0 t265).f0) ((rd_T31 l0 t265).f1) ((rd_T31 l0 x5_3).f0) ((rd_T31 l0 x5_3).f1)).bind fun t277 => (R1_Simple.j3 k3 l0 (l0.length : Int) x5_3 t264 t277)))) else (R1_Simple.j3 k3 l0 (l0.length : Int) x5_3 t264 false))) else (none)) else (none)) else (none)) else (none)) else (none)) else (none)) = some r := H
       have A19 := Aside0.mk A190
       clear A190
       have HC20 := Aside0.mk H
       clear H
       go_upto_region 14 with (first | ((with_reducible refine gate_callee (f := 54) rfl ?_); refine goesL_ (some 45) rfl rfl Try.func54 (by kernel_rfl) rfl #[.int .i64 x5_3, .int .i64 (l0.length : Int)] rfl (by (try simp only [List.map_toArray, List.map_cons, List.map_nil]); first | done | rfl | (simp only [List.length_drop, List.length_take]; rfl)) ?_; (with_reducible refine (R1_next.calls x5_3 (l0.length : Int) t264 _ A18.out).mono ?_); rintro e w' ⟨rfl, ⟨ndA, rfl⟩⟩; refine ⟨_, rfl, ?_⟩) | ((with_reducible refine gate_callee (f := 54) rfl ?_); refine goesL_ (some 48) rfl rfl Try.func54 (by kernel_rfl) rfl #[.int .i64 t264, .int .i64 (l0.length : Int)] rfl (by (try simp only [List.map_toArray, List.map_cons, List.map_nil]); first | done | rfl | (simp only [List.length_drop, List.length_take]; rfl)) ?_; (with_reducible refine (R1_next.calls t264 (l0.length : Int) t265 _ A19.out).mono ?_); rintro e w' ⟨rfl, ⟨ndB, rfl⟩⟩; refine ⟨_, rfl, ?_⟩))
       (try simp only [Act.put, sA, sB, sC])
       go_cut [92] (fun v92 wc => ∃ (kq : Nat) (x92_19 : Bool), v92 = .bool x92_19 ∧ Aside0 (R1_Simple.j3 kq l0 (l0.length : Int) x5_3 t264 x92_19 = some r) ∧ Aside0 (kq ≤ k3) ∧ Aside0 (Below w.heap.size w wc))
       case first =>
        have H := HC20.out
        clear HC20
        by_cases c21 : 0 ≤ x5_3
        rotate_left
        ·rw [if_neg c21] at H; exact absurd H (by simp)
        rw [if_pos c21] at H
        have c21b0 : decide (0 ≤ x5_3) = true := decide_eq_true c21
        clear c21
        (first | rw [c21b0] | (simp only [i64_w, i32_w]; rw [c21b0]) | skip)
        by_cases c22 : x5_3 < (l0.length : Int)
        rotate_left
        ·rw [if_neg c22] at H; exact absurd H (by simp)
        rw [if_pos c22] at H
        have c22b0 : decide (x5_3 < (l0.length : Int)) = true := decide_eq_true c22
        clear c22
        by_cases c23 : 0 ≤ t264
        rotate_left
        ·rw [if_neg c23] at H; exact absurd H (by simp)
        rw [if_pos c23] at H
        have c23b0 : decide (0 ≤ t264) = true := decide_eq_true c23
        clear c23
        by_cases c24 : t264 < (l0.length : Int)
        rotate_left
        ·rw [if_neg c24] at H; exact absurd H (by simp)
        rw [if_pos c24] at H
        have c24b0 : decide (t264 < (l0.length : Int)) = true := decide_eq_true c24
        clear c24
        by_cases c25 : 0 ≤ t265
        rotate_left
        ·rw [if_neg c25] at H; exact absurd H (by simp)
        rw [if_pos c25] at H
        have c25b0 : decide (0 ≤ t265) = true := decide_eq_true c25
        clear c25
        by_cases c26 : t265 < (l0.length : Int)
        rotate_left
        ·rw [if_neg c26] at H; exact absurd H (by simp)
        rw [if_pos c26] at H
        have c26b0 : decide (t265 < (l0.length : Int)) = true := decide_eq_true c26
        clear c26
        replace H := Option.bind_eq_some_iff.mp H
        obtain ⟨t269, A270, H⟩ := H
        replace H : (if t269 = 0 then ((R1_on.f ((rd_T31 l0 x5_3).f0) ((rd_T31 l0 x5_3).f1) ((rd_T31 l0 t264).f0) ((rd_T31 l0 t264).f1) ((rd_T31 l0 t265).f0) ((rd_T31 l0 t265).f1)).bind fun t273 => (if t273 = true then (R1_Simple.j3 k3 l0 (l0.length : Int) x5_3 t264 true) else ((R1_on.f ((rd_T31 l0 t264).f0) ((rd_T31 l0 t264).f1) ((rd_T31 l0 t265).f0) ((rd_T31 l0 t265).f1) ((rd_T31 l0 x5_3).f0) ((rd_T31 l0 x5_3).f1)).bind fun t277 => (R1_Simple.j3 k3 l0 (l0.length : Int) x5_3 t264 t277)))) else (R1_Simple.j3 k3 l0 (l0.length : Int) x5_3 t264 false)) = some r := H
        have A27 := Aside0.mk A270
        clear A270
        by_cases c28 : t269 = 0
        rotate_left
        ·rw [if_neg c28] at H
         have c28b0 : (t269 == 0) = false := beq_eq_false_iff_ne.mpr c28
         have c28b1 : (t269 != 0) = true := bne_iff_ne.mpr c28
         have H' := Aside0.mk H
         clear H
         try go_wp2
         replace HB := Aside0.mk (lD HB.out)
         have p266 : 0 ≤ (x5_3 : Int) := of_decide_eq_true (by first | (with_reducible assumption) | assumption)
         have q266 : x5_3 < (l0.length : Int) := of_decide_eq_true (by first | (with_reducible assumption) | assumption)
         obtain ⟨ad266, e266, hx266_0, hx266_1⟩ := at_T31 HR0.out x5_3 p266 q266
         have hw266_1 := hx266_1
         have hw266_0 := hx266_0
         cases e266
         replace hx266_0 := cB HB.out hx266_0
         replace hx266_1 := cB HB.out hx266_1
         replace p266 := eq_true p266
         replace q266 := eq_true q266
         have p267 : 0 ≤ (t264 : Int) := of_decide_eq_true (by first | (with_reducible assumption) | assumption)
         have q267 : t264 < (l0.length : Int) := of_decide_eq_true (by first | (with_reducible assumption) | assumption)
         obtain ⟨ad267, e267, hx267_0, hx267_1⟩ := at_T31 HR0.out t264 p267 q267
         have hw267_1 := hx267_1
         have hw267_0 := hx267_0
         obtain rfl : ad266 = ad267 := (by injection e267)
         replace hx267_0 := cB HB.out hx267_0
         replace hx267_1 := cB HB.out hx267_1
         replace p267 := eq_true p267
         replace q267 := eq_true q267
         have p268 : 0 ≤ (t265 : Int) := of_decide_eq_true (by first | (with_reducible assumption) | assumption)
         have q268 : t265 < (l0.length : Int) := of_decide_eq_true (by first | (with_reducible assumption) | assumption)
         obtain ⟨ad268, e268, hx268_0, hx268_1⟩ := at_T31 HR0.out t265 p268 q268
         have hw268_1 := hx268_1
         have hw268_0 := hx268_0
         obtain rfl : ad266 = ad268 := (by injection e268)
         replace hx268_0 := cB HB.out hx268_0
         replace hx268_1 := cB HB.out hx268_1
         replace p268 := eq_true p268
         replace q268 := eq_true q268
         refine start_ (n := 44) (S := fun w' => w'.cell? (ad266.add ((x5_3).toNat * 2)) = some (.int .i64 ((rd_T31 l0 x5_3).f0)) ∧ w'.cell? ⟨(ad266.add ((x5_3).toNat * 2)).block, (ad266.add ((x5_3).toNat * 2)).off + 1, none⟩ = some (.int .i64 ((rd_T31 l0 x5_3).f1)) ∧ w'.cell? (ad266.add ((t264).toNat * 2)) = some (.int .i64 ((rd_T31 l0 t264).f0)) ∧ w'.cell? ⟨(ad266.add ((t264).toNat * 2)).block, (ad266.add ((t264).toNat * 2)).off + 1, none⟩ = some (.int .i64 ((rd_T31 l0 t264).f1)) ∧ w'.cell? (ad266.add ((t265).toNat * 2)) = some (.int .i64 ((rd_T31 l0 t265).f0)) ∧ w'.cell? ⟨(ad266.add ((t265).toNat * 2)).block, (ad266.add ((t265).toNat * 2)).off + 1, none⟩ = some (.int .i64 ((rd_T31 l0 t265).f1))) (ds := []) (Bs 0 44) (by kernel_rfl) rfl rfl ⟨(cB HB.out hw266_0), (cB HB.out hw266_1), (cB HB.out hw267_0), (cB HB.out hw267_1), (cB HB.out hw268_0), (cB HB.out hw268_1)⟩ (fun hHeld => ?_); refine with_tabW R1_Simple.tab14 R1_Simple.bits14 (fun HT_ HW_ => ?_)
         replace HB := Aside0.mk (show Below w.heap.size w (wr.drewN (ndA + ndB)).drew from ⟨HB.out.os, HB.out.tape, HB.out.output, HB.out.size, HB.out.block⟩)
         replace hx266_0 := (show World.cell? (wr.drewN (ndA + ndB)).drew _ = _ from hx266_0)
         replace hx266_1 := (show World.cell? (wr.drewN (ndA + ndB)).drew _ = _ from hx266_1)
         replace hx267_0 := (show World.cell? (wr.drewN (ndA + ndB)).drew _ = _ from hx267_0)
         replace hx267_1 := (show World.cell? (wr.drewN (ndA + ndB)).drew _ = _ from hx267_1)
         replace hx268_0 := (show World.cell? (wr.drewN (ndA + ndB)).drew _ = _ from hx268_0)
         replace hx268_1 := (show World.cell? (wr.drewN (ndA + ndB)).drew _ = _ from hx268_1)
         generalize (wr.drewN (ndA + ndB)).drew = w39 at HB hx266_0 hx266_1 hx267_0 hx267_1 hx268_0 hx268_1 hHeld ⊢
         refine pu 0 49 (Bs 1 44) HT_ ?_
         refine pu 1 50 (Bs 2 44) HT_ ?_
         refine pu 2 51 (Bs 3 44) HT_ ?_
         refine pu 4 53 (Br [3,1,1,39]) HT_ ?_
         refine pu 5 54 (Br [3,1,2,38]) HT_ ?_
         refine pu 6 55 (Br [3,1,3,37]) HT_ ?_
         refine pu 8 57 (Br [3,1,3,1,1,35]) HT_ ?_
         refine pu 9 58 (Br [3,1,3,1,2,34]) HT_ ?_
         refine pu 10 59 (Br [3,1,3,1,3,33]) HT_ ?_
         refine ta 3 52 (Br [7,1,3,33]) HT_ HW_ hHeld ?_
         refine ta 7 56 (Bs 11 44) HT_ HW_ hHeld ?_
         refine ta 11 60 (Bs 12 44) HT_ HW_ hHeld ?_
         refine one_ (i := 12) (N := some 61) (Bs 13 44) rfl rfl (one_of HT_.out (by kernel_rfl)) (by decide) (fun K hK => ?_)
         refine goes_ Try.func31 (by kernel_rfl) rfl #[.agg #[.int .i64 ((rd_T31 l0 x5_3).f0), .int .i64 ((rd_T31 l0 x5_3).f1)], .agg #[.int .i64 ((rd_T31 l0 t264).f0), .int .i64 ((rd_T31 l0 t264).f1)], .agg #[.int .i64 ((rd_T31 l0 t265).f0), .int .i64 ((rd_T31 l0 t265).f1)]] (by rfl) rfl rfl (by (try simp only [List.map_toArray, List.map_cons, List.map_nil]); first | done | rfl | (simp only [List.length_drop, List.length_take]; rfl)) ?_
         with_reducible refine (R1_Turn.calls ((rd_T31 l0 x5_3).f0) ((rd_T31 l0 x5_3).f1) ((rd_T31 l0 t264).f0) ((rd_T31 l0 t264).f1) ((rd_T31 l0 t265).f0) ((rd_T31 l0 t265).f1) t269 _ A27.out).mono ?_
         rintro e w40 ⟨rfl, hb⟩
         refine ⟨_, rfl, ?_⟩
         have n0_ := Aside0.mk (below_step lB hb)
         clear HB
         have HB := n0_
         clear n0_
         (try clear hb)
         (try clear hb2)
         (try clear hk)
         (try clear hi)
         refine hK.out _ _ ⟨(cB HB.out hw266_0), (cB HB.out hw266_1), (cB HB.out hw267_0), (cB HB.out hw267_1), (cB HB.out hw268_0), (cB HB.out hw268_1)⟩ (fun hHeld => ?_)
         clear hK K
         refine nm 61 ?_
         refine pu 13 62 (Bs 14 44) HT_ ?_
         refine pu 14 63 (Bs 15 44) HT_ ?_
         refine po 15 64 (Bs 16 44) HT_ ?_
         refine po 16 65 (Bs 17 44) HT_ ?_
         refine po 17 66 (Bs 18 44) HT_ ?_
         refine po 18 67 (Bs 19 44) HT_ ?_
         refine po 19 68 (Bs 20 44) HT_ ?_
         refine po 20 69 (Bs 21 44) HT_ ?_
         refine po 21 70 (Bs 22 44) HT_ ?_
         refine po 22 71 (Bs 23 44) HT_ ?_
         refine po 23 72 (Bs 24 44) HT_ ?_
         refine po 24 73 (Bs 25 44) HT_ ?_
         refine po 25 74 (Bs 26 44) HT_ ?_
         refine po 26 75 (Bs 27 44) HT_ ?_
         refine po 27 76 (Bs 28 44) HT_ ?_
         refine po 28 77 (Bs 29 44) HT_ ?_
         refine po 29 78 (Bs 30 44) HT_ ?_
         refine po 30 79 (Bs 31 44) HT_ ?_
         refine po 31 80 (Bs 32 44) HT_ ?_
         refine po 32 81 (Bs 33 44) HT_ ?_
         refine po 33 82 (Bs 34 44) HT_ ?_
         refine po 34 83 (Bs 35 44) HT_ ?_
         refine po 35 84 (Bs 36 44) HT_ ?_
         refine po 36 85 (Bs 37 44) HT_ ?_
         refine po 37 86 (Bs 38 44) HT_ ?_
         refine po 38 87 (Bs 39 44) HT_ ?_
         refine po 39 88 (Bs 40 44) HT_ ?_
         refine po 40 89 (Bs 41 44) HT_ ?_
         refine po 41 90 (Bs 42 44) HT_ ?_
         refine po 42 91 (Bs 43 44) HT_ ?_
         refine pu 43 92 (Bs 44 44) HT_ ?_
         refine done_ (done_of HT_.out (by kernel_rfl)) ?_
         try go_wp2
         go_meet
         case rel => exact ⟨_, (false), (by first | rfl | (simp; done) | (simp [*]; done)), H', ⟨by have := HJ1.out; have := HK2.out; have := HK3.out; first | omega | exact Nat.le_refl _⟩, ⟨by repeat (first | (with_reducible first | exact HB.out | apply lA | apply lN | apply lD) | exact HB.out)⟩⟩
        rw [if_pos c28] at H
        have c28b0 : (t269 == 0) = true := beq_iff_eq.mpr c28
        have c28b1 : (t269 != 0) = false := bne_eq_false_iff_eq.mpr c28
        clear c28
        replace H := Option.bind_eq_some_iff.mp H
        obtain ⟨t273, A290, H⟩ := H
        replace H : (if t273 = true then (R1_Simple.j3 k3 l0 (l0.length : Int) x5_3 t264 true) else ((R1_on.f ((rd_T31 l0 t264).f0) ((rd_T31 l0 t264).f1) ((rd_T31 l0 t265).f0) ((rd_T31 l0 t265).f1) ((rd_T31 l0 x5_3).f0) ((rd_T31 l0 x5_3).f1)).bind fun t277 => (R1_Simple.j3 k3 l0 (l0.length : Int) x5_3 t264 t277))) = some r := H
        have A29 := Aside0.mk A290
        clear A290
        by_cases c30 : t273 = true
        ·subst c30
         have H1 : (R1_Simple.j3 k3 l0 (l0.length : Int) x5_3 t264 true) = some r := by rw [if_pos rfl] at H; exact H
         clear H
         have H := H1
         clear H1
         have H' := Aside0.mk H
         clear H
         try go_wp2
         replace HB := Aside0.mk (lD HB.out)
         have p266 : 0 ≤ (x5_3 : Int) := of_decide_eq_true (by first | (with_reducible assumption) | assumption)
         have q266 : x5_3 < (l0.length : Int) := of_decide_eq_true (by first | (with_reducible assumption) | assumption)
         obtain ⟨ad266, e266, hx266_0, hx266_1⟩ := at_T31 HR0.out x5_3 p266 q266
         have hw266_1 := hx266_1
         have hw266_0 := hx266_0
         cases e266
         replace hx266_0 := cB HB.out hx266_0
         replace hx266_1 := cB HB.out hx266_1
         replace p266 := eq_true p266
         replace q266 := eq_true q266
         have p267 : 0 ≤ (t264 : Int) := of_decide_eq_true (by first | (with_reducible assumption) | assumption)
         have q267 : t264 < (l0.length : Int) := of_decide_eq_true (by first | (with_reducible assumption) | assumption)
         obtain ⟨ad267, e267, hx267_0, hx267_1⟩ := at_T31 HR0.out t264 p267 q267
         have hw267_1 := hx267_1
         have hw267_0 := hx267_0
         obtain rfl : ad266 = ad267 := (by injection e267)
         replace hx267_0 := cB HB.out hx267_0
         replace hx267_1 := cB HB.out hx267_1
         replace p267 := eq_true p267
         replace q267 := eq_true q267
         have p268 : 0 ≤ (t265 : Int) := of_decide_eq_true (by first | (with_reducible assumption) | assumption)
         have q268 : t265 < (l0.length : Int) := of_decide_eq_true (by first | (with_reducible assumption) | assumption)
         obtain ⟨ad268, e268, hx268_0, hx268_1⟩ := at_T31 HR0.out t265 p268 q268
         have hw268_1 := hx268_1
         have hw268_0 := hx268_0
         obtain rfl : ad266 = ad268 := (by injection e268)
         replace hx268_0 := cB HB.out hx268_0
         replace hx268_1 := cB HB.out hx268_1
         replace p268 := eq_true p268
         replace q268 := eq_true q268
         have p270 : 0 ≤ (x5_3 : Int) := of_decide_eq_true (by first | (with_reducible assumption) | assumption)
         have q270 : x5_3 < (l0.length : Int) := of_decide_eq_true (by first | (with_reducible assumption) | assumption)
         obtain ⟨ad270, e270, hx270_0, hx270_1⟩ := at_T31 HR0.out x5_3 p270 q270
         have hw270_1 := hx270_1
         have hw270_0 := hx270_0
         obtain rfl : ad266 = ad270 := (by injection e270)
         replace hx270_0 := cB HB.out hx270_0
         replace hx270_1 := cB HB.out hx270_1
         replace p270 := eq_true p270
         replace q270 := eq_true q270
         have p271 : 0 ≤ (t264 : Int) := of_decide_eq_true (by first | (with_reducible assumption) | assumption)
         have q271 : t264 < (l0.length : Int) := of_decide_eq_true (by first | (with_reducible assumption) | assumption)
         obtain ⟨ad271, e271, hx271_0, hx271_1⟩ := at_T31 HR0.out t264 p271 q271
         have hw271_1 := hx271_1
         have hw271_0 := hx271_0
         obtain rfl : ad266 = ad271 := (by injection e271)
         replace hx271_0 := cB HB.out hx271_0
         replace hx271_1 := cB HB.out hx271_1
         replace p271 := eq_true p271
         replace q271 := eq_true q271
         have p272 : 0 ≤ (t265 : Int) := of_decide_eq_true (by first | (with_reducible assumption) | assumption)
         have q272 : t265 < (l0.length : Int) := of_decide_eq_true (by first | (with_reducible assumption) | assumption)
         obtain ⟨ad272, e272, hx272_0, hx272_1⟩ := at_T31 HR0.out t265 p272 q272
         have hw272_1 := hx272_1
         have hw272_0 := hx272_0
         obtain rfl : ad266 = ad272 := (by injection e272)
         replace hx272_0 := cB HB.out hx272_0
         replace hx272_1 := cB HB.out hx272_1
         replace p272 := eq_true p272
         replace q272 := eq_true q272
         refine start_ (n := 44) (S := fun w' => w'.cell? (ad266.add ((x5_3).toNat * 2)) = some (.int .i64 ((rd_T31 l0 x5_3).f0)) ∧ w'.cell? ⟨(ad266.add ((x5_3).toNat * 2)).block, (ad266.add ((x5_3).toNat * 2)).off + 1, none⟩ = some (.int .i64 ((rd_T31 l0 x5_3).f1)) ∧ w'.cell? (ad266.add ((t264).toNat * 2)) = some (.int .i64 ((rd_T31 l0 t264).f0)) ∧ w'.cell? ⟨(ad266.add ((t264).toNat * 2)).block, (ad266.add ((t264).toNat * 2)).off + 1, none⟩ = some (.int .i64 ((rd_T31 l0 t264).f1)) ∧ w'.cell? (ad266.add ((t265).toNat * 2)) = some (.int .i64 ((rd_T31 l0 t265).f0)) ∧ w'.cell? ⟨(ad266.add ((t265).toNat * 2)).block, (ad266.add ((t265).toNat * 2)).off + 1, none⟩ = some (.int .i64 ((rd_T31 l0 t265).f1)) ∧ w'.cell? (ad266.add ((x5_3).toNat * 2)) = some (.int .i64 ((rd_T31 l0 x5_3).f0)) ∧ w'.cell? ⟨(ad266.add ((x5_3).toNat * 2)).block, (ad266.add ((x5_3).toNat * 2)).off + 1, none⟩ = some (.int .i64 ((rd_T31 l0 x5_3).f1)) ∧ w'.cell? (ad266.add ((t264).toNat * 2)) = some (.int .i64 ((rd_T31 l0 t264).f0)) ∧ w'.cell? ⟨(ad266.add ((t264).toNat * 2)).block, (ad266.add ((t264).toNat * 2)).off + 1, none⟩ = some (.int .i64 ((rd_T31 l0 t264).f1)) ∧ w'.cell? (ad266.add ((t265).toNat * 2)) = some (.int .i64 ((rd_T31 l0 t265).f0)) ∧ w'.cell? ⟨(ad266.add ((t265).toNat * 2)).block, (ad266.add ((t265).toNat * 2)).off + 1, none⟩ = some (.int .i64 ((rd_T31 l0 t265).f1))) (ds := []) (Bs 0 44) (by kernel_rfl) rfl rfl ⟨(cB HB.out hw266_0), (cB HB.out hw266_1), (cB HB.out hw267_0), (cB HB.out hw267_1), (cB HB.out hw268_0), (cB HB.out hw268_1), (cB HB.out hw270_0), (cB HB.out hw270_1), (cB HB.out hw271_0), (cB HB.out hw271_1), (cB HB.out hw272_0), (cB HB.out hw272_1)⟩ (fun hHeld => ?_); refine with_tabW R1_Simple.tab14 R1_Simple.bits14 (fun HT_ HW_ => ?_)
         replace HB := Aside0.mk (show Below w.heap.size w (wr.drewN (ndA + ndB)).drew from ⟨HB.out.os, HB.out.tape, HB.out.output, HB.out.size, HB.out.block⟩)
         replace hx266_0 := (show World.cell? (wr.drewN (ndA + ndB)).drew _ = _ from hx266_0)
         replace hx266_1 := (show World.cell? (wr.drewN (ndA + ndB)).drew _ = _ from hx266_1)
         replace hx267_0 := (show World.cell? (wr.drewN (ndA + ndB)).drew _ = _ from hx267_0)
         replace hx267_1 := (show World.cell? (wr.drewN (ndA + ndB)).drew _ = _ from hx267_1)
         replace hx268_0 := (show World.cell? (wr.drewN (ndA + ndB)).drew _ = _ from hx268_0)
         replace hx268_1 := (show World.cell? (wr.drewN (ndA + ndB)).drew _ = _ from hx268_1)
         replace hx270_0 := (show World.cell? (wr.drewN (ndA + ndB)).drew _ = _ from hx270_0)
         replace hx270_1 := (show World.cell? (wr.drewN (ndA + ndB)).drew _ = _ from hx270_1)
         replace hx271_0 := (show World.cell? (wr.drewN (ndA + ndB)).drew _ = _ from hx271_0)
         replace hx271_1 := (show World.cell? (wr.drewN (ndA + ndB)).drew _ = _ from hx271_1)
         replace hx272_0 := (show World.cell? (wr.drewN (ndA + ndB)).drew _ = _ from hx272_0)
         replace hx272_1 := (show World.cell? (wr.drewN (ndA + ndB)).drew _ = _ from hx272_1)
         generalize (wr.drewN (ndA + ndB)).drew = w31 at HB hx266_0 hx266_1 hx267_0 hx267_1 hx268_0 hx268_1 hx270_0 hx270_1 hx271_0 hx271_1 hx272_0 hx272_1 hHeld ⊢
         refine pu 0 49 (Bs 1 44) HT_ ?_
         refine pu 1 50 (Bs 2 44) HT_ ?_
         refine pu 2 51 (Bs 3 44) HT_ ?_
         refine pu 4 53 (Br [3,1,1,39]) HT_ ?_
         refine pu 5 54 (Br [3,1,2,38]) HT_ ?_
         refine pu 6 55 (Br [3,1,3,37]) HT_ ?_
         refine pu 8 57 (Br [3,1,3,1,1,35]) HT_ ?_
         refine pu 9 58 (Br [3,1,3,1,2,34]) HT_ ?_
         refine pu 10 59 (Br [3,1,3,1,3,33]) HT_ ?_
         refine ta 3 52 (Br [7,1,3,33]) HT_ HW_ hHeld ?_
         refine ta 7 56 (Bs 11 44) HT_ HW_ hHeld ?_
         refine ta 11 60 (Bs 12 44) HT_ HW_ hHeld ?_
         refine one_ (i := 12) (N := some 61) (Bs 13 44) rfl rfl (one_of HT_.out (by kernel_rfl)) (by decide) (fun K hK => ?_)
         refine goes_ Try.func31 (by kernel_rfl) rfl #[.agg #[.int .i64 ((rd_T31 l0 x5_3).f0), .int .i64 ((rd_T31 l0 x5_3).f1)], .agg #[.int .i64 ((rd_T31 l0 t264).f0), .int .i64 ((rd_T31 l0 t264).f1)], .agg #[.int .i64 ((rd_T31 l0 t265).f0), .int .i64 ((rd_T31 l0 t265).f1)]] (by rfl) rfl rfl (by (try simp only [List.map_toArray, List.map_cons, List.map_nil]); first | done | rfl | (simp only [List.length_drop, List.length_take]; rfl)) ?_
         with_reducible refine (R1_Turn.calls ((rd_T31 l0 x5_3).f0) ((rd_T31 l0 x5_3).f1) ((rd_T31 l0 t264).f0) ((rd_T31 l0 t264).f1) ((rd_T31 l0 t265).f0) ((rd_T31 l0 t265).f1) t269 _ A27.out).mono ?_
         rintro e w32 ⟨rfl, hb⟩
         refine ⟨_, rfl, ?_⟩
         have n0_ := Aside0.mk (below_step lB hb)
         clear HB
         have HB := n0_
         clear n0_
         (try clear hb)
         (try clear hb2)
         (try clear hk)
         (try clear hi)
         refine hK.out _ _ ⟨(cB HB.out hw266_0), (cB HB.out hw266_1), (cB HB.out hw267_0), (cB HB.out hw267_1), (cB HB.out hw268_0), (cB HB.out hw268_1), (cB HB.out hw270_0), (cB HB.out hw270_1), (cB HB.out hw271_0), (cB HB.out hw271_1), (cB HB.out hw272_0), (cB HB.out hw272_1)⟩ (fun hHeld => ?_)
         clear hK K
         refine nm 61 ?_
         refine pu 13 62 (Bs 14 44) HT_ ?_
         refine pu 14 63 (Bs 15 44) HT_ ?_
         refine pu 15 64 (Bs 16 44) HT_ ?_
         refine pu 16 65 (Bs 17 44) HT_ ?_
         refine pu 17 66 (Bs 18 44) HT_ ?_
         refine pu 19 68 (Br [18,1,1,24]) HT_ ?_
         refine pu 20 69 (Br [18,1,2,23]) HT_ ?_
         refine pu 21 70 (Br [18,1,3,22]) HT_ ?_
         refine pu 23 72 (Br [18,1,3,1,1,20]) HT_ ?_
         refine pu 24 73 (Br [18,1,3,1,2,19]) HT_ ?_
         refine pu 25 74 (Br [18,1,3,1,3,18]) HT_ ?_
         refine ta 18 67 (Br [22,1,3,18]) HT_ HW_ hHeld ?_
         refine ta 22 71 (Bs 26 44) HT_ HW_ hHeld ?_
         refine ta 26 75 (Bs 27 44) HT_ HW_ hHeld ?_
         refine one_ (i := 27) (N := some 76) (Bs 28 44) rfl rfl (one_of HT_.out (by kernel_rfl)) (by decide) (fun K hK => ?_)
         refine goes_ Try.func59 (by kernel_rfl) rfl #[.agg #[.int .i64 ((rd_T31 l0 x5_3).f0), .int .i64 ((rd_T31 l0 x5_3).f1)], .agg #[.int .i64 ((rd_T31 l0 t264).f0), .int .i64 ((rd_T31 l0 t264).f1)], .agg #[.int .i64 ((rd_T31 l0 t265).f0), .int .i64 ((rd_T31 l0 t265).f1)]] (by rfl) rfl rfl (by (try simp only [List.map_toArray, List.map_cons, List.map_nil]); first | done | rfl | (simp only [List.length_drop, List.length_take]; rfl)) ?_
         with_reducible refine (R1_on.calls ((rd_T31 l0 x5_3).f0) ((rd_T31 l0 x5_3).f1) ((rd_T31 l0 t264).f0) ((rd_T31 l0 t264).f1) ((rd_T31 l0 t265).f0) ((rd_T31 l0 t265).f1) true _ A29.out).mono ?_
         rintro e w33 ⟨rfl, hb⟩
         refine ⟨_, rfl, ?_⟩
         have n0_ := Aside0.mk (below_step lB hb)
         clear HB
         have HB := n0_
         clear n0_
         (try clear hb)
         (try clear hb2)
         (try clear hk)
         (try clear hi)
         refine hK.out _ _ ⟨(cB HB.out hw266_0), (cB HB.out hw266_1), (cB HB.out hw267_0), (cB HB.out hw267_1), (cB HB.out hw268_0), (cB HB.out hw268_1), (cB HB.out hw270_0), (cB HB.out hw270_1), (cB HB.out hw271_0), (cB HB.out hw271_1), (cB HB.out hw272_0), (cB HB.out hw272_1)⟩ (fun hHeld => ?_)
         clear hK K
         refine nm 76 ?_
         refine pu 28 77 (Bs 29 44) HT_ ?_
         refine po 29 78 (Bs 30 44) HT_ ?_
         refine po 30 79 (Bs 31 44) HT_ ?_
         refine po 31 80 (Bs 32 44) HT_ ?_
         refine po 32 81 (Bs 33 44) HT_ ?_
         refine po 33 82 (Bs 34 44) HT_ ?_
         refine po 34 83 (Bs 35 44) HT_ ?_
         refine po 35 84 (Bs 36 44) HT_ ?_
         refine po 36 85 (Bs 37 44) HT_ ?_
         refine po 37 86 (Bs 38 44) HT_ ?_
         refine po 38 87 (Bs 39 44) HT_ ?_
         refine po 39 88 (Bs 40 44) HT_ ?_
         refine po 40 89 (Bs 41 44) HT_ ?_
         refine po 41 90 (Bs 42 44) HT_ ?_
         refine pu 42 91 (Bs 43 44) HT_ ?_
         refine pu 43 92 (Bs 44 44) HT_ ?_
         refine done_ (done_of HT_.out (by kernel_rfl)) ?_
         try go_wp2
         go_meet
         case rel => exact ⟨_, (true), (by first | rfl | (simp; done) | (simp [*]; done)), H', ⟨by have := HJ1.out; have := HK2.out; have := HK3.out; first | omega | exact Nat.le_refl _⟩, ⟨by repeat (first | (with_reducible first | exact HB.out | apply lA | apply lN | apply lD) | exact HB.out)⟩⟩
        replace c30 := Bool.eq_false_iff.mpr c30
        subst c30
        have H1 : ((R1_on.f ((rd_T31 l0 t264).f0) ((rd_T31 l0 t264).f1) ((rd_T31 l0 t265).f0) ((rd_T31 l0 t265).f1) ((rd_T31 l0 x5_3).f0) ((rd_T31 l0 x5_3).f1)).bind fun t277 => (R1_Simple.j3 k3 l0 (l0.length : Int) x5_3 t264 t277)) = some r := by rw [if_neg (show ¬ (false = true) by decide)] at H; exact H
        clear H
        have H := H1
        clear H1
        replace H := Option.bind_eq_some_iff.mp H
        obtain ⟨t277, A340, H⟩ := H
        replace H : (R1_Simple.j3 k3 l0 (l0.length : Int) x5_3 t264 t277) = some r := H
        have A34 := Aside0.mk A340
        clear A340
        have H' := Aside0.mk H
        clear H
        try go_wp2
        replace HB := Aside0.mk (lD HB.out)
        have p266 : 0 ≤ (x5_3 : Int) := of_decide_eq_true (by first | (with_reducible assumption) | assumption)
        have q266 : x5_3 < (l0.length : Int) := of_decide_eq_true (by first | (with_reducible assumption) | assumption)
        obtain ⟨ad266, e266, hx266_0, hx266_1⟩ := at_T31 HR0.out x5_3 p266 q266
        have hw266_1 := hx266_1
        have hw266_0 := hx266_0
        cases e266
        replace hx266_0 := cB HB.out hx266_0
        replace hx266_1 := cB HB.out hx266_1
        replace p266 := eq_true p266
        replace q266 := eq_true q266
        have p267 : 0 ≤ (t264 : Int) := of_decide_eq_true (by first | (with_reducible assumption) | assumption)
        have q267 : t264 < (l0.length : Int) := of_decide_eq_true (by first | (with_reducible assumption) | assumption)
        obtain ⟨ad267, e267, hx267_0, hx267_1⟩ := at_T31 HR0.out t264 p267 q267
        have hw267_1 := hx267_1
        have hw267_0 := hx267_0
        obtain rfl : ad266 = ad267 := (by injection e267)
        replace hx267_0 := cB HB.out hx267_0
        replace hx267_1 := cB HB.out hx267_1
        replace p267 := eq_true p267
        replace q267 := eq_true q267
        have p268 : 0 ≤ (t265 : Int) := of_decide_eq_true (by first | (with_reducible assumption) | assumption)
        have q268 : t265 < (l0.length : Int) := of_decide_eq_true (by first | (with_reducible assumption) | assumption)
        obtain ⟨ad268, e268, hx268_0, hx268_1⟩ := at_T31 HR0.out t265 p268 q268
        have hw268_1 := hx268_1
        have hw268_0 := hx268_0
        obtain rfl : ad266 = ad268 := (by injection e268)
        replace hx268_0 := cB HB.out hx268_0
        replace hx268_1 := cB HB.out hx268_1
        replace p268 := eq_true p268
        replace q268 := eq_true q268
        have p270 : 0 ≤ (x5_3 : Int) := of_decide_eq_true (by first | (with_reducible assumption) | assumption)
        have q270 : x5_3 < (l0.length : Int) := of_decide_eq_true (by first | (with_reducible assumption) | assumption)
        obtain ⟨ad270, e270, hx270_0, hx270_1⟩ := at_T31 HR0.out x5_3 p270 q270
        have hw270_1 := hx270_1
        have hw270_0 := hx270_0
        obtain rfl : ad266 = ad270 := (by injection e270)
        replace hx270_0 := cB HB.out hx270_0
        replace hx270_1 := cB HB.out hx270_1
        replace p270 := eq_true p270
        replace q270 := eq_true q270
        have p271 : 0 ≤ (t264 : Int) := of_decide_eq_true (by first | (with_reducible assumption) | assumption)
        have q271 : t264 < (l0.length : Int) := of_decide_eq_true (by first | (with_reducible assumption) | assumption)
        obtain ⟨ad271, e271, hx271_0, hx271_1⟩ := at_T31 HR0.out t264 p271 q271
        have hw271_1 := hx271_1
        have hw271_0 := hx271_0
        obtain rfl : ad266 = ad271 := (by injection e271)
        replace hx271_0 := cB HB.out hx271_0
        replace hx271_1 := cB HB.out hx271_1
        replace p271 := eq_true p271
        replace q271 := eq_true q271
        have p272 : 0 ≤ (t265 : Int) := of_decide_eq_true (by first | (with_reducible assumption) | assumption)
        have q272 : t265 < (l0.length : Int) := of_decide_eq_true (by first | (with_reducible assumption) | assumption)
        obtain ⟨ad272, e272, hx272_0, hx272_1⟩ := at_T31 HR0.out t265 p272 q272
        have hw272_1 := hx272_1
        have hw272_0 := hx272_0
        obtain rfl : ad266 = ad272 := (by injection e272)
        replace hx272_0 := cB HB.out hx272_0
        replace hx272_1 := cB HB.out hx272_1
        replace p272 := eq_true p272
        replace q272 := eq_true q272
        have p274 : 0 ≤ (t264 : Int) := of_decide_eq_true (by first | (with_reducible assumption) | assumption)
        have q274 : t264 < (l0.length : Int) := of_decide_eq_true (by first | (with_reducible assumption) | assumption)
        obtain ⟨ad274, e274, hx274_0, hx274_1⟩ := at_T31 HR0.out t264 p274 q274
        have hw274_1 := hx274_1
        have hw274_0 := hx274_0
        obtain rfl : ad266 = ad274 := (by injection e274)
        replace hx274_0 := cB HB.out hx274_0
        replace hx274_1 := cB HB.out hx274_1
        replace p274 := eq_true p274
        replace q274 := eq_true q274
        have p275 : 0 ≤ (t265 : Int) := of_decide_eq_true (by first | (with_reducible assumption) | assumption)
        have q275 : t265 < (l0.length : Int) := of_decide_eq_true (by first | (with_reducible assumption) | assumption)
        obtain ⟨ad275, e275, hx275_0, hx275_1⟩ := at_T31 HR0.out t265 p275 q275
        have hw275_1 := hx275_1
        have hw275_0 := hx275_0
        obtain rfl : ad266 = ad275 := (by injection e275)
        replace hx275_0 := cB HB.out hx275_0
        replace hx275_1 := cB HB.out hx275_1
        replace p275 := eq_true p275
        replace q275 := eq_true q275
        have p276 : 0 ≤ (x5_3 : Int) := of_decide_eq_true (by first | (with_reducible assumption) | assumption)
        have q276 : x5_3 < (l0.length : Int) := of_decide_eq_true (by first | (with_reducible assumption) | assumption)
        obtain ⟨ad276, e276, hx276_0, hx276_1⟩ := at_T31 HR0.out x5_3 p276 q276
        have hw276_1 := hx276_1
        have hw276_0 := hx276_0
        obtain rfl : ad266 = ad276 := (by injection e276)
        replace hx276_0 := cB HB.out hx276_0
        replace hx276_1 := cB HB.out hx276_1
        replace p276 := eq_true p276
        replace q276 := eq_true q276
        refine start_ (n := 44) (S := fun w' => w'.cell? (ad266.add ((x5_3).toNat * 2)) = some (.int .i64 ((rd_T31 l0 x5_3).f0)) ∧ w'.cell? ⟨(ad266.add ((x5_3).toNat * 2)).block, (ad266.add ((x5_3).toNat * 2)).off + 1, none⟩ = some (.int .i64 ((rd_T31 l0 x5_3).f1)) ∧ w'.cell? (ad266.add ((t264).toNat * 2)) = some (.int .i64 ((rd_T31 l0 t264).f0)) ∧ w'.cell? ⟨(ad266.add ((t264).toNat * 2)).block, (ad266.add ((t264).toNat * 2)).off + 1, none⟩ = some (.int .i64 ((rd_T31 l0 t264).f1)) ∧ w'.cell? (ad266.add ((t265).toNat * 2)) = some (.int .i64 ((rd_T31 l0 t265).f0)) ∧ w'.cell? ⟨(ad266.add ((t265).toNat * 2)).block, (ad266.add ((t265).toNat * 2)).off + 1, none⟩ = some (.int .i64 ((rd_T31 l0 t265).f1)) ∧ w'.cell? (ad266.add ((x5_3).toNat * 2)) = some (.int .i64 ((rd_T31 l0 x5_3).f0)) ∧ w'.cell? ⟨(ad266.add ((x5_3).toNat * 2)).block, (ad266.add ((x5_3).toNat * 2)).off + 1, none⟩ = some (.int .i64 ((rd_T31 l0 x5_3).f1)) ∧ w'.cell? (ad266.add ((t264).toNat * 2)) = some (.int .i64 ((rd_T31 l0 t264).f0)) ∧ w'.cell? ⟨(ad266.add ((t264).toNat * 2)).block, (ad266.add ((t264).toNat * 2)).off + 1, none⟩ = some (.int .i64 ((rd_T31 l0 t264).f1)) ∧ w'.cell? (ad266.add ((t265).toNat * 2)) = some (.int .i64 ((rd_T31 l0 t265).f0)) ∧ w'.cell? ⟨(ad266.add ((t265).toNat * 2)).block, (ad266.add ((t265).toNat * 2)).off + 1, none⟩ = some (.int .i64 ((rd_T31 l0 t265).f1)) ∧ w'.cell? (ad266.add ((t264).toNat * 2)) = some (.int .i64 ((rd_T31 l0 t264).f0)) ∧ w'.cell? ⟨(ad266.add ((t264).toNat * 2)).block, (ad266.add ((t264).toNat * 2)).off + 1, none⟩ = some (.int .i64 ((rd_T31 l0 t264).f1)) ∧ w'.cell? (ad266.add ((t265).toNat * 2)) = some (.int .i64 ((rd_T31 l0 t265).f0)) ∧ w'.cell? ⟨(ad266.add ((t265).toNat * 2)).block, (ad266.add ((t265).toNat * 2)).off + 1, none⟩ = some (.int .i64 ((rd_T31 l0 t265).f1)) ∧ w'.cell? (ad266.add ((x5_3).toNat * 2)) = some (.int .i64 ((rd_T31 l0 x5_3).f0)) ∧ w'.cell? ⟨(ad266.add ((x5_3).toNat * 2)).block, (ad266.add ((x5_3).toNat * 2)).off + 1, none⟩ = some (.int .i64 ((rd_T31 l0 x5_3).f1))) (ds := []) (Bs 0 44) (by kernel_rfl) rfl rfl ⟨(cB HB.out hw266_0), (cB HB.out hw266_1), (cB HB.out hw267_0), (cB HB.out hw267_1), (cB HB.out hw268_0), (cB HB.out hw268_1), (cB HB.out hw270_0), (cB HB.out hw270_1), (cB HB.out hw271_0), (cB HB.out hw271_1), (cB HB.out hw272_0), (cB HB.out hw272_1), (cB HB.out hw274_0), (cB HB.out hw274_1), (cB HB.out hw275_0), (cB HB.out hw275_1), (cB HB.out hw276_0), (cB HB.out hw276_1)⟩ (fun hHeld => ?_); refine with_tabW R1_Simple.tab14 R1_Simple.bits14 (fun HT_ HW_ => ?_)
        replace HB := Aside0.mk (show Below w.heap.size w (wr.drewN (ndA + ndB)).drew from ⟨HB.out.os, HB.out.tape, HB.out.output, HB.out.size, HB.out.block⟩)
        replace hx266_0 := (show World.cell? (wr.drewN (ndA + ndB)).drew _ = _ from hx266_0)
        replace hx266_1 := (show World.cell? (wr.drewN (ndA + ndB)).drew _ = _ from hx266_1)
        replace hx267_0 := (show World.cell? (wr.drewN (ndA + ndB)).drew _ = _ from hx267_0)
        replace hx267_1 := (show World.cell? (wr.drewN (ndA + ndB)).drew _ = _ from hx267_1)
        replace hx268_0 := (show World.cell? (wr.drewN (ndA + ndB)).drew _ = _ from hx268_0)
        replace hx268_1 := (show World.cell? (wr.drewN (ndA + ndB)).drew _ = _ from hx268_1)
        replace hx270_0 := (show World.cell? (wr.drewN (ndA + ndB)).drew _ = _ from hx270_0)
        replace hx270_1 := (show World.cell? (wr.drewN (ndA + ndB)).drew _ = _ from hx270_1)
        replace hx271_0 := (show World.cell? (wr.drewN (ndA + ndB)).drew _ = _ from hx271_0)
        replace hx271_1 := (show World.cell? (wr.drewN (ndA + ndB)).drew _ = _ from hx271_1)
        replace hx272_0 := (show World.cell? (wr.drewN (ndA + ndB)).drew _ = _ from hx272_0)
        replace hx272_1 := (show World.cell? (wr.drewN (ndA + ndB)).drew _ = _ from hx272_1)
        replace hx274_0 := (show World.cell? (wr.drewN (ndA + ndB)).drew _ = _ from hx274_0)
        replace hx274_1 := (show World.cell? (wr.drewN (ndA + ndB)).drew _ = _ from hx274_1)
        replace hx275_0 := (show World.cell? (wr.drewN (ndA + ndB)).drew _ = _ from hx275_0)
        replace hx275_1 := (show World.cell? (wr.drewN (ndA + ndB)).drew _ = _ from hx275_1)
        replace hx276_0 := (show World.cell? (wr.drewN (ndA + ndB)).drew _ = _ from hx276_0)
        replace hx276_1 := (show World.cell? (wr.drewN (ndA + ndB)).drew _ = _ from hx276_1)
        generalize (wr.drewN (ndA + ndB)).drew = w35 at HB hx266_0 hx266_1 hx267_0 hx267_1 hx268_0 hx268_1 hx270_0 hx270_1 hx271_0 hx271_1 hx272_0 hx272_1 hx274_0 hx274_1 hx275_0 hx275_1 hx276_0 hx276_1 hHeld ⊢
        refine pu 0 49 (Bs 1 44) HT_ ?_
        refine pu 1 50 (Bs 2 44) HT_ ?_
        refine pu 2 51 (Bs 3 44) HT_ ?_
        refine pu 4 53 (Br [3,1,1,39]) HT_ ?_
        refine pu 5 54 (Br [3,1,2,38]) HT_ ?_
        refine pu 6 55 (Br [3,1,3,37]) HT_ ?_
        refine pu 8 57 (Br [3,1,3,1,1,35]) HT_ ?_
        refine pu 9 58 (Br [3,1,3,1,2,34]) HT_ ?_
        refine pu 10 59 (Br [3,1,3,1,3,33]) HT_ ?_
        refine ta 3 52 (Br [7,1,3,33]) HT_ HW_ hHeld ?_
        refine ta 7 56 (Bs 11 44) HT_ HW_ hHeld ?_
        refine ta 11 60 (Bs 12 44) HT_ HW_ hHeld ?_
        refine one_ (i := 12) (N := some 61) (Bs 13 44) rfl rfl (one_of HT_.out (by kernel_rfl)) (by decide) (fun K hK => ?_)
        refine goes_ Try.func31 (by kernel_rfl) rfl #[.agg #[.int .i64 ((rd_T31 l0 x5_3).f0), .int .i64 ((rd_T31 l0 x5_3).f1)], .agg #[.int .i64 ((rd_T31 l0 t264).f0), .int .i64 ((rd_T31 l0 t264).f1)], .agg #[.int .i64 ((rd_T31 l0 t265).f0), .int .i64 ((rd_T31 l0 t265).f1)]] (by rfl) rfl rfl (by (try simp only [List.map_toArray, List.map_cons, List.map_nil]); first | done | rfl | (simp only [List.length_drop, List.length_take]; rfl)) ?_
        with_reducible refine (R1_Turn.calls ((rd_T31 l0 x5_3).f0) ((rd_T31 l0 x5_3).f1) ((rd_T31 l0 t264).f0) ((rd_T31 l0 t264).f1) ((rd_T31 l0 t265).f0) ((rd_T31 l0 t265).f1) t269 _ A27.out).mono ?_
        rintro e w36 ⟨rfl, hb⟩
        refine ⟨_, rfl, ?_⟩
        have n0_ := Aside0.mk (below_step lB hb)
        clear HB
        have HB := n0_
        clear n0_
        (try clear hb)
        (try clear hb2)
        (try clear hk)
        (try clear hi)
        refine hK.out _ _ ⟨(cB HB.out hw266_0), (cB HB.out hw266_1), (cB HB.out hw267_0), (cB HB.out hw267_1), (cB HB.out hw268_0), (cB HB.out hw268_1), (cB HB.out hw270_0), (cB HB.out hw270_1), (cB HB.out hw271_0), (cB HB.out hw271_1), (cB HB.out hw272_0), (cB HB.out hw272_1), (cB HB.out hw274_0), (cB HB.out hw274_1), (cB HB.out hw275_0), (cB HB.out hw275_1), (cB HB.out hw276_0), (cB HB.out hw276_1)⟩ (fun hHeld => ?_)
        clear hK K
        refine nm 61 ?_
        refine pu 13 62 (Bs 14 44) HT_ ?_
        refine pu 14 63 (Bs 15 44) HT_ ?_
        refine pu 15 64 (Bs 16 44) HT_ ?_
        refine pu 16 65 (Bs 17 44) HT_ ?_
        refine pu 17 66 (Bs 18 44) HT_ ?_
        refine pu 19 68 (Br [18,1,1,24]) HT_ ?_
        refine pu 20 69 (Br [18,1,2,23]) HT_ ?_
        refine pu 21 70 (Br [18,1,3,22]) HT_ ?_
        refine pu 23 72 (Br [18,1,3,1,1,20]) HT_ ?_
        refine pu 24 73 (Br [18,1,3,1,2,19]) HT_ ?_
        refine pu 25 74 (Br [18,1,3,1,3,18]) HT_ ?_
        refine ta 18 67 (Br [22,1,3,18]) HT_ HW_ hHeld ?_
        refine ta 22 71 (Bs 26 44) HT_ HW_ hHeld ?_
        refine ta 26 75 (Bs 27 44) HT_ HW_ hHeld ?_
        refine one_ (i := 27) (N := some 76) (Bs 28 44) rfl rfl (one_of HT_.out (by kernel_rfl)) (by decide) (fun K hK => ?_)
        refine goes_ Try.func59 (by kernel_rfl) rfl #[.agg #[.int .i64 ((rd_T31 l0 x5_3).f0), .int .i64 ((rd_T31 l0 x5_3).f1)], .agg #[.int .i64 ((rd_T31 l0 t264).f0), .int .i64 ((rd_T31 l0 t264).f1)], .agg #[.int .i64 ((rd_T31 l0 t265).f0), .int .i64 ((rd_T31 l0 t265).f1)]] (by rfl) rfl rfl (by (try simp only [List.map_toArray, List.map_cons, List.map_nil]); first | done | rfl | (simp only [List.length_drop, List.length_take]; rfl)) ?_
        with_reducible refine (R1_on.calls ((rd_T31 l0 x5_3).f0) ((rd_T31 l0 x5_3).f1) ((rd_T31 l0 t264).f0) ((rd_T31 l0 t264).f1) ((rd_T31 l0 t265).f0) ((rd_T31 l0 t265).f1) false _ A29.out).mono ?_
        rintro e w37 ⟨rfl, hb⟩
        refine ⟨_, rfl, ?_⟩
        have n0_ := Aside0.mk (below_step lB hb)
        clear HB
        have HB := n0_
        clear n0_
        (try clear hb)
        (try clear hb2)
        (try clear hk)
        (try clear hi)
        refine hK.out _ _ ⟨(cB HB.out hw266_0), (cB HB.out hw266_1), (cB HB.out hw267_0), (cB HB.out hw267_1), (cB HB.out hw268_0), (cB HB.out hw268_1), (cB HB.out hw270_0), (cB HB.out hw270_1), (cB HB.out hw271_0), (cB HB.out hw271_1), (cB HB.out hw272_0), (cB HB.out hw272_1), (cB HB.out hw274_0), (cB HB.out hw274_1), (cB HB.out hw275_0), (cB HB.out hw275_1), (cB HB.out hw276_0), (cB HB.out hw276_1)⟩ (fun hHeld => ?_)
        clear hK K
        refine nm 76 ?_
        refine pu 28 77 (Bs 29 44) HT_ ?_
        refine pu 29 78 (Bs 30 44) HT_ ?_
        refine pu 30 79 (Bs 31 44) HT_ ?_
        refine pu 31 80 (Bs 32 44) HT_ ?_
        refine pu 33 82 (Br [32,1,1,10]) HT_ ?_
        refine pu 34 83 (Br [32,1,2,9]) HT_ ?_
        refine pu 35 84 (Br [32,1,3,8]) HT_ ?_
        refine pu 37 86 (Br [32,1,3,1,1,6]) HT_ ?_
        refine pu 38 87 (Br [32,1,3,1,2,5]) HT_ ?_
        refine pu 39 88 (Br [32,1,3,1,3,4]) HT_ ?_
        refine ta 32 81 (Br [36,1,3,4]) HT_ HW_ hHeld ?_
        refine ta 36 85 (Bs 40 44) HT_ HW_ hHeld ?_
        refine ta 40 89 (Bs 41 44) HT_ HW_ hHeld ?_
        refine one_ (i := 41) (N := some 90) (Bs 42 44) rfl rfl (one_of HT_.out (by kernel_rfl)) (by decide) (fun K hK => ?_)
        refine goes_ Try.func59 (by kernel_rfl) rfl #[.agg #[.int .i64 ((rd_T31 l0 t264).f0), .int .i64 ((rd_T31 l0 t264).f1)], .agg #[.int .i64 ((rd_T31 l0 t265).f0), .int .i64 ((rd_T31 l0 t265).f1)], .agg #[.int .i64 ((rd_T31 l0 x5_3).f0), .int .i64 ((rd_T31 l0 x5_3).f1)]] (by rfl) rfl rfl (by (try simp only [List.map_toArray, List.map_cons, List.map_nil]); first | done | rfl | (simp only [List.length_drop, List.length_take]; rfl)) ?_
        with_reducible refine (R1_on.calls ((rd_T31 l0 t264).f0) ((rd_T31 l0 t264).f1) ((rd_T31 l0 t265).f0) ((rd_T31 l0 t265).f1) ((rd_T31 l0 x5_3).f0) ((rd_T31 l0 x5_3).f1) t277 _ A34.out).mono ?_
        rintro e w38 ⟨rfl, hb⟩
        refine ⟨_, rfl, ?_⟩
        have n0_ := Aside0.mk (below_step lB hb)
        clear HB
        have HB := n0_
        clear n0_
        (try clear hb)
        (try clear hb2)
        (try clear hk)
        (try clear hi)
        refine hK.out _ _ ⟨(cB HB.out hw266_0), (cB HB.out hw266_1), (cB HB.out hw267_0), (cB HB.out hw267_1), (cB HB.out hw268_0), (cB HB.out hw268_1), (cB HB.out hw270_0), (cB HB.out hw270_1), (cB HB.out hw271_0), (cB HB.out hw271_1), (cB HB.out hw272_0), (cB HB.out hw272_1), (cB HB.out hw274_0), (cB HB.out hw274_1), (cB HB.out hw275_0), (cB HB.out hw275_1), (cB HB.out hw276_0), (cB HB.out hw276_1)⟩ (fun hHeld => ?_)
        clear hK K
        refine nm 90 ?_
        refine pu 42 91 (Bs 43 44) HT_ ?_
        refine pu 43 92 (Bs 44 44) HT_ ?_
        refine done_ (done_of HT_.out (by kernel_rfl)) ?_
        try go_wp2
        go_meet
        case rel => exact ⟨_, (t277), (by first | rfl | (simp; done) | (simp [*]; done)), H', ⟨by have := HJ1.out; have := HK2.out; have := HK3.out; first | omega | exact Nat.le_refl _⟩, ⟨by repeat (first | (with_reducible first | exact HB.out | apply lA | apply lN | apply lD) | exact HB.out)⟩⟩
       case rest =>
        clear HC20
        try clear c2
        try clear p2
        try clear q2
        try clear hx2
        try clear c3
        try clear c5
        try clear c21
        try clear c22
        try clear c23
        try clear c24
        try clear c25
        try clear c26
        try clear p26
        try clear q26
        try clear hx26
        try clear c28
        try clear c28b0
        try clear c28b1
        try clear c31
        try clear hx266_0
        try clear hx266_1
        try clear hx267_0
        try clear hx267_1
        try clear hx268_0
        try clear hx268_1
        try clear p266
        try clear p267
        try clear p268
        try clear q266
        try clear q267
        try clear q268
        obtain ⟨kq, x92_19, rfl, HA, HJ19, HB⟩ := hcut
        cases kq with
        | zero => exact absurd HA.out (by simp [R1_Simple.j3])
        | succ kj19 =>
         have H := HA.out
         clear HA
         simp only [R1_Simple.j3] at H
         by_cases c41 : x92_19 = true
         ·subst c41
          have H1 : (some false) = some r := by rw [if_pos rfl] at H; exact H
          clear H
          have H := H1
          clear H1
          obtain rfl := Option.some.inj H
          go_wp2
          go_ret
          exact en
         replace c41 := Bool.eq_false_iff.mpr c41
         subst c41
         have H1 : (R1_Simple.l2 kj19 l0 (l0.length : Int) x5_3 t264 (wrap64 (x5_3 + 2))) = some r := by rw [if_neg (show ¬ (false = true) by decide)] at H; exact H
         clear H
         have H := H1
         clear H1
         have H' := Aside0.mk H
         clear H
         go_wp2
         go_loopg [8] kj19 (fun kq v8 w' => ∃ (x8_5 : Int), v8 = .int .i64 x8_5 ∧ Aside0 (R1_Simple.l2 kq l0 (l0.length : Int) x5_3 t264 x8_5 = some r) ∧ Aside0 (kq ≤ kj19) ∧ Aside0 (Below w.heap.size w w'))
         case atStart => exact ⟨(wrap64 (x5_3 + 2)), (by first | rfl | (simp; done) | (simp [*]; done)), H', ⟨Nat.le_refl _⟩, ⟨by repeat (first | (with_reducible first | exact HB.out | apply lA | apply lN | apply lD) | exact HB.out)⟩⟩
         case round =>
          clear H'
          try clear c2
          try clear p2
          try clear q2
          try clear hx2
          try clear c3
          try clear c4
          try clear c5
          try clear p6
          try clear c21
          try clear c22
          try clear c23
          try clear c24
          try clear c25
          try clear c26
          try clear p26
          try clear q26
          try clear hx26
          try clear c28
          try clear c28b0
          try clear c28b1
          try clear c31
          try clear c41
          try clear hx266_0
          try clear hx266_1
          try clear hx267_0
          try clear hx267_1
          try clear hx268_0
          try clear hx268_1
          try clear p2
          try clear p26
          try clear p266
          try clear p267
          try clear p268
          try clear q2
          try clear q26
          try clear q266
          try clear q267
          try clear q268
          obtain ⟨x8_5, rfl, HA, HK5, HB⟩ := hrel
          cases gk with
          | zero => exact absurd HA.out (by simp [R1_Simple.l2])
          | succ k5 =>
           have H := HA.out
           clear HA
           simp only [R1_Simple.l2] at H
           by_cases c42 : x8_5 < (l0.length : Int)
           rotate_left
           ·rw [if_neg c42] at H
            have c42b0 : decide (x8_5 < (l0.length : Int)) = false := decide_eq_false c42
            clear c42
            have H' := Aside0.mk H
            clear H
            go_wp2
            go_roundg k5
            case measure => have := HJ1.out; have := HK2.out; have := HK3.out; have := HJ19.out; have := HK5.out; omega
            case rel => exact ⟨(wrap64 (x5_3 + 1)), (by first | rfl | (simp; done) | (simp [*]; done)), H', ⟨by have := HJ1.out; have := HK2.out; have := HK3.out; have := HJ19.out; have := HK5.out; omega⟩, ⟨by repeat (first | (with_reducible first | exact HB.out | apply lA | apply lN | apply lD) | exact HB.out)⟩⟩
           rw [if_pos c42] at H
           have c42b0 : decide (x8_5 < (l0.length : Int)) = true := decide_eq_true c42
           clear c42
           replace H := Option.bind_eq_some_iff.mp H
           obtain ⟨t278, A430, H⟩ := H
           replace H : (if t278 = x5_3 then (R1_Simple.l2 k5 l0 (l0.length : Int) x5_3 t264 (wrap64 (x8_5 + 1))) else (if 0 ≤ x5_3 then (if x5_3 < (l0.length : Int) then (if 0 ≤ t264 then (if t264 < (l0.length : Int) then (if 0 ≤ x8_5 then (if x8_5 < (l0.length : Int) then ((R1_next.f x8_5 (l0.length : Int)).bind fun t282 => (if 0 ≤ t282 then (if t282 < (l0.length : Int) then ((R1_meet.f k5 ((rd_T31 l0 x5_3).f0) ((rd_T31 l0 x5_3).f1) ((rd_T31 l0 t264).f0) ((rd_T31 l0 t264).f1) ((rd_T31 l0 x8_5).f0) ((rd_T31 l0 x8_5).f1) ((rd_T31 l0 t282).f0) ((rd_T31 l0 t282).f1)).bind fun t284 => (if t284 = true then (some false) else (R1_Simple.l2 k5 l0 (l0.length : Int) x5_3 t264 (wrap64 (x8_5 + 1))))) else (none)) else (none))) else (none)) else (none)) else (none)) else (none)) else (none)) else (none))) = some r := H
           have A43 := Aside0.mk A430
           clear A430
           by_cases c44 : t278 = x5_3
           ·rw [if_pos c44] at H
            have c44b0 : (t278 == x5_3) = true := beq_iff_eq.mpr c44
            have c44b1 : (t278 != x5_3) = false := bne_eq_false_iff_eq.mpr c44
            clear c44
            have H' := Aside0.mk H
            clear H
            try go_wp2
            replace HB := Aside0.mk (lD HB.out)
            refine start_ (n := 26) (S := fun w' => True) (ds := []) (Bs 0 26) (by kernel_rfl) rfl rfl trivial (fun hHeld => ?_); refine with_tabW R1_Simple.tab19 R1_Simple.bits19 (fun HT_ HW_ => ?_)
            generalize wr.drew = w45 at HB hHeld ⊢
            refine pu 0 100 (Bs 1 26) HT_ ?_
            refine pu 1 101 (Bs 2 26) HT_ ?_
            refine pu 3 103 (Br [2,1,1,22]) HT_ ?_
            refine one_ (i := 2) (N := some 102) (Bs 4 26) rfl rfl (one_of HT_.out (by kernel_rfl)) (by decide) (fun K hK => ?_)
            refine goes_ Try.func54 (by kernel_rfl) rfl #[.int .i64 x8_5, .int .i64 (l0.length : Int)] (by rfl) rfl rfl (by (try simp only [List.map_toArray, List.map_cons, List.map_nil]); first | done | rfl | (simp only [List.length_drop, List.length_take]; rfl)) ?_
            with_reducible refine (R1_next.calls x8_5 (l0.length : Int) t278 _ A43.out).mono ?_
            rintro e w' ⟨rfl, ⟨nd, rfl⟩⟩
            refine ⟨_, rfl, ?_⟩
            refine hK.out _ _ trivial (fun hHeld => ?_)
            clear hK K
            refine nm 102 ?_
            refine pu 4 104 (Bs 5 26) HT_ ?_
            refine pu 5 105 (Bs 6 26) HT_ ?_
            refine po 6 106 (Bs 7 26) HT_ ?_
            refine po 7 107 (Bs 8 26) HT_ ?_
            refine po 8 108 (Bs 9 26) HT_ ?_
            refine po 9 109 (Bs 10 26) HT_ ?_
            refine po 10 110 (Bs 11 26) HT_ ?_
            refine po 11 111 (Bs 12 26) HT_ ?_
            refine po 12 112 (Bs 13 26) HT_ ?_
            refine po 13 113 (Bs 14 26) HT_ ?_
            refine po 14 114 (Bs 15 26) HT_ ?_
            refine po 15 115 (Bs 16 26) HT_ ?_
            refine po 16 116 (Bs 17 26) HT_ ?_
            refine po 17 117 (Bs 18 26) HT_ ?_
            refine po 18 118 (Bs 19 26) HT_ ?_
            refine po 19 119 (Bs 20 26) HT_ ?_
            refine po 20 120 (Bs 21 26) HT_ ?_
            refine po 21 121 (Bs 22 26) HT_ ?_
            refine po 22 122 (Bs 23 26) HT_ ?_
            refine po 23 123 (Bs 24 26) HT_ ?_
            refine po 24 124 (Bs 25 26) HT_ ?_
            refine pu 25 125 (Bs 26 26) HT_ ?_
            refine done_ (done_of HT_.out (by kernel_rfl)) ?_
            try go_wp2
            go_roundg k5
            case measure => have := HJ1.out; have := HK2.out; have := HK3.out; have := HJ19.out; have := HK5.out; omega
            case rel => exact ⟨(wrap64 (x8_5 + 1)), (by first | rfl | (simp; done) | (simp [*]; done)), H', ⟨by have := HJ1.out; have := HK2.out; have := HK3.out; have := HJ19.out; have := HK5.out; omega⟩, ⟨by repeat (first | (with_reducible first | exact HB.out | apply lA | apply lN | apply lD) | exact HB.out)⟩⟩
           rw [if_neg c44] at H
           have c44b0 : (t278 == x5_3) = false := beq_eq_false_iff_ne.mpr c44
           have c44b1 : (t278 != x5_3) = true := bne_iff_ne.mpr c44
           by_cases c46 : 0 ≤ x5_3
           rotate_left
           ·rw [if_neg c46] at H; exact absurd H (by simp)
           rw [if_pos c46] at H
           have c46b0 : decide (0 ≤ x5_3) = true := decide_eq_true c46
           clear c46
           by_cases c47 : x5_3 < (l0.length : Int)
           rotate_left
           ·rw [if_neg c47] at H; exact absurd H (by simp)
           rw [if_pos c47] at H
           have c47b0 : decide (x5_3 < (l0.length : Int)) = true := decide_eq_true c47
           clear c47
           by_cases c48 : 0 ≤ t264
           rotate_left
           ·rw [if_neg c48] at H; exact absurd H (by simp)
           rw [if_pos c48] at H
           have c48b0 : decide (0 ≤ t264) = true := decide_eq_true c48
           clear c48
           by_cases c49 : t264 < (l0.length : Int)
           rotate_left
           ·rw [if_neg c49] at H; exact absurd H (by simp)
           rw [if_pos c49] at H
           have c49b0 : decide (t264 < (l0.length : Int)) = true := decide_eq_true c49
           clear c49
           by_cases c50 : 0 ≤ x8_5
           rotate_left
           ·rw [if_neg c50] at H; exact absurd H (by simp)
           rw [if_pos c50] at H
           have c50b0 : decide (0 ≤ x8_5) = true := decide_eq_true c50
           clear c50
           by_cases c51 : x8_5 < (l0.length : Int)
           rotate_left
           ·rw [if_neg c51] at H; exact absurd H (by simp)
           rw [if_pos c51] at H
           have c51b0 : decide (x8_5 < (l0.length : Int)) = true := decide_eq_true c51
           clear c51
           replace H := Option.bind_eq_some_iff.mp H
           obtain ⟨t282, A520, H⟩ := H
           replace H : (if 0 ≤ t282 then (if t282 < (l0.length : Int) then ((R1_meet.f k5 ((rd_T31 l0 x5_3).f0) ((rd_T31 l0 x5_3).f1) ((rd_T31 l0 t264).f0) ((rd_T31 l0 t264).f1) ((rd_T31 l0 x8_5).f0) ((rd_T31 l0 x8_5).f1) ((rd_T31 l0 t282).f0) ((rd_T31 l0 t282).f1)).bind fun t284 => (if t284 = true then (some false) else (R1_Simple.l2 k5 l0 (l0.length : Int) x5_3 t264 (wrap64 (x8_5 + 1))))) else (none)) else (none)) = some r := H
           have A52 := Aside0.mk A520
           clear A520
           by_cases c53 : 0 ≤ t282
           rotate_left
           ·rw [if_neg c53] at H; exact absurd H (by simp)
           rw [if_pos c53] at H
           have c53b0 : decide (0 ≤ t282) = true := decide_eq_true c53
           clear c53
           by_cases c54 : t282 < (l0.length : Int)
           rotate_left
           ·rw [if_neg c54] at H; exact absurd H (by simp)
           rw [if_pos c54] at H
           have c54b0 : decide (t282 < (l0.length : Int)) = true := decide_eq_true c54
           clear c54
           replace H := Option.bind_eq_some_iff.mp H
           obtain ⟨t284, A550, H⟩ := H
           replace H : (if t284 = true then (some false) else (R1_Simple.l2 k5 l0 (l0.length : Int) x5_3 t264 (wrap64 (x8_5 + 1)))) = some r := H
           have A55 := Aside0.mk A550
           clear A550
           by_cases c56 : t284 = true
           ·subst c56
            have H1 : (some false) = some r := by rw [if_pos rfl] at H; exact H
            clear H
            have H := H1
            clear H1
            obtain rfl := Option.some.inj H
            try go_wp2
            replace HB := Aside0.mk (lD HB.out)
            have p279 : 0 ≤ (x5_3 : Int) := of_decide_eq_true (by first | (with_reducible assumption) | assumption)
            have q279 : x5_3 < (l0.length : Int) := of_decide_eq_true (by first | (with_reducible assumption) | assumption)
            obtain ⟨ad279, e279, hx279_0, hx279_1⟩ := at_T31 HR0.out x5_3 p279 q279
            have hw279_1 := hx279_1
            have hw279_0 := hx279_0
            cases e279
            replace hx279_0 := cB HB.out hx279_0
            replace hx279_1 := cB HB.out hx279_1
            replace p279 := eq_true p279
            replace q279 := eq_true q279
            have p280 : 0 ≤ (t264 : Int) := of_decide_eq_true (by first | (with_reducible assumption) | assumption)
            have q280 : t264 < (l0.length : Int) := of_decide_eq_true (by first | (with_reducible assumption) | assumption)
            obtain ⟨ad280, e280, hx280_0, hx280_1⟩ := at_T31 HR0.out t264 p280 q280
            have hw280_1 := hx280_1
            have hw280_0 := hx280_0
            obtain rfl : ad279 = ad280 := (by injection e280)
            replace hx280_0 := cB HB.out hx280_0
            replace hx280_1 := cB HB.out hx280_1
            replace p280 := eq_true p280
            replace q280 := eq_true q280
            have p281 : 0 ≤ (x8_5 : Int) := of_decide_eq_true (by first | (with_reducible assumption) | assumption)
            have q281 : x8_5 < (l0.length : Int) := of_decide_eq_true (by first | (with_reducible assumption) | assumption)
            obtain ⟨ad281, e281, hx281_0, hx281_1⟩ := at_T31 HR0.out x8_5 p281 q281
            have hw281_1 := hx281_1
            have hw281_0 := hx281_0
            obtain rfl : ad279 = ad281 := (by injection e281)
            replace hx281_0 := cB HB.out hx281_0
            replace hx281_1 := cB HB.out hx281_1
            replace p281 := eq_true p281
            replace q281 := eq_true q281
            have p283 : 0 ≤ (t282 : Int) := of_decide_eq_true (by first | (with_reducible assumption) | assumption)
            have q283 : t282 < (l0.length : Int) := of_decide_eq_true (by first | (with_reducible assumption) | assumption)
            obtain ⟨ad283, e283, hx283_0, hx283_1⟩ := at_T31 HR0.out t282 p283 q283
            have hw283_1 := hx283_1
            have hw283_0 := hx283_0
            obtain rfl : ad279 = ad283 := (by injection e283)
            replace hx283_0 := cB HB.out hx283_0
            replace hx283_1 := cB HB.out hx283_1
            replace p283 := eq_true p283
            replace q283 := eq_true q283
            refine start_ (n := 26) (S := fun w' => w'.cell? (ad279.add ((x5_3).toNat * 2)) = some (.int .i64 ((rd_T31 l0 x5_3).f0)) ∧ w'.cell? ⟨(ad279.add ((x5_3).toNat * 2)).block, (ad279.add ((x5_3).toNat * 2)).off + 1, none⟩ = some (.int .i64 ((rd_T31 l0 x5_3).f1)) ∧ w'.cell? (ad279.add ((t264).toNat * 2)) = some (.int .i64 ((rd_T31 l0 t264).f0)) ∧ w'.cell? ⟨(ad279.add ((t264).toNat * 2)).block, (ad279.add ((t264).toNat * 2)).off + 1, none⟩ = some (.int .i64 ((rd_T31 l0 t264).f1)) ∧ w'.cell? (ad279.add ((x8_5).toNat * 2)) = some (.int .i64 ((rd_T31 l0 x8_5).f0)) ∧ w'.cell? ⟨(ad279.add ((x8_5).toNat * 2)).block, (ad279.add ((x8_5).toNat * 2)).off + 1, none⟩ = some (.int .i64 ((rd_T31 l0 x8_5).f1)) ∧ w'.cell? (ad279.add ((t282).toNat * 2)) = some (.int .i64 ((rd_T31 l0 t282).f0)) ∧ w'.cell? ⟨(ad279.add ((t282).toNat * 2)).block, (ad279.add ((t282).toNat * 2)).off + 1, none⟩ = some (.int .i64 ((rd_T31 l0 t282).f1))) (ds := []) (Bs 0 26) (by kernel_rfl) rfl rfl ⟨(cB HB.out hw279_0), (cB HB.out hw279_1), (cB HB.out hw280_0), (cB HB.out hw280_1), (cB HB.out hw281_0), (cB HB.out hw281_1), (cB HB.out hw283_0), (cB HB.out hw283_1)⟩ (fun hHeld => ?_); refine with_tabW R1_Simple.tab19 R1_Simple.bits19 (fun HT_ HW_ => ?_)
            generalize wr.drew = w57 at HB hx279_0 hx279_1 hx280_0 hx280_1 hx281_0 hx281_1 hx283_0 hx283_1 hHeld ⊢
            refine pu 0 100 (Bs 1 26) HT_ ?_
            refine pu 1 101 (Bs 2 26) HT_ ?_
            refine pu 3 103 (Br [2,1,1,22]) HT_ ?_
            refine one_ (i := 2) (N := some 102) (Bs 4 26) rfl rfl (one_of HT_.out (by kernel_rfl)) (by decide) (fun K hK => ?_)
            refine goes_ Try.func54 (by kernel_rfl) rfl #[.int .i64 x8_5, .int .i64 (l0.length : Int)] (by rfl) rfl rfl (by (try simp only [List.map_toArray, List.map_cons, List.map_nil]); first | done | rfl | (simp only [List.length_drop, List.length_take]; rfl)) ?_
            with_reducible refine (R1_next.calls x8_5 (l0.length : Int) t278 _ A43.out).mono ?_
            rintro e w' ⟨rfl, ⟨nd, rfl⟩⟩
            refine ⟨_, rfl, ?_⟩
            refine hK.out _ _ ⟨(cB HB.out hw279_0), (cB HB.out hw279_1), (cB HB.out hw280_0), (cB HB.out hw280_1), (cB HB.out hw281_0), (cB HB.out hw281_1), (cB HB.out hw283_0), (cB HB.out hw283_1)⟩ (fun hHeld => ?_)
            clear hK K
            refine nm 102 ?_
            refine pu 4 104 (Bs 5 26) HT_ ?_
            refine pu 5 105 (Bs 6 26) HT_ ?_
            refine pu 6 106 (Bs 7 26) HT_ ?_
            refine pu 7 107 (Bs 8 26) HT_ ?_
            refine pu 8 108 (Bs 9 26) HT_ ?_
            refine pu 10 110 (Br [9,1,1,15]) HT_ ?_
            refine pu 11 111 (Br [9,1,2,14]) HT_ ?_
            refine pu 12 112 (Br [9,1,3,13]) HT_ ?_
            refine pu 14 114 (Br [9,1,3,1,1,11]) HT_ ?_
            refine pu 15 115 (Br [9,1,3,1,2,10]) HT_ ?_
            refine pu 16 116 (Br [9,1,3,1,3,9]) HT_ ?_
            refine pu 18 118 (Br [9,1,3,1,3,1,1,7]) HT_ ?_
            refine pu 19 119 (Br [9,1,3,1,3,1,2,6]) HT_ ?_
            refine pu 20 120 (Br [9,1,3,1,3,1,3,5]) HT_ ?_
            refine ta 9 109 (Br [13,1,3,1,3,5]) HT_ HW_ hHeld ?_
            refine ta 13 113 (Br [17,1,3,5]) HT_ HW_ hHeld ?_
            refine ta 17 117 (Bs 21 26) HT_ HW_ hHeld ?_
            refine one_ (i := 21) (N := some 121) (Bs 22 26) rfl rfl (one_of HT_.out (by kernel_rfl)) (by decide) (fun K hK => ?_)
            refine goes_ Try.func54 (by kernel_rfl) rfl #[.int .i64 x8_5, .int .i64 (l0.length : Int)] (by rfl) rfl rfl (by (try simp only [List.map_toArray, List.map_cons, List.map_nil]); first | done | rfl | (simp only [List.length_drop, List.length_take]; rfl)) ?_
            with_reducible refine (R1_next.calls x8_5 (l0.length : Int) t282 _ A52.out).mono ?_
            rintro e w' ⟨rfl, ⟨nd, rfl⟩⟩
            refine ⟨_, rfl, ?_⟩
            refine hK.out _ _ ⟨(cB HB.out hw279_0), (cB HB.out hw279_1), (cB HB.out hw280_0), (cB HB.out hw280_1), (cB HB.out hw281_0), (cB HB.out hw281_1), (cB HB.out hw283_0), (cB HB.out hw283_1)⟩ (fun hHeld => ?_)
            clear hK K
            refine nm 121 ?_
            refine pu 22 122 (Bs 23 26) HT_ ?_
            refine ta 23 123 (Bs 24 26) HT_ HW_ hHeld ?_
            refine one_ (i := 24) (N := some 124) (Bs 25 26) rfl rfl (one_of HT_.out (by kernel_rfl)) (by decide) (fun K hK => ?_)
            refine goes_ Try.func60 (by kernel_rfl) rfl #[.agg #[.int .i64 ((rd_T31 l0 x5_3).f0), .int .i64 ((rd_T31 l0 x5_3).f1)], .agg #[.int .i64 ((rd_T31 l0 t264).f0), .int .i64 ((rd_T31 l0 t264).f1)], .agg #[.int .i64 ((rd_T31 l0 x8_5).f0), .int .i64 ((rd_T31 l0 x8_5).f1)], .agg #[.int .i64 ((rd_T31 l0 t282).f0), .int .i64 ((rd_T31 l0 t282).f1)]] (by rfl) rfl rfl (by (try simp only [List.map_toArray, List.map_cons, List.map_nil]); first | done | rfl | (simp only [List.length_drop, List.length_take]; rfl)) ?_
            with_reducible refine (R1_meet.calls k5 ((rd_T31 l0 x5_3).f0) ((rd_T31 l0 x5_3).f1) ((rd_T31 l0 t264).f0) ((rd_T31 l0 t264).f1) ((rd_T31 l0 x8_5).f0) ((rd_T31 l0 x8_5).f1) ((rd_T31 l0 t282).f0) ((rd_T31 l0 t282).f1) true _ A55.out).mono ?_
            rintro e w58 ⟨rfl, hb⟩
            refine ⟨_, rfl, ?_⟩
            have n0_ := Aside0.mk (below_step lB hb)
            clear HB
            have HB := n0_
            clear n0_
            (try clear hb)
            (try clear hb2)
            (try clear hk)
            (try clear hi)
            refine hK.out _ _ ⟨(cB HB.out hw279_0), (cB HB.out hw279_1), (cB HB.out hw280_0), (cB HB.out hw280_1), (cB HB.out hw281_0), (cB HB.out hw281_1), (cB HB.out hw283_0), (cB HB.out hw283_1)⟩ (fun hHeld => ?_)
            clear hK K
            refine nm 124 ?_
            refine pu 25 125 (Bs 26 26) HT_ ?_
            refine done_ (done_of HT_.out (by kernel_rfl)) ?_
            try go_wp2
            go_ret
            exact en
           replace c56 := Bool.eq_false_iff.mpr c56
           subst c56
           have H1 : (R1_Simple.l2 k5 l0 (l0.length : Int) x5_3 t264 (wrap64 (x8_5 + 1))) = some r := by rw [if_neg (show ¬ (false = true) by decide)] at H; exact H
           clear H
           have H := H1
           clear H1
           have H' := Aside0.mk H
           clear H
           try go_wp2
           replace HB := Aside0.mk (lD HB.out)
           have p279 : 0 ≤ (x5_3 : Int) := of_decide_eq_true (by first | (with_reducible assumption) | assumption)
           have q279 : x5_3 < (l0.length : Int) := of_decide_eq_true (by first | (with_reducible assumption) | assumption)
           obtain ⟨ad279, e279, hx279_0, hx279_1⟩ := at_T31 HR0.out x5_3 p279 q279
           have hw279_1 := hx279_1
           have hw279_0 := hx279_0
           cases e279
           replace hx279_0 := cB HB.out hx279_0
           replace hx279_1 := cB HB.out hx279_1
           replace p279 := eq_true p279
           replace q279 := eq_true q279
           have p280 : 0 ≤ (t264 : Int) := of_decide_eq_true (by first | (with_reducible assumption) | assumption)
           have q280 : t264 < (l0.length : Int) := of_decide_eq_true (by first | (with_reducible assumption) | assumption)
           obtain ⟨ad280, e280, hx280_0, hx280_1⟩ := at_T31 HR0.out t264 p280 q280
           have hw280_1 := hx280_1
           have hw280_0 := hx280_0
           obtain rfl : ad279 = ad280 := (by injection e280)
           replace hx280_0 := cB HB.out hx280_0
           replace hx280_1 := cB HB.out hx280_1
           replace p280 := eq_true p280
           replace q280 := eq_true q280
           have p281 : 0 ≤ (x8_5 : Int) := of_decide_eq_true (by first | (with_reducible assumption) | assumption)
           have q281 : x8_5 < (l0.length : Int) := of_decide_eq_true (by first | (with_reducible assumption) | assumption)
           obtain ⟨ad281, e281, hx281_0, hx281_1⟩ := at_T31 HR0.out x8_5 p281 q281
           have hw281_1 := hx281_1
           have hw281_0 := hx281_0
           obtain rfl : ad279 = ad281 := (by injection e281)
           replace hx281_0 := cB HB.out hx281_0
           replace hx281_1 := cB HB.out hx281_1
           replace p281 := eq_true p281
           replace q281 := eq_true q281
           have p283 : 0 ≤ (t282 : Int) := of_decide_eq_true (by first | (with_reducible assumption) | assumption)
           have q283 : t282 < (l0.length : Int) := of_decide_eq_true (by first | (with_reducible assumption) | assumption)
           obtain ⟨ad283, e283, hx283_0, hx283_1⟩ := at_T31 HR0.out t282 p283 q283
           have hw283_1 := hx283_1
           have hw283_0 := hx283_0
           obtain rfl : ad279 = ad283 := (by injection e283)
           replace hx283_0 := cB HB.out hx283_0
           replace hx283_1 := cB HB.out hx283_1
           replace p283 := eq_true p283
           replace q283 := eq_true q283
           refine start_ (n := 26) (S := fun w' => w'.cell? (ad279.add ((x5_3).toNat * 2)) = some (.int .i64 ((rd_T31 l0 x5_3).f0)) ∧ w'.cell? ⟨(ad279.add ((x5_3).toNat * 2)).block, (ad279.add ((x5_3).toNat * 2)).off + 1, none⟩ = some (.int .i64 ((rd_T31 l0 x5_3).f1)) ∧ w'.cell? (ad279.add ((t264).toNat * 2)) = some (.int .i64 ((rd_T31 l0 t264).f0)) ∧ w'.cell? ⟨(ad279.add ((t264).toNat * 2)).block, (ad279.add ((t264).toNat * 2)).off + 1, none⟩ = some (.int .i64 ((rd_T31 l0 t264).f1)) ∧ w'.cell? (ad279.add ((x8_5).toNat * 2)) = some (.int .i64 ((rd_T31 l0 x8_5).f0)) ∧ w'.cell? ⟨(ad279.add ((x8_5).toNat * 2)).block, (ad279.add ((x8_5).toNat * 2)).off + 1, none⟩ = some (.int .i64 ((rd_T31 l0 x8_5).f1)) ∧ w'.cell? (ad279.add ((t282).toNat * 2)) = some (.int .i64 ((rd_T31 l0 t282).f0)) ∧ w'.cell? ⟨(ad279.add ((t282).toNat * 2)).block, (ad279.add ((t282).toNat * 2)).off + 1, none⟩ = some (.int .i64 ((rd_T31 l0 t282).f1))) (ds := []) (Bs 0 26) (by kernel_rfl) rfl rfl ⟨(cB HB.out hw279_0), (cB HB.out hw279_1), (cB HB.out hw280_0), (cB HB.out hw280_1), (cB HB.out hw281_0), (cB HB.out hw281_1), (cB HB.out hw283_0), (cB HB.out hw283_1)⟩ (fun hHeld => ?_); refine with_tabW R1_Simple.tab19 R1_Simple.bits19 (fun HT_ HW_ => ?_)
           generalize wr.drew = w59 at HB hx279_0 hx279_1 hx280_0 hx280_1 hx281_0 hx281_1 hx283_0 hx283_1 hHeld ⊢
           refine pu 0 100 (Bs 1 26) HT_ ?_
           refine pu 1 101 (Bs 2 26) HT_ ?_
           refine pu 3 103 (Br [2,1,1,22]) HT_ ?_
           refine one_ (i := 2) (N := some 102) (Bs 4 26) rfl rfl (one_of HT_.out (by kernel_rfl)) (by decide) (fun K hK => ?_)
           refine goes_ Try.func54 (by kernel_rfl) rfl #[.int .i64 x8_5, .int .i64 (l0.length : Int)] (by rfl) rfl rfl (by (try simp only [List.map_toArray, List.map_cons, List.map_nil]); first | done | rfl | (simp only [List.length_drop, List.length_take]; rfl)) ?_
           with_reducible refine (R1_next.calls x8_5 (l0.length : Int) t278 _ A43.out).mono ?_
           rintro e w' ⟨rfl, ⟨nd, rfl⟩⟩
           refine ⟨_, rfl, ?_⟩
           refine hK.out _ _ ⟨(cB HB.out hw279_0), (cB HB.out hw279_1), (cB HB.out hw280_0), (cB HB.out hw280_1), (cB HB.out hw281_0), (cB HB.out hw281_1), (cB HB.out hw283_0), (cB HB.out hw283_1)⟩ (fun hHeld => ?_)
           clear hK K
           refine nm 102 ?_
           refine pu 4 104 (Bs 5 26) HT_ ?_
           refine pu 5 105 (Bs 6 26) HT_ ?_
           refine pu 6 106 (Bs 7 26) HT_ ?_
           refine pu 7 107 (Bs 8 26) HT_ ?_
           refine pu 8 108 (Bs 9 26) HT_ ?_
           refine pu 10 110 (Br [9,1,1,15]) HT_ ?_
           refine pu 11 111 (Br [9,1,2,14]) HT_ ?_
           refine pu 12 112 (Br [9,1,3,13]) HT_ ?_
           refine pu 14 114 (Br [9,1,3,1,1,11]) HT_ ?_
           refine pu 15 115 (Br [9,1,3,1,2,10]) HT_ ?_
           refine pu 16 116 (Br [9,1,3,1,3,9]) HT_ ?_
           refine pu 18 118 (Br [9,1,3,1,3,1,1,7]) HT_ ?_
           refine pu 19 119 (Br [9,1,3,1,3,1,2,6]) HT_ ?_
           refine pu 20 120 (Br [9,1,3,1,3,1,3,5]) HT_ ?_
           refine ta 9 109 (Br [13,1,3,1,3,5]) HT_ HW_ hHeld ?_
           refine ta 13 113 (Br [17,1,3,5]) HT_ HW_ hHeld ?_
           refine ta 17 117 (Bs 21 26) HT_ HW_ hHeld ?_
           refine one_ (i := 21) (N := some 121) (Bs 22 26) rfl rfl (one_of HT_.out (by kernel_rfl)) (by decide) (fun K hK => ?_)
           refine goes_ Try.func54 (by kernel_rfl) rfl #[.int .i64 x8_5, .int .i64 (l0.length : Int)] (by rfl) rfl rfl (by (try simp only [List.map_toArray, List.map_cons, List.map_nil]); first | done | rfl | (simp only [List.length_drop, List.length_take]; rfl)) ?_
           with_reducible refine (R1_next.calls x8_5 (l0.length : Int) t282 _ A52.out).mono ?_
           rintro e w' ⟨rfl, ⟨nd, rfl⟩⟩
           refine ⟨_, rfl, ?_⟩
           refine hK.out _ _ ⟨(cB HB.out hw279_0), (cB HB.out hw279_1), (cB HB.out hw280_0), (cB HB.out hw280_1), (cB HB.out hw281_0), (cB HB.out hw281_1), (cB HB.out hw283_0), (cB HB.out hw283_1)⟩ (fun hHeld => ?_)
           clear hK K
           refine nm 121 ?_
           refine pu 22 122 (Bs 23 26) HT_ ?_
           refine ta 23 123 (Bs 24 26) HT_ HW_ hHeld ?_
           refine one_ (i := 24) (N := some 124) (Bs 25 26) rfl rfl (one_of HT_.out (by kernel_rfl)) (by decide) (fun K hK => ?_)
           refine goes_ Try.func60 (by kernel_rfl) rfl #[.agg #[.int .i64 ((rd_T31 l0 x5_3).f0), .int .i64 ((rd_T31 l0 x5_3).f1)], .agg #[.int .i64 ((rd_T31 l0 t264).f0), .int .i64 ((rd_T31 l0 t264).f1)], .agg #[.int .i64 ((rd_T31 l0 x8_5).f0), .int .i64 ((rd_T31 l0 x8_5).f1)], .agg #[.int .i64 ((rd_T31 l0 t282).f0), .int .i64 ((rd_T31 l0 t282).f1)]] (by rfl) rfl rfl (by (try simp only [List.map_toArray, List.map_cons, List.map_nil]); first | done | rfl | (simp only [List.length_drop, List.length_take]; rfl)) ?_
           with_reducible refine (R1_meet.calls k5 ((rd_T31 l0 x5_3).f0) ((rd_T31 l0 x5_3).f1) ((rd_T31 l0 t264).f0) ((rd_T31 l0 t264).f1) ((rd_T31 l0 x8_5).f0) ((rd_T31 l0 x8_5).f1) ((rd_T31 l0 t282).f0) ((rd_T31 l0 t282).f1) false _ A55.out).mono ?_
           rintro e w60 ⟨rfl, hb⟩
           refine ⟨_, rfl, ?_⟩
           have n0_ := Aside0.mk (below_step lB hb)
           clear HB
           have HB := n0_
           clear n0_
           (try clear hb)
           (try clear hb2)
           (try clear hk)
           (try clear hi)
           refine hK.out _ _ ⟨(cB HB.out hw279_0), (cB HB.out hw279_1), (cB HB.out hw280_0), (cB HB.out hw280_1), (cB HB.out hw281_0), (cB HB.out hw281_1), (cB HB.out hw283_0), (cB HB.out hw283_1)⟩ (fun hHeld => ?_)
           clear hK K
           refine nm 124 ?_
           refine pu 25 125 (Bs 26 26) HT_ ?_
           refine done_ (done_of HT_.out (by kernel_rfl)) ?_
           try go_wp2
           go_roundg k5
           case measure => have := HJ1.out; have := HK2.out; have := HK3.out; have := HJ19.out; have := HK5.out; omega
           case rel => exact ⟨(wrap64 (x8_5 + 1)), (by first | rfl | (simp; done) | (simp [*]; done)), H', ⟨by have := HJ1.out; have := HK2.out; have := HK3.out; have := HJ19.out; have := HK5.out; omega⟩, ⟨by repeat (first | (with_reducible first | exact HB.out | apply lA | apply lN | apply lD) | exact HB.out)⟩⟩

end Go.Proofs.Ythaklbjcjoolcaa.P
namespace Go.Proofs.Ythaklbjcjoolcaa.P
open Go.RowKit YthaklbjcjoolcaaW.PrintWords YthaklbjcjoolcaaW.PrintLast YthaklbjcjoolcaaW.PrintMore
section
variable {P : Program} {ops : Array Oper} {Q : Exit → Act → World → Prop} {md : Region.Mode} {S : World → Prop} {ds : List Nat}
abbrev Bx (W : World) (g : Nat) (x y : Int) : Prop := W.heap[g]? = some (.cells #[.int .i64 x, .int .i64 y] 31 (0, 0))
abbrev pq (g : Nat) : Value := .pointer (some ⟨g, 0, none⟩)
theorem act_comm (a : Act) {m n : Nat} (h : m ≠ n) (u v : Value) : (a.put (some m) u).put (some n) v = (a.put (some n) v).put (some m) u := by
 show ({ a with tmps := (a.tmps.setIfInBounds m u).setIfInBounds n v } : Act) = { a with tmps := (a.tmps.setIfInBounds n v).setIfInBounds m u }
 rw [Array.setIfInBounds_comm _ _ h]
def MkB (P : Program) (ops : Array Oper) (oi : Oper) (ob : Obj) : Prop := ∀ (a : Act) (W : World), Region.wanted oi (yielded ops a.tmps) = true ∧ (execOp a.eval oi).run P W = .ok (.value (pq W.heap.size)) (W.alloc ob)
theorem mk_step {oi : Oper} {ob : Obj} {a : Act} {W : World} {N : Nat} {K : Act → World → Prop} (m : MkB P ops oi ob) (hN : oi.dst = some N) (h : K (a.put (some N) (pq W.heap.size)) (W.alloc ob)) : if Region.wanted oi (yielded ops a.tmps) = true then Oper.wp P oi a W K Q else K (a.put (some N) undef) W := by
 rw [← hN] at h ⊢
 exact event_step (m a W).1 (m a W).2 h
theorem boxes3 {i j k : Nat} {Ni Nj Nk : Nat} {oi oj ok : Oper} {ob : Obj} {fuel : Nat} {l : Array Bool} {a : Act} {w : World} (li lj lk lij lik ljk l' : Array Bool)
  (hi : ops[i]? = some oi) (hj : ops[j]? = some oj) (hk : ops[k]? = some ok) (hNi : oi.dst = some Ni) (hNj : oj.dst = some Nj) (hNk : ok.dst = some Nk) (mi : MkB P ops oi ob) (mj : MkB P ops oj ob) (mk : MkB P ops ok ob)
  (c3 : (Region.ready md ops l == [i, j, k] && l.setIfInBounds i true == li && l.setIfInBounds j true == lj && l.setIfInBounds k true == lk) = true)
  (ci : (Region.ready md ops li == [j, k] && li.setIfInBounds j true == lij && li.setIfInBounds k true == lik) = true)
  (cj : (Region.ready md ops lj == [i, k] && lj.setIfInBounds i true == lij && lj.setIfInBounds k true == ljk) = true)
  (ck : (Region.ready md ops lk == [i, j] && lk.setIfInBounds i true == lik && lk.setIfInBounds j true == ljk) = true)
  (cij : readyB md ops lij l' k = true) (cik : readyB md ops lik l' j = true) (cjk : readyB md ops ljk l' i = true)
  (di : i ∉ ds) (dj : j ∉ ds) (dk : k ∉ ds) (nij : Ni ≠ Nj) (nik : Ni ≠ Nk) (njk : Nj ≠ Nk) (hSa : ∀ W, S W → S (W.alloc ob)) (hS : S w)
  (h : ∀ g1 g2 g3 w', S w' → w'.heap[g1]? = some ob → w'.heap[g2]? = some ob → w'.heap[g3]? = some ob → w.heap.size ≤ g1 → w.heap.size ≤ g2 → w.heap.size ≤ g3 → g1 ≠ g2 → g1 ≠ g3 → g2 ≠ g3 → Below w.heap.size w w' →
   wpAnyLast P md ops Q S ds fuel l' (((a.put (some Ni) (pq g1)).put (some Nj) (pq g2)).put (some Nk) (pq g3)) w') : wpAnyLast P md ops Q S ds (fuel + 3) l a w := by
 obtain ⟨n, hn⟩ : ∃ n, n = w.heap.size := ⟨_, rfl⟩
 have s1 : (w.alloc ob).heap.size = n + 1 := by simp [hn]
 have s2 : ((w.alloc ob).alloc ob).heap.size = n + 2 := by simp [hn]
 have b3 : Below w.heap.size w (((w.alloc ob).alloc ob).alloc ob) := below_alloc (below_alloc (below_alloc (Below.refl _ _) _) _) _
 have k1 : (((w.alloc ob).alloc ob).alloc ob).heap[n]? = some ob := by
  rw [(MapKept.heap_alloc _ ob).2 n (by omega), (MapKept.heap_alloc _ ob).2 n (by omega), hn]; exact (MapKept.heap_alloc w ob).1
 have k2 : (((w.alloc ob).alloc ob).alloc ob).heap[n + 1]? = some ob := by
  rw [(MapKept.heap_alloc _ ob).2 (n + 1) (by omega), ← s1]; exact (MapKept.heap_alloc _ ob).1
 have k3 : (((w.alloc ob).alloc ob).alloc ob).heap[n + 2]? = some ob := by
  rw [← s2]; exact (MapKept.heap_alloc _ ob).1
 have h1 := hSa _ hS; have h2 := hSa _ h1; have h3 := hSa _ h2
 have key : ∀ x y z, (x = n ∨ x = n + 1 ∨ x = n + 2) → (y = n ∨ y = n + 1 ∨ y = n + 2) → (z = n ∨ z = n + 1 ∨ z = n + 2) → x ≠ y → x ≠ z → y ≠ z → wpAnyLast P md ops Q S ds fuel l' (((a.put (some Ni) (pq x)).put (some Nj) (pq y)).put (some Nk) (pq z)) (((w.alloc ob).alloc ob).alloc ob) := by
  intro x y z hx hy hz e1 e2 e3
  have kk : ∀ u, (u = n ∨ u = n + 1 ∨ u = n + 2) → (((w.alloc ob).alloc ob).alloc ob).heap[u]? = some ob := by
   rintro u (rfl | rfl | rfl)
   ·exact k1
   ·exact k2
   ·exact k3
  exact h x y z _ h3 (kk x hx) (kk y hy) (kk z hz) (by omega) (by omega) (by omega) e1 e2 e3 b3
 refine three_ (i := i) (j := j) (k := k) (Ni := some Ni) (Nj := some Nj) (Nk := some Nk) li lj lk hi hj hk hNi hNj hNk c3 di dj dk (fun K hK => ?_) (fun K hK => ?_) (fun K hK => ?_)
 ·refine mk_step mi hNi (hK.out _ _ h1 (fun _ => ?_)); rw [← hn]
  refine two_ (i := j) (j := k) (Ni := some Nj) (Nj := some Nk) lij lik hj hk hNj hNk ci dj dk (fun K hK => ?_) (fun K hK => ?_)
  ·refine mk_step mj hNj (hK.out _ _ h2 (fun _ => ?_)); rw [s1]
   refine one_ (i := k) (N := some Nk) l' hk hNk cij dk (fun K hK => ?_)
   refine mk_step mk hNk (hK.out _ _ h3 (fun _ => ?_)); rw [s2]
   exact key n (n + 1) (n + 2) (by omega) (by omega) (by omega) (by omega) (by omega) (by omega)
  ·refine mk_step mk hNk (hK.out _ _ h2 (fun _ => ?_)); rw [s1]
   refine one_ (i := j) (N := some Nj) l' hj hNj cik dj (fun K hK => ?_)
   refine mk_step mj hNj (hK.out _ _ h3 (fun _ => ?_)); rw [s2, act_comm _ (Ne.symm njk)]
   exact key n (n + 2) (n + 1) (by omega) (by omega) (by omega) (by omega) (by omega) (by omega)
 ·refine mk_step mj hNj (hK.out _ _ h1 (fun _ => ?_)); rw [← hn]
  refine two_ (i := i) (j := k) (Ni := some Ni) (Nj := some Nk) lij ljk hi hk hNi hNk cj di dk (fun K hK => ?_) (fun K hK => ?_)
  ·refine mk_step mi hNi (hK.out _ _ h2 (fun _ => ?_)); rw [s1]
   refine one_ (i := k) (N := some Nk) l' hk hNk cij dk (fun K hK => ?_)
   refine mk_step mk hNk (hK.out _ _ h3 (fun _ => ?_)); rw [s2, act_comm a (Ne.symm nij)]
   exact key (n + 1) n (n + 2) (by omega) (by omega) (by omega) (by omega) (by omega) (by omega)
  ·refine mk_step mk hNk (hK.out _ _ h2 (fun _ => ?_)); rw [s1]
   refine one_ (i := i) (N := some Ni) l' hi hNi cjk di (fun K hK => ?_)
   refine mk_step mi hNi (hK.out _ _ h3 (fun _ => ?_)); rw [s2, act_comm _ (Ne.symm nik), act_comm a (Ne.symm nij)]
   exact key (n + 2) n (n + 1) (by omega) (by omega) (by omega) (by omega) (by omega) (by omega)
 ·refine mk_step mk hNk (hK.out _ _ h1 (fun _ => ?_)); rw [← hn]
  refine two_ (i := i) (j := j) (Ni := some Ni) (Nj := some Nj) lik ljk hi hj hNi hNj ck di dj (fun K hK => ?_) (fun K hK => ?_)
  ·refine mk_step mi hNi (hK.out _ _ h2 (fun _ => ?_)); rw [s1]
   refine one_ (i := j) (N := some Nj) l' hj hNj cik dj (fun K hK => ?_)
   refine mk_step mj hNj (hK.out _ _ h3 (fun _ => ?_)); rw [s2, act_comm a (Ne.symm nik), act_comm _ (Ne.symm njk)]
   exact key (n + 1) (n + 2) n (by omega) (by omega) (by omega) (by omega) (by omega) (by omega)
  ·refine mk_step mj hNj (hK.out _ _ h2 (fun _ => ?_)); rw [s1]
   refine one_ (i := i) (N := some Ni) l' hi hNi cjk di (fun K hK => ?_)
   refine mk_step mi hNi (hK.out _ _ h3 (fun _ => ?_)); rw [s2, act_comm _ (Ne.symm nij), act_comm a (Ne.symm nik), act_comm _ (Ne.symm njk)]
   exact key (n + 2) (n + 1) n (by omega) (by omega) (by omega) (by omega) (by omega) (by omega)
structure Wr (W W1 : World) (g : Nat) (x y : Int) : Prop where
 box : Bx W1 g x y
 far : ∀ b, b ≠ g → W1.heap[b]? = W.heap[b]?
 size : W1.heap.size = W.heap.size
 os : W1.os = W.os
 tape : W1.tape = W.tape
 output : W1.output = W.output
theorem Wr.below {w W W1 : World} {g : Nat} {x y : Int} (h : Wr W W1 g x y) (hb : Below w.heap.size w W) (hg : w.heap.size ≤ g) : Below w.heap.size w W1 :=
 ⟨h.os.trans hb.os, h.tape.trans hb.tape, h.output.trans hb.output, by rw [h.size]; exact hb.size, fun b hlt => (h.far b (by omega)).trans (hb.block b hlt)⟩
theorem Wr.bx {W W1 : World} {g g' : Nat} {x y u v : Int} (h : Wr W W1 g x y) (n : g' ≠ g) (k : Bx W g' u v) : Bx W1 g' u v := (h.far g' n).trans k
theorem wr_mk {W : World} {g : Nat} {x0 y0 x y : Int} (h : Bx W g x0 y0) : Wr W ((W.setCell ⟨g, 0, none⟩ (.int .i64 x)).setCell ⟨g, 1, none⟩ (.int .i64 y)) g x y := by
 have h1 := blk_put (cs' := #[.int .i64 x, .int .i64 y0]) h 0 (.int .i64 x) rfl
 have h2 := blk_put (cs' := #[.int .i64 x, .int .i64 y]) h1 1 (.int .i64 y) rfl
 have b2 := Below.setCell (Below.setCell (Below.refl 0 W) (p := ⟨g, 0, none⟩) (Nat.zero_le g) (.int .i64 x)) (p := ⟨g, 1, none⟩) (Nat.zero_le g) (.int .i64 y)
 refine ⟨h2, fun b hb => (Below.heap_setCell _ ⟨g, 1, none⟩ _ b hb).trans (Below.heap_setCell _ ⟨g, 0, none⟩ _ b hb), by simp, b2.os, b2.tape, b2.output⟩
theorem store_run {o : Oper} {ev : Operand → Value} {W : World} {p v : Operand} {g : Nat} {x0 y0 x y : Int} (hop : o.op = .store 31 p v) (hp : ev p = pq g) (hv : ev v = .agg #[.int .i64 x, .int .i64 y]) (hb : Bx W g x0 y0) :
  (execOp ev o).run Try.prog W = .ok .skip ((W.setCell ⟨g, 0, none⟩ (.int .i64 x)).setCell ⟨g, 1, none⟩ (.int .i64 y)) := by
 have hu31 := Try.underlying31
 have c0 : W.cell? ⟨g, 0, none⟩ = some (.int .i64 x0) := (blk_cell hb 0).trans rfl
 have c1 : W.cell? ⟨g, 1, none⟩ = some (.int .i64 y0) := (blk_cell hb 1).trans rfl
 have f0 := blk_frozen hb 0
 have f1 := blk_frozen hb 1
 go_simp
theorem st_step {ops : Array Oper} {Q : Exit → Act → World → Prop} {o : Oper} {a : Act} {K : Act → World → Prop} {W : World} {p v : Operand} {g : Nat} {x0 y0 x y : Int} (hb : Bx W g x0 y0)
  (h : ∀ W1, Wr W W1 g x y → K a W1) (hop : o.op = .store 31 p v := by rfl) (hN : o.dst = none := by rfl) (hw : Region.wanted o (yielded ops a.tmps) = true := by rfl) (hp : a.eval p = pq g := by rfl) (hv : a.eval v = .agg #[.int .i64 x, .int .i64 y] := by rfl) :
  if Region.wanted o (yielded ops a.tmps) = true then Oper.wp Try.prog o a W K Q else K (a.put none undef) W :=
 skip_ hw hN (store_run hop hp hv hb) (h _ (wr_mk hb))
theorem st_list {ops : Array Oper} {Q : Exit → Act → World → Prop} {rest : List Oper} {o : Oper} {a : Act} {W : World} {p v : Operand} {g : Nat} {x0 y0 x y : Int} (hb : Bx W g x0 y0) (hop : o.op = .store 31 p v) (hg : o.guard = none) (hN : o.dst = none)
  (hp : a.eval p = pq g) (hv : a.eval v = .agg #[.int .i64 x, .int .i64 y]) (h : ∀ W1, Wr W W1 g x y → wpList Try.prog ops Q rest a W1) : wpList Try.prog ops Q (o :: rest) a W := by
 refine wpList_plain hg fun K hK => ?_
 unfold Oper.wp
 rw [store_run hop hp hv hb]
 show K (a.put o.dst undef) _
 rw [hN]
 exact hK _ _ (h _ (wr_mk hb))
end
abbrev B58 (W : World) (g : Nat) (x y z : Int) : Prop := W.heap[g]? = some (.cells #[.int .i64 x, .int .i64 y, .int .i64 z] 58 (0, 0))
abbrev B49 (W : World) (g : Nat) (x y : Int) : Prop := W.heap[g]? = some (.cells #[.int .i64 x, .int .i64 y] 49 (0, 0))
theorem bel_grown {W W' : World} (h : Below W.heap.size W W') : W.grownBy W' none := ⟨h.os, h.tape, h.output, h.size, fun k hk _ => h.block k hk⟩
theorem set_grown (W : World) (g i : Nat) (u : Value) : W.grownBy (W.setCell ⟨g, i, none⟩ u) (some g) :=
 ⟨rfl, rfl, rfl, by simp, fun k hk hne => Below.heap_setCell W ⟨g, i, none⟩ u k (fun e => hne (by rw [e]))⟩
theorem grown_two {W W1 W2 : World} {g : Nat} (h : W.grownBy W1 (some g)) (k : W1.grownBy W2 (some g)) : W.grownBy W2 (some g) :=
 ⟨k.os.trans h.os, k.tape.trans h.tape, k.output.trans h.output, Nat.le_trans h.size k.size, fun i hi hne => (k.block i (Nat.lt_of_lt_of_le hi h.size) hne).trans (h.block i hi hne)⟩
theorem B58.cells {W : World} {g : Nat} {x y z : Int} (h : B58 W g x y z) : W.cell? ⟨g, 0, none⟩ = some (.int .i64 x) ∧ W.cell? ⟨g, 1, none⟩ = some (.int .i64 y) ∧ W.cell? ⟨g, 2, none⟩ = some (.int .i64 z) := ⟨(blk_cell h 0).trans rfl, (blk_cell h 1).trans rfl, (blk_cell h 2).trans rfl⟩
theorem B49.cells {W : World} {g : Nat} {x y : Int} (h : B49 W g x y) : W.cell? ⟨g, 0, none⟩ = some (.int .i64 x) ∧ W.cell? ⟨g, 1, none⟩ = some (.int .i64 y) := ⟨(blk_cell h 0).trans rfl, (blk_cell h 1).trans rfl⟩
theorem grown_blk {W W1 : World} {r : Option Nat} {g : Nat} {o : Obj} (k : W.grownBy W1 r) (h : W.heap[g]? = some o) (n : some g ≠ r) : W1.heap[g]? = some o := (k.block g (blk_lt h) n).trans h
theorem run58 {o : Oper} {ev : Operand → Value} {W : World} {p v : Operand} {g : Nat} {x y z : Int} (hop : o.op = .store 58 p v) (hp : ev p = pq g) (hv : ev v = .agg #[.int .i64 x, .int .i64 y, .int .i64 z]) (hb : B58 W g 0 0 0) :
  (execOp ev o).run Try.prog W = .ok .skip (((W.setCell ⟨g, 0, none⟩ (.int .i64 x)).setCell ⟨g, 1, none⟩ (.int .i64 y)).setCell ⟨g, 2, none⟩ (.int .i64 z)) := by
 have hu58 := Try.underlying58
 obtain ⟨c0, c1, c2⟩ := B58.cells hb
 have f0 := blk_frozen hb 0
 have f1 := blk_frozen hb 1
 have f2 := blk_frozen hb 2
 go_simp
theorem st58 {ops : Array Oper} {Q : Exit → Act → World → Prop} {rest : List Oper} {o : Oper} {a : Act} {W : World} {p v : Operand} {g : Nat} {x y z : Int} (hb : B58 W g 0 0 0) (hop : o.op = .store 58 p v) (hg : o.guard = none) (hN : o.dst = none)
  (hp : a.eval p = pq g) (hv : a.eval v = .agg #[.int .i64 x, .int .i64 y, .int .i64 z]) (h : ∀ W1, B58 W1 g x y z → W.grownBy W1 (some g) → wpList Try.prog ops Q rest a W1) : wpList Try.prog ops Q (o :: rest) a W := by
 refine wpList_plain hg fun K hK => ?_
 have h1 := blk_put (cs' := #[.int .i64 x, .int .i64 0, .int .i64 0]) hb 0 (.int .i64 x) rfl
 have h2 := blk_put (cs' := #[.int .i64 x, .int .i64 y, .int .i64 0]) h1 1 (.int .i64 y) rfl
 have h3 := blk_put (cs' := #[.int .i64 x, .int .i64 y, .int .i64 z]) h2 2 (.int .i64 z) rfl
 unfold Oper.wp
 rw [run58 hop hp hv hb]
 show K (a.put o.dst undef) _
 rw [hN]
 exact hK _ _ (h _ h3 (grown_two (grown_two (set_grown _ _ _ _) (set_grown _ _ _ _)) (set_grown _ _ _ _)))
theorem run49 {o : Oper} {ev : Operand → Value} {W : World} {p v : Operand} {g : Nat} {x y : Int} (hop : o.op = .store 49 p v) (hp : ev p = pq g) (hv : ev v = .agg #[.int .i64 x, .int .i64 y]) (hb : B49 W g 0 0) :
  (execOp ev o).run Try.prog W = .ok .skip ((W.setCell ⟨g, 0, none⟩ (.int .i64 x)).setCell ⟨g, 1, none⟩ (.int .i64 y)) := by
 have hu49 := Try.underlying49
 obtain ⟨c0, c1⟩ := B49.cells hb
 have f0 := blk_frozen hb 0
 have f1 := blk_frozen hb 1
 go_simp
theorem st49 {ops : Array Oper} {Q : Exit → Act → World → Prop} {rest : List Oper} {o : Oper} {a : Act} {W : World} {p v : Operand} {g : Nat} {x y : Int} (hb : B49 W g 0 0) (hop : o.op = .store 49 p v) (hg : o.guard = none) (hN : o.dst = none)
  (hp : a.eval p = pq g) (hv : a.eval v = .agg #[.int .i64 x, .int .i64 y]) (h : ∀ W1, B49 W1 g x y → W.grownBy W1 (some g) → wpList Try.prog ops Q rest a W1) : wpList Try.prog ops Q (o :: rest) a W := by
 refine wpList_plain hg fun K hK => ?_
 have h1 := blk_put (cs' := #[.int .i64 x, .int .i64 0]) hb 0 (.int .i64 x) rfl
 have h2 := blk_put (cs' := #[.int .i64 x, .int .i64 y]) h1 1 (.int .i64 y) rfl
 unfold Oper.wp
 rw [run49 hop hp hv hb]
 show K (a.put o.dst undef) _
 rw [hN]
 exact hK _ _ (h _ h2 (grown_two (set_grown _ _ _ _) (set_grown _ _ _ _)))
end Go.Proofs.Ythaklbjcjoolcaa.P
namespace Go.Proofs.Ythaklbjcjoolcaa.P
open Go.RowKit Go.Shelf Go.Sort YthaklbjcjoolcaaW.PrintWords YthaklbjcjoolcaaW.PrintLast YthaklbjcjoolcaaW.PrintMore
def onB (a b p : S31) : Bool := decide (crs a b p = 0) && (decide (mn a.f0 b.f0 ≤ p.f0) && (decide (p.f0 ≤ mx a.f0 b.f0) && (decide (mn a.f1 b.f1 ≤ p.f1) && decide (p.f1 ≤ mx a.f1 b.f1))))
end Go.Proofs.Ythaklbjcjoolcaa.P
namespace Go.Proofs.Ythaklbjcjoolcaa.P
open Go.RowKit YthaklbjcjoolcaaW.PrintWords YthaklbjcjoolcaaW.PrintLast YthaklbjcjoolcaaW.PrintMore
theorem onB_crs {a b p : S31} (h : onB a b p = true) : crs a b p = 0 := by
 unfold onB at h
 simp only [Bool.and_eq_true, decide_eq_true_eq] at h
 exact h.1
theorem has_is {a b p : S31} (ha : okPt a = true) (hb : okPt b = true) (hp : okPt p = true) : plane_segment_has.f a.f0 a.f1 b.f0 b.f1 p.f0 p.f1 = some (onB a b p) := by
 unfold plane_segment_has.f onB
 rw [turn_is ha hb hp, Option.bind_some, within_is, within_is]
 simp only [Option.bind_some]
 by_cases h : crs a b p = 0
 ·rw [if_pos (sgn_zero.2 h), h]
  by_cases h2 : mn a.f0 b.f0 ≤ p.f0 ∧ p.f0 ≤ mx a.f0 b.f0
  ·rw [if_pos (decide_eq_true h2)]; simp [h2.1, h2.2]
  ·rw [if_neg (by simpa using h2)]
   by_cases h3 : mn a.f0 b.f0 ≤ p.f0
   ·have h4 : ¬ p.f0 ≤ mx a.f0 b.f0 := fun h4 => h2 ⟨h3, h4⟩
    simp [h4]
   ·simp [h3]
 ·rw [if_neg (fun h' => h (sgn_zero.1 h'))]; simp [h]
def meetB (a b c d : S31) : Bool := onB a b c || (onB a b d || (onB c d a || (onB c d b || (decide (sgn (crs a b c) * sgn (crs a b d) < 0) && decide (sgn (crs c d a) * sgn (crs c d b) < 0)))))
theorem w64_sgn (x y : Int) : wrap64 (sgn x * sgn y) = sgn x * sgn y := by
 have h := mul_bd (m := 1) (n := 1) (sgn_bd x) (sgn_bd y)
 exact w64i (by omega) (by omega)
theorem meets_is {a b c d : S31} (ha : okPt a = true) (hb : okPt b = true) (hc : okPt c = true) (hd : okPt d = true) (k : Nat) : plane_segment_meets.f (k + 1) a.f0 a.f1 b.f0 b.f1 c.f0 c.f1 d.f0 d.f1 = some (meetB a b c d) := by
 have hj : ∀ x : Bool, plane_segment_meets.j0 (k + 1) x a.f0 a.f1 b.f0 b.f1 c.f0 c.f1 d.f0 d.f1 = some (x || (decide (sgn (crs a b c) * sgn (crs a b d) < 0) && decide (sgn (crs c d a) * sgn (crs c d b) < 0))) := by
  intro x
  rw [plane_segment_meets.j0, turn_is ha hb hc, turn_is ha hb hd, turn_is hc hd ha, turn_is hc hd hb]
  simp only [Option.bind_some, w64_sgn]
  cases x
  ·by_cases h : sgn (crs a b c) * sgn (crs a b d) < 0
   ·simp [h]
   ·simp [h]
  ·rfl
 unfold plane_segment_meets.f meetB
 simp only [hj]
 rw [has_is ha hb hc, has_is ha hb hd, has_is hc hd ha, has_is hc hd hb]
 simp only [Option.bind_some]
 cases onB a b c <;> cases onB a b d <;> cases onB c d a <;> cases onB c d b <;> rfl
theorem on_is {a b p : S31} (ha : okPt a = true) (hb : okPt b = true) (hp : okPt p = true) : R1_on.f a.f0 a.f1 b.f0 b.f1 p.f0 p.f1 = some (onB a b p) := by
 unfold R1_on.f onB
 rw [refturn_same, turn_is ha hb hp, Option.bind_some]
 by_cases h : crs a b p = 0
 ·rw [if_pos (sgn_zero.2 h), h]
  by_cases h1 : mn a.f0 b.f0 ≤ p.f0
  ·rw [if_pos h1]
   by_cases h2 : p.f0 ≤ mx a.f0 b.f0
   ·rw [if_pos h2]
    by_cases h3 : mn a.f1 b.f1 ≤ p.f1
    ·rw [if_pos h3]; simp [h1, h2, h3]
    ·rw [if_neg h3]; simp [h3]
   ·rw [if_neg h2]; simp [h2]
  ·rw [if_neg h1]; simp [h1]
 ·rw [if_neg (fun h' => h (sgn_zero.1 h'))]; simp [h]
theorem refmeet_is {a b c d : S31} (ha : okPt a = true) (hb : okPt b = true) (hc : okPt c = true) (hd : okPt d = true) (k : Nat) : R1_meet.f (k + 1) a.f0 a.f1 b.f0 b.f1 c.f0 c.f1 d.f0 d.f1 = some (meetB a b c d) := by
 have hj : ∀ x : Bool, R1_meet.j0 (k + 1) x a.f0 a.f1 b.f0 b.f1 c.f0 c.f1 d.f0 d.f1 = some (x || (onB a b c || (onB a b d || (onB c d a || onB c d b)))) := by
  intro x
  rw [R1_meet.j0, on_is ha hb hc, on_is ha hb hd, on_is hc hd ha, on_is hc hd hb]
  simp only [Option.bind_some]
  cases x <;> cases onB a b c <;> cases onB a b d <;> cases onB c d a <;> cases onB c d b <;> rfl
 unfold R1_meet.f meetB
 simp only [refturn_same, hj]
 rw [turn_is ha hb hc, turn_is ha hb hd, turn_is hc hd ha, turn_is hc hd hb]
 simp only [Option.bind_some, w64_sgn]
 by_cases h : sgn (crs a b c) * sgn (crs a b d) < 0
 ·rw [if_pos h, decide_eq_true h]
  generalize decide (sgn (crs c d a) * sgn (crs c d b) < 0) = z
  cases z <;> cases onB a b c <;> cases onB a b d <;> cases onB c d a <;> cases onB c d b <;> rfl
 ·rw [if_neg h, decide_eq_false h]
  cases onB a b c <;> cases onB a b d <;> cases onB c d a <;> cases onB c d b <;> rfl
def nx (l : List S31) (i : Nat) : Nat := (i + 1) % l.length
def rowB (l : List S31) (i : Nat) : Nat → Nat → Bool
 | 0, _ => true
 | n + 1, k => (decide (nx l k = i) || !meetB (pt l i) (pt l (nx l i)) (pt l k) (pt l (nx l k))) && rowB l i n (k + 1)
def eqE (l : List S31) (i : Nat) : Bool := (pt l i).f0 == (pt l (nx l i)).f0 && ((pt l i).f1 == (pt l (nx l i)).f1)
def xB (l : List S31) (i : Nat) : Bool := onB (pt l (nx l i)) (pt l (nx l (nx l i))) (pt l i) || onB (pt l i) (pt l (nx l i)) (pt l (nx l (nx l i)))
def simB (l : List S31) : Nat → Nat → Bool
 | 0, _ => true
 | n + 1, i => (!eqE l i && (!xB l i && rowB l i (l.length - (i + 2)) (i + 2))) && simB l n (i + 1)
def neB (l : List S31) : Nat → Nat → Bool
 | 0, _ => true
 | n + 1, i => !eqE l i && neB l n (i + 1)
def touB (l : List S31) : Nat → Nat → Bool
 | 0, _ => true
 | n + 1, i => (!xB l i && rowB l i (l.length - (i + 2)) (i + 2)) && touB l n (i + 1)
theorem simB_parts (l : List S31) : ∀ n i, simB l n i = (neB l n i && touB l n i)
 | 0, _ => rfl
 | n + 1, i => by
  unfold simB neB touB
  rw [simB_parts l n (i + 1)]
  cases eqE l i <;> cases xB l i <;> cases rowB l i (l.length - (i + 2)) (i + 2) <;> cases neB l n (i + 1) <;> cases touB l n (i + 1) <;> rfl
theorem pt_ok {l : List S31} (h : allOk l = true) {i : Nat} (hi : i < l.length) : okPt (pt l i) = true := by
 rw [pt_eq l i hi]
 exact List.all_eq_true.1 h _ (List.getElem_mem hi)
theorem nx_lt (l : List S31) (i : Nat) (h : 0 < l.length) : nx l i < l.length := Nat.mod_lt _ h
theorem nx_tmod (l : List S31) (i : Nat) (h : i < l.length) (hn : l.length ≤ 4096) : Int.tmod (wrap64 ((i : Int) + 1)) (l.length : Int) = (nx l i : Int) := by
 rw [w64i (by omega) (by omega), show ((i : Int) + 1) = ((i + 1 : Nat) : Int) by omega]
 rfl
theorem nx_next (l : List S31) (i : Nat) (h : i < l.length) (hn : l.length ≤ 4096) : R1_next.f (i : Int) (l.length : Int) = some ((nx l i : Nat) : Int) := by
 unfold R1_next.f nx
 rw [w64i (by omega) (by omega)]
 by_cases h1 : i + 1 < l.length
 ·rw [if_pos (by omega), Nat.mod_eq_of_lt h1]; rfl
 ·have : i + 1 = l.length := by omega
  rw [if_neg (by omega), this, Nat.mod_self]; rfl
theorem prog_row (l : List S31) (ho : allOk l = true) (hn : l.length ≤ 4096) (i : Nat) (hi : i < l.length) (v : Bool) (hv : Ev (fun k => plane_Simple.l0 k l (l.length : Int) (l.length : Int) ((i + 1 : Nat) : Int)) v) :
  ∀ m j, l.length - j = m → j ≤ l.length + 1 → Ev (fun k => plane_Simple.l1 k l (l.length : Int) (i : Int) (j : Int) (l.length : Int) (i : Int) (pt l i).f0 (pt l i).f1 (pt l (nx l i)).f0 (pt l (nx l i)).f1) (rowB l i m j && v)
 | 0, j, hm, hj => by
  refine Ev.step (f := fun k => plane_Simple.l0 k l (l.length : Int) (l.length : Int) ((i + 1 : Nat) : Int)) (fun k => ?_) hv
  rw [plane_Simple.l1, if_neg (by omega), w64i (x := (i : Int) + 1) (by omega) (by omega)]
  rfl
 | m + 1, j, hm, hj => by
  have hjl : j < l.length := by omega
  have hnj := nx_lt l j (by omega)
  have hni := nx_lt l i (by omega)
  have ih := prog_row l ho hn i hi v hv m (j + 1) (by omega) (by omega)
  have ej : wrap64 ((j : Int) + 1) = ((j + 1 : Nat) : Int) := w64i (x := (j : Int) + 1) (by omega) (by omega)
  unfold rowB
  by_cases hx : nx l j = i
  ·refine Ev.step (f := fun k => plane_Simple.l1 k l (l.length : Int) (i : Int) ((j + 1 : Nat) : Int) (l.length : Int) (i : Int) (pt l i).f0 (pt l i).f1 (pt l (nx l i)).f0 (pt l (nx l i)).f1) (fun k => ?_) (by rw [decide_eq_true hx, Bool.true_or, Bool.true_and]; exact ih)
   rw [plane_Simple.l1, if_pos (by omega), if_neg (by omega), nx_tmod l j hjl hn, if_pos (by omega), ej]
  ·rw [decide_eq_false hx, Bool.false_or]
   refine Ev.step (f := fun k => (plane_segment_meets.f k (pt l i).f0 (pt l i).f1 (pt l (nx l i)).f0 (pt l (nx l i)).f1 (pt l j).f0 (pt l j).f1 (pt l (nx l j)).f0 (pt l (nx l j)).f1).bind fun t => if t = true then some false else plane_Simple.l1 k l (l.length : Int) (i : Int) ((j + 1 : Nat) : Int) (l.length : Int) (i : Int) (pt l i).f0 (pt l i).f1 (pt l (nx l i)).f0 (pt l (nx l i)).f1) (fun k => ?_) ?_
   ·rw [plane_Simple.l1, if_pos (by omega), if_neg (by omega), nx_tmod l j hjl hn, if_neg (by omega), edge_is l j hjl hn, ej]
    rfl
   ·refine Ev.bind (Ev.step (f := fun _ => some (meetB (pt l i) (pt l (nx l i)) (pt l j) (pt l (nx l j)))) (fun k => meets_is (pt_ok ho hi) (pt_ok ho hni) (pt_ok ho hjl) (pt_ok ho hnj) k) (Ev.now _)) ?_
    cases meetB (pt l i) (pt l (nx l i)) (pt l j) (pt l (nx l j))
    ·exact ev_neg (by decide) (by simpa using ih)
    ·exact ev_pos rfl (Ev.now _)
theorem prog_sim (l : List S31) (ho : allOk l = true) (hn : l.length ≤ 4096) : ∀ m i, l.length - i = m → i ≤ l.length → Ev (fun k => plane_Simple.l0 k l (l.length : Int) (l.length : Int) (i : Int)) (simB l m i)
 | 0, i, hm, hi => by
  refine Ev.step (f := fun _ => some true) (fun k => ?_) (Ev.now _)
  rw [plane_Simple.l0, if_neg (by omega)]
 | m + 1, i, hm, hi => by
  have hil : i < l.length := by omega
  have hni := nx_lt l i (by omega)
  have hnn := nx_lt l (nx l i) (by omega)
  have ih := prog_sim l ho hn m (i + 1) (by omega) (by omega)
  have hr := prog_row l ho hn i hil _ ih (l.length - (i + 2)) (i + 2) rfl (by omega)
  have h1 := has_is (pt_ok ho hni) (pt_ok ho hnn) (pt_ok ho hil)
  have h2 := has_is (pt_ok ho hil) (pt_ok ho hni) (pt_ok ho hnn)
  have ej : wrap64 ((i : Int) + 2) = ((i + 2 : Nat) : Int) := w64i (x := (i : Int) + 2) (by omega) (by omega)
  have hj : ∀ b : Bool, Ev (fun k => plane_Simple.j2 k l (l.length : Int) (i : Int) (l.length : Int) (i : Int) b (pt l i).f0 (pt l i).f1 (pt l (nx l i)).f0 (pt l (nx l i)).f1) (!b && (rowB l i (l.length - (i + 2)) (i + 2) && simB l m (i + 1))) := by
   intro b
   cases b
   ·refine Ev.step (f := fun k => plane_Simple.l1 k l (l.length : Int) (i : Int) ((i + 2 : Nat) : Int) (l.length : Int) (i : Int) (pt l i).f0 (pt l i).f1 (pt l (nx l i)).f0 (pt l (nx l i)).f1) (fun k => ?_) (by simpa using hr)
    rw [plane_Simple.j2, if_neg (by decide), ej]
   ·refine Ev.step (f := fun _ => some false) (fun k => ?_) (Ev.now _)
    rw [plane_Simple.j2, if_pos rfl]
  refine Ev.step (f := fun k => if eqE l i = true then plane_Simple.j2 k l (l.length : Int) (i : Int) (l.length : Int) (i : Int) true (pt l i).f0 (pt l i).f1 (pt l (nx l i)).f0 (pt l (nx l i)).f1 else if onB (pt l (nx l i)) (pt l (nx l (nx l i))) (pt l i) = true then plane_Simple.j2 k l (l.length : Int) (i : Int) (l.length : Int) (i : Int) true (pt l i).f0 (pt l i).f1 (pt l (nx l i)).f0 (pt l (nx l i)).f1 else plane_Simple.j2 k l (l.length : Int) (i : Int) (l.length : Int) (i : Int) (onB (pt l i) (pt l (nx l i)) (pt l (nx l (nx l i)))) (pt l i).f0 (pt l i).f1 (pt l (nx l i)).f0 (pt l (nx l i)).f1) (fun k => ?_) ?_
  ·rw [plane_Simple.l0, if_pos (by omega), edge_is l i hil hn, Option.bind_some, if_neg (by omega), nx_tmod l i hil hn, edge_is l (nx l i) hni hn]
   simp only [Option.bind_some]
   show (if eqE l i = true then _ else _) = _
   have e1 : ∀ o, plane_segment_has.f (pt l (nx l i)).f0 (pt l (nx l i)).f1 (pt l ((nx l i + 1) % l.length)).f0 (pt l ((nx l i + 1) % l.length)).f1 (pt l i).f0 (pt l i).f1 = o → some (onB (pt l (nx l i)) (pt l (nx l (nx l i))) (pt l i)) = o := fun o h => h1.symm.trans h
   rw [← e1 _ rfl]
   have e2 : ∀ o, plane_segment_has.f (pt l i).f0 (pt l i).f1 (pt l ((i + 1) % l.length)).f0 (pt l ((i + 1) % l.length)).f1 (pt l ((nx l i + 1) % l.length)).f0 (pt l ((nx l i + 1) % l.length)).f1 = o → some (onB (pt l i) (pt l (nx l i)) (pt l (nx l (nx l i)))) = o := fun o h => h2.symm.trans h
   rw [← e2 _ rfl]
   rfl
  ·unfold simB xB
   by_cases he : eqE l i = true
   ·rw [he]; exact ev_pos rfl (hj true)
   ·rw [Bool.not_eq_true] at he
    rw [he]
    refine ev_neg (by decide) ?_
    by_cases hx : onB (pt l (nx l i)) (pt l (nx l (nx l i))) (pt l i) = true
    ·rw [hx]; exact ev_pos rfl (hj true)
    ·rw [Bool.not_eq_true] at hx
     rw [hx]
     refine ev_neg (by decide) ?_
     have h := hj (onB (pt l i) (pt l (nx l i)) (pt l (nx l (nx l i))))
     rw [← Bool.and_assoc] at h
     simpa using h
def simpleS (l : List S31) : Bool := (decide (3 ≤ l.length ∧ l.length ≤ 512) && allOk l) && simB l l.length 0
theorem prog_simple (l : List S31) : Ev (fun k => plane_Simple.f k l) (simpleS l) := by
 have hj : Ev (fun k => plane_Simple.j0 k l (l.length : Int) true) false := by
  refine Ev.step (f := fun _ => some false) (fun k => ?_) (Ev.now _)
  rw [plane_Simple.j0, if_pos rfl]
 unfold plane_Simple.f simpleS
 by_cases h3 : (l.length : Int) < 3
 ·rw [decide_eq_false (by omega), Bool.false_and]
  exact ev_pos h3 hj
 ·refine ev_neg h3 (Ev.bind (ev_is (isSet_is l)) ?_)
  unfold isSetB
  by_cases h5 : l.length ≤ 512
  ·rw [decide_eq_true (show 1 ≤ l.length ∧ l.length ≤ 512 by omega), decide_eq_true (show 3 ≤ l.length ∧ l.length ≤ 512 by omega), Bool.true_and]
   by_cases ha : allOk l = true
   ·rw [ha, Bool.true_and]
    refine Ev.step (f := fun k => plane_Simple.l0 k l (l.length : Int) (l.length : Int) ((0 : Nat) : Int)) (fun k => ?_) (prog_sim l ha (by omega) l.length 0 (by omega) (by omega))
    rw [plane_Simple.j0, if_neg (by decide)]
    rfl
   ·rw [Bool.not_eq_true] at ha
    rw [ha]; exact hj
  ·rw [decide_eq_false (show ¬ (1 ≤ l.length ∧ l.length ≤ 512) by omega), decide_eq_false (show ¬ (3 ≤ l.length ∧ l.length ≤ 512) by omega)]
   exact hj
end Go.Proofs.Ythaklbjcjoolcaa.P
