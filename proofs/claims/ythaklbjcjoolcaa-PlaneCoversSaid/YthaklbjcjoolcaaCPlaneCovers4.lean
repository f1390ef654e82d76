/- Proved here: what functions that the law reaches compute, and plain laws of that. Put together by a program; a part was printed by one (wip/printplus.py). -/
import Derived.Test.YthaklbjcjoolcaaBQ1
import Derived.Test.YthaklbjcjoolcaaBQ4
import Derived.Test.YthaklbjcjoolcaaCPlaneCovers1
import Derived.Test.YthaklbjcjoolcaaCPlaneCovers3
import Derived.Test.YthaklbjcjoolcaaCPlaneCovers2
set_option linter.unusedVariables false
set_option linter.unusedSimpArgs false
namespace Go.Proofs.Ythaklbjcjoolcaa.P
open Go.RowKit YthaklbjcjoolcaaW.PrintWords YthaklbjcjoolcaaW.PrintLast YthaklbjcjoolcaaW.PrintMore
attribute [local go_sem] max2_int min2_int max_two min_two max_three min_three max_four min_four

def L1_PlaneCovers.f (k : Nat) (l0 : List (S31)) (l1 : List (S58)) : Option (Bool) := (L1_some.f l0 40).bind fun t626 => (if 0 ≤ (mn (l1.length : Int) 50) then (if (mn (l1.length : Int) 50) ≤ (l1.length : Int) then ((some (l1.take ((mn (l1.length : Int) 50) : Int).toNat : List (S58))).bind fun y629 => (if ([] : List (S58)).length + y629.length < 5864062014805 then ((some (([] : List (S58)) ++ y629 : List (S58))).bind fun y633 => ((plane_Covers.f t626 y633).bind fun t636 => ((R1_Simple.f k t626).bind fun t637 => (if t637 = true then ((R1_Covers.f t626 y633).bind fun t639 => (if t639 = true then (if t636 = 0 then ((L1_awake.f k).bind fun t640 => (some t640)) else (some false)) else (if t636 = 10 then ((L1_awake.f k).bind fun t641 => (some t641)) else (some false)))) else (if t636 = 2 then ((L1_awake.f k).bind fun t638 => (some t638)) else (some false)))))) else (none))) else (none)) else (none))
theorem L1_PlaneCovers.mono : ∀ a0 a1 k, LeO (L1_PlaneCovers.f k a0 a1) (L1_PlaneCovers.f (k + 1) a0 a1) := by
 intro a0 a1 k
 unfold L1_PlaneCovers.f
 repeat' first
   | (with_reducible exact L1_awake.mono _)
   | (with_reducible exact R1_Simple.mono _ _)
   | (with_reducible first | exact LeO.refl _ | exact LeO.none _ | refine LeO.ite ?_ ?_ | refine LeO.bind ?_ (fun _ => ?_))
   | exact L1_awake.mono _
   | exact R1_Simple.mono _ _
   | exact LeO.none _ | refine LeO.ite ?_ ?_ | refine LeO.bind ?_ (fun _ => ?_)
set_option maxHeartbeats 8000000 in
set_option maxRecDepth 100000 in
theorem L1_PlaneCovers.calls (k : Nat) (A0 : Option Addr) (c0 : Nat) (l0 : List (S31)) (A1 : Option Addr) (c1 : Nat) (l1 : List (S58)) (r : Bool) (w : World) (hr0 : Kd.C k31 w A0 l0.length l0) (hc0 : l0.length ≤ c0) (hr1 : Kd.C k58 w A1 l1.length l1) (hc1 : l1.length ≤ c1) (h : L1_PlaneCovers.f k l0 l1 = some r) :
  Calls Try.prog 16 #[.slice A0 l0.length c0, .slice A1 l1.length c1] w fun e w' => e = .returned (.bool r) ∧ Below w.heap.size w w' := by
 have HR0 := Aside0.mk hr0
 have HC0 := Aside0.mk hc0
 clear hr0 hc0
 have HR1 := Aside0.mk hr1
 have HC1 := Aside0.mk hc1
 clear hr1 hc1
 have HB := Aside0.mk (Below.refl w.heap.size w)
 have H : ((L1_some.f l0 40).bind fun t626 => (if 0 ≤ (mn (l1.length : Int) 50) then (if (mn (l1.length : Int) 50) ≤ (l1.length : Int) then ((some (l1.take ((mn (l1.length : Int) 50) : Int).toNat : List (S58))).bind fun y629 => (if ([] : List (S58)).length + y629.length < 5864062014805 then ((some (([] : List (S58)) ++ y629 : List (S58))).bind fun y633 => ((plane_Covers.f t626 y633).bind fun t636 => ((R1_Simple.f k t626).bind fun t637 => (if t637 = true then ((R1_Covers.f t626 y633).bind fun t639 => (if t639 = true then (if t636 = 0 then ((L1_awake.f k).bind fun t640 => (some t640)) else (some false)) else (if t636 = 10 then ((L1_awake.f k).bind fun t641 => (some t641)) else (some false)))) else (if t636 = 2 then ((L1_awake.f k).bind fun t638 => (some t638)) else (some false)))))) else (none))) else (none)) else (none))) = some r := h
 clear h
 replace H := Option.bind_eq_some_iff.mp H
 obtain ⟨t626, A30, H⟩ := H
 replace H : (if 0 ≤ (mn (l1.length : Int) 50) then (if (mn (l1.length : Int) 50) ≤ (l1.length : Int) then ((some (l1.take ((mn (l1.length : Int) 50) : Int).toNat : List (S58))).bind fun y629 => (if ([] : List (S58)).length + y629.length < 5864062014805 then ((some (([] : List (S58)) ++ y629 : List (S58))).bind fun y633 => ((plane_Covers.f t626 y633).bind fun t636 => ((R1_Simple.f k t626).bind fun t637 => (if t637 = true then ((R1_Covers.f t626 y633).bind fun t639 => (if t639 = true then (if t636 = 0 then ((L1_awake.f k).bind fun t640 => (some t640)) else (some false)) else (if t636 = 10 then ((L1_awake.f k).bind fun t641 => (some t641)) else (some false)))) else (if t636 = 2 then ((L1_awake.f k).bind fun t638 => (some t638)) else (some false)))))) else (none))) else (none)) else (none)) = some r := H
 have A3 := Aside0.mk A30
 clear A30
 obtain ⟨ji4, hji4⟩ : ∃ j_ : Int, (mn (l1.length : Int) 50) = j_ := ⟨_, rfl⟩
 replace H : (if 0 ≤ (ji4) then (if (ji4) ≤ (l1.length : Int) then ((some (l1.take ((ji4) : Int).toNat : List (S58))).bind fun y629 => (if ([] : List (S58)).length + y629.length < 5864062014805 then ((some (([] : List (S58)) ++ y629 : List (S58))).bind fun y633 => ((plane_Covers.f t626 y633).bind fun t636 => ((R1_Simple.f k t626).bind fun t637 => (if t637 = true then ((R1_Covers.f t626 y633).bind fun t639 => (if t639 = true then (if t636 = 0 then ((L1_awake.f k).bind fun t640 => (some t640)) else (some false)) else (if t636 = 10 then ((L1_awake.f k).bind fun t641 => (some t641)) else (some false)))) else (if t636 = 2 then ((L1_awake.f k).bind fun t638 => (some t638)) else (some false)))))) else (none))) else (none)) else (none)) = some r := by first | (rw [hji4] at H; exact H) | (simp only [hji4] at H ⊢; exact H)
 (try rw [hji4] at A3)
 (try (have hji4h : ji4 ≤ 50 := by (rw [← hji4]; unfold mn; (repeat' split) <;> omega)))
 (try (have hji4g : ji4 ≤ 64 := by omega))
 (try (have hji4l : 0 ≤ ji4 := by (rw [← hji4]; unfold mn; (repeat' split) <;> omega)))
 (try (have hji4m : 0 ≤ ji4 := by omega))
 have hji4_ : (if 50 < (l1.length : Int) then 50 else (l1.length : Int)) = ji4 := hji4
 by_cases c5 : 0 ≤ (ji4)
 rw [if_pos c5] at H
 have c5b0 := eq_true c5
 have c5b1 : decide (0 ≤ (ji4)) = true := decide_eq_true c5
 clear c5
 by_cases c6 : (ji4) ≤ (l1.length : Int)
 rw [if_pos c6] at H
 have c6b0 := eq_true c6
 have c6b1 : decide ((ji4) ≤ (l1.length : Int)) = true := decide_eq_true c6
 clear c6
 obtain ⟨y629, hy629⟩ : ∃ y_ : List (S58), y_ = (l1.take ((ji4) : Int).toNat) := ⟨_, rfl⟩
 replace H : (if ([] : List (S58)).length + y629.length < 5864062014805 then ((some (([] : List (S58)) ++ y629 : List (S58))).bind fun y633 => ((plane_Covers.f t626 y633).bind fun t636 => ((R1_Simple.f k t626).bind fun t637 => (if t637 = true then ((R1_Covers.f t626 y633).bind fun t639 => (if t639 = true then (if t636 = 0 then ((L1_awake.f k).bind fun t640 => (some t640)) else (some false)) else (if t636 = 10 then ((L1_awake.f k).bind fun t641 => (some t641)) else (some false)))) else (if t636 = 2 then ((L1_awake.f k).bind fun t638 => (some t638)) else (some false)))))) else (none)) = some r := by first | (rw [hy629]; with_reducible exact H) | (have H2_ := (Option.bind_some _ _).symm.trans H; rw [hy629]; with_reducible exact H2_) | (have H2_ := (Option.bind_some _ _).symm.trans H; with_reducible exact H2_) | with_reducible exact H | (rw [hy629]; exact H) | exact H
 have Ny629 := Aside0.mk hy629
 clear hy629
 by_cases c7 : ([] : List (S58)).length + y629.length < 5864062014805
 rw [if_pos c7] at H
 have LMc7 := Aside0.mk c7
 clear c7
 obtain ⟨y633, hy633⟩ : ∃ y_ : List (S58), y_ = (([] : List (S58)) ++ y629) := ⟨_, rfl⟩
 replace H : ((plane_Covers.f t626 y633).bind fun t636 => ((R1_Simple.f k t626).bind fun t637 => (if t637 = true then ((R1_Covers.f t626 y633).bind fun t639 => (if t639 = true then (if t636 = 0 then ((L1_awake.f k).bind fun t640 => (some t640)) else (some false)) else (if t636 = 10 then ((L1_awake.f k).bind fun t641 => (some t641)) else (some false)))) else (if t636 = 2 then ((L1_awake.f k).bind fun t638 => (some t638)) else (some false))))) = some r := by first | (rw [hy633]; with_reducible exact H) | (have H2_ := (Option.bind_some _ _).symm.trans H; rw [hy633]; with_reducible exact H2_) | (have H2_ := (Option.bind_some _ _).symm.trans H; with_reducible exact H2_) | with_reducible exact H | (rw [hy633]; exact H) | exact H
 have Ny633 := Aside0.mk hy633
 clear hy633
 replace H := Option.bind_eq_some_iff.mp H
 obtain ⟨t636, A80, H⟩ := H
 replace H : ((R1_Simple.f k t626).bind fun t637 => (if t637 = true then ((R1_Covers.f t626 y633).bind fun t639 => (if t639 = true then (if t636 = 0 then ((L1_awake.f k).bind fun t640 => (some t640)) else (some false)) else (if t636 = 10 then ((L1_awake.f k).bind fun t641 => (some t641)) else (some false)))) else (if t636 = 2 then ((L1_awake.f k).bind fun t638 => (some t638)) else (some false)))) = some r := H
 have A8 := Aside0.mk A80
 clear A80
 replace H := Option.bind_eq_some_iff.mp H
 obtain ⟨t637, A90, H⟩ := H
 replace H : (if t637 = true then ((R1_Covers.f t626 y633).bind fun t639 => (if t639 = true then (if t636 = 0 then ((L1_awake.f k).bind fun t640 => (some t640)) else (some false)) else (if t636 = 10 then ((L1_awake.f k).bind fun t641 => (some t641)) else (some false)))) else (if t636 = 2 then ((L1_awake.f k).bind fun t638 => (some t638)) else (some false))) = some r := H
 have A9 := Aside0.mk A90
 clear A90
 by_cases c10 : t637 = true
 subst c10
 have H1 : ((R1_Covers.f t626 y633).bind fun t639 => (if t639 = true then (if t636 = 0 then ((L1_awake.f k).bind fun t640 => (some t640)) else (some false)) else (if t636 = 10 then ((L1_awake.f k).bind fun t641 => (some t641)) else (some false)))) = some r := by rw [if_pos rfl] at H; exact H
 clear H
 have H := H1
 clear H1
 replace H := Option.bind_eq_some_iff.mp H
 obtain ⟨t639, A110, H⟩ := H
 replace H : (if t639 = true then (if t636 = 0 then ((L1_awake.f k).bind fun t640 => (some t640)) else (some false)) else (if t636 = 10 then ((L1_awake.f k).bind fun t641 => (some t641)) else (some false))) = some r := H
 have A11 := Aside0.mk A110
 clear A110
 by_cases c12 : t639 = true
 subst c12
 have H1 : (if t636 = 0 then ((L1_awake.f k).bind fun t640 => (some t640)) else (some false)) = some r := by rw [if_pos rfl] at H; exact H
 clear H
 have H := H1
 clear H1
 by_cases c13 : t636 = 0
 rw [if_pos c13] at H
 have c13b0 : (t636 == 0) = true := beq_iff_eq.mpr c13
 have c13b1 : (t636 != 0) = false := bne_eq_false_iff_eq.mpr c13
 clear c13
 replace H := Option.bind_eq_some_iff.mp H
 obtain ⟨t640, A140, H⟩ := H
 replace H : (some t640) = some r := H
 have A14 := Aside0.mk A140
 clear A140
 obtain rfl := Option.some.inj H
 go_enter Try.func16, Try.ntmps16
 rotate_left 1
 rw [if_neg c13] at H
 have c13b0 : (t636 == 0) = false := beq_eq_false_iff_ne.mpr c13
 have c13b1 : (t636 != 0) = true := bne_iff_ne.mpr c13
 obtain rfl := Option.some.inj H
 go_enter Try.func16, Try.ntmps16
 rotate_left 1
 replace c12 := Bool.eq_false_iff.mpr c12
 subst c12
 have H1 : (if t636 = 10 then ((L1_awake.f k).bind fun t641 => (some t641)) else (some false)) = some r := by rw [if_neg (show ¬ (false = true) by decide)] at H; exact H
 clear H
 have H := H1
 clear H1
 by_cases c32 : t636 = 10
 rw [if_pos c32] at H
 have c32b0 : (t636 == 10) = true := beq_iff_eq.mpr c32
 have c32b1 : (t636 != 10) = false := bne_eq_false_iff_eq.mpr c32
 clear c32
 replace H := Option.bind_eq_some_iff.mp H
 obtain ⟨t641, A330, H⟩ := H
 replace H : (some t641) = some r := H
 have A33 := Aside0.mk A330
 clear A330
 obtain rfl := Option.some.inj H
 go_enter Try.func16, Try.ntmps16
 rotate_left 1
 rw [if_neg c32] at H
 have c32b0 : (t636 == 10) = false := beq_eq_false_iff_ne.mpr c32
 have c32b1 : (t636 != 10) = true := bne_iff_ne.mpr c32
 obtain rfl := Option.some.inj H
 go_enter Try.func16, Try.ntmps16
 rotate_left 1
 replace c10 := Bool.eq_false_iff.mpr c10
 subst c10
 have H1 : (if t636 = 2 then ((L1_awake.f k).bind fun t638 => (some t638)) else (some false)) = some r := by rw [if_neg (show ¬ (false = true) by decide)] at H; exact H
 clear H
 have H := H1
 clear H1
 by_cases c51 : t636 = 2
 rw [if_pos c51] at H
 have c51b0 : (t636 == 2) = true := beq_iff_eq.mpr c51
 have c51b1 : (t636 != 2) = false := bne_eq_false_iff_eq.mpr c51
 clear c51
 replace H := Option.bind_eq_some_iff.mp H
 obtain ⟨t638, A520, H⟩ := H
 replace H : (some t638) = some r := H
 have A52 := Aside0.mk A520
 clear A520
 obtain rfl := Option.some.inj H
 go_enter Try.func16, Try.ntmps16
 rotate_left 1
 rw [if_neg c51] at H
 have c51b0 : (t636 == 2) = false := beq_eq_false_iff_ne.mpr c51
 have c51b1 : (t636 != 2) = true := bne_iff_ne.mpr c51
 obtain rfl := Option.some.inj H
 go_enter Try.func16, Try.ntmps16
 rotate_left 1
 rw [if_neg c7] at H
 exact absurd H (by simp)
 rw [if_neg c6] at H
 exact absurd H (by simp)
 rw [if_neg c5] at H
 exact absurd H (by simp)
 all_goals go_wp2_with (first | ((with_reducible refine gate_callee (f := 20) rfl ?_); refine goesL_ (some 9) rfl rfl Try.func20 (by kernel_rfl) rfl #[.slice A0 l0.length c0, .int .i64 40] rfl (by (try simp only [List.map_toArray, List.map_cons, List.map_nil]); first | done | rfl | (simp only [List.length_drop, List.length_take]; rfl)) ?_; (with_reducible refine (L1_some.calls _ _ l0 40 t626 _ ?side1 ?side2 A3.out).mono ?_); (case side1 => repeat (first | exact HR0.out | (with_reducible refine Kd.C_alloc ?_ _) | (with_reducible refine Kd.C_drewN ?_ _) | (with_reducible refine Kd.C_drew ?_))); (case side2 => exact HC0.out); rintro e wz0 ⟨v627, rfl, hoz1, hb⟩; refine ⟨_, rfl, ?_⟩; have n0_ := Aside0.mk (Kd.R_lower hoz1 (below_size lB)); have n1_ := Aside0.mk (below_step lB hb); clear HB; have HO628 := n0_; have HB := n1_; clear n0_ n1_; (try clear hb); (try clear hb2); (try clear hk); (try clear hi); (try clear hoz1); have q16 : ((ji4) : Int) ≤ ((l1.length : Int) : Int) := of_decide_eq_true (by first | (with_reducible assumption) | assumption); obtain ⟨i016, hi016, _, hsz16, _⟩ := info_parts info58; have hroom16 : l1.length ≤ c1 := HC1.out; have hC16 : Kd.C k58 _ A1 l1.length l1 := HR1.out; have hcut16 := cut_to (P := Try.prog) 53 58 .i64 Try.underlying53 hi016 A1 l1.length c1 (ji4) (of_decide_eq_true (by first | (with_reducible assumption) | assumption)) q16 hroom16; have hr16 := Kd.C_take (m := ((ji4) : Int).toNat) hC16 (by omega); have hy16 : y629.length = ((ji4) : Int).toNat := (by rw [Ny629.out, List.length_take]; omega); rw [← Ny629.out] at hr16; rw [← hy16] at hcut16; have HR632 := Aside0.mk hr16; have HC632 := Aside0.mk (show y629.length ≤ c1 from by omega); clear hr16 hC16 hroom16 hi016 hsz16; have KY16 := Aside0.mk hy16; clear hy16; replace q16 := eq_true q16) | ((with_reducible refine gate_builtin (b := .append) (xs := #[.tmp 10, .tmp 15]) rfl ?_); at_builtin; refine Kd.R_append_rows k58 (w0 := w) w.heap.size rfl (.tmp 10) (.tmp 15) 53 58 (.agg #[(.int .i64 0), (.int .i64 0), (.int .i64 0)]) 24 rfl Try.underlying53 info58 rfl (by decide) (by omega) (.slice none 0 0) ([] : List (S58)) y629 _ _ _ (fun _ => True) (fun _ => False) rfl rfl ?aO ?aR (fun _ _ h => h) (fun _ h => h.elim) ?aF ?aB ?aS ?aL ?_; (case aR => repeat (first | exact (Kd.C_below HR632.out HB.out) | (with_reducible refine Kd.C_alloc ?_ _) | (with_reducible refine Kd.C_drewN ?_ _) | (with_reducible refine Kd.C_drew ?_))); (case aB => exact lB); (case aF => exact (fun _ _ => trivial)); (case aO => exact ((Kd.R_nil _ _ _ _ (fun _ => True)))); (case aS => exact (below_size lB)); (case aL => have := LMc7.out; omega); intro v634 wz2 ho hb hg hat; rw [← Ny633.out] at ho; have n0_ := Aside0.mk (Kd.R_grown (by (with_reducible repeat (first | apply Kd.R_alloc | apply Kd.R_drewN | apply Kd.R_drew)); exact HO628.out) hg (fun _ _ => by simp [Value.ownBlock])); have n1_ := Aside0.mk (hb); have n2_ := Aside0.mk (ho); clear HO628; clear HB; have HO628 := n0_; have HB := n1_; have HO635 := n2_; clear n0_ n1_ n2_; clear ho hb hg hat; obtain ⟨Aoz3, coz4, eoz5⟩ := Kd.R_slice HO628.out; subst eoz5; obtain ⟨Aoz6, coz7, eoz8⟩ := Kd.R_slice HO635.out; subst eoz8) | ((with_reducible refine gate_callee (f := 48) rfl ?_); refine goesL_ (some 19) rfl rfl Try.func48 (by kernel_rfl) rfl #[.slice Aoz3 t626.length coz4, .slice Aoz6 y633.length coz7] rfl (by (try simp only [List.map_toArray, List.map_cons, List.map_nil]); first | done | rfl | (simp only [List.length_drop, List.length_take]; rfl)) ?_; (with_reducible refine (plane_Covers.calls _ _ t626 _ _ y633 t636 _ ?side1 ?side2 ?side3 ?side4 A8.out).mono ?_); (case side1 => repeat (first | exact (Kd.R_reads' HO628.out).2.2 | (with_reducible refine Kd.C_alloc ?_ _) | (with_reducible refine Kd.C_drewN ?_ _) | (with_reducible refine Kd.C_drew ?_))); (case side2 => exact (Kd.R_reads' HO628.out).2.1); (case side3 => repeat (first | exact (Kd.R_reads' HO635.out).2.2 | (with_reducible refine Kd.C_alloc ?_ _) | (with_reducible refine Kd.C_drewN ?_ _) | (with_reducible refine Kd.C_drew ?_))); (case side4 => exact (Kd.R_reads' HO635.out).2.1); rintro e wz9 ⟨rfl, hb⟩; refine ⟨_, rfl, ?_⟩; have n0_ := Aside0.mk (Kd.R_below (by (with_reducible repeat (first | apply Kd.R_alloc | apply Kd.R_drewN | apply Kd.R_drew)); exact HO628.out) hb); have n1_ := Aside0.mk (Kd.R_below (by (with_reducible repeat (first | apply Kd.R_alloc | apply Kd.R_drewN | apply Kd.R_drew)); exact HO635.out) hb); have n2_ := Aside0.mk (below_step lB hb); clear HO628; clear HO635; clear HB; have HO628 := n0_; have HO635 := n1_; have HB := n2_; clear n0_ n1_ n2_; (try clear hb); (try clear hb2); (try clear hk); (try clear hi)) | ((with_reducible refine gate_callee (f := 26) rfl ?_); refine goesL_ (some 21) rfl rfl Try.func26 (by kernel_rfl) rfl #[.slice Aoz3 t626.length coz4] rfl (by (try simp only [List.map_toArray, List.map_cons, List.map_nil]); first | done | rfl | (simp only [List.length_drop, List.length_take]; rfl)) ?_; (with_reducible refine (R1_Simple.calls k _ _ t626 false _ ?side1 ?side2 A9.out).mono ?_); (case side1 => repeat (first | exact (Kd.R_reads' HO628.out).2.2 | (with_reducible refine Kd.C_alloc ?_ _) | (with_reducible refine Kd.C_drewN ?_ _) | (with_reducible refine Kd.C_drew ?_))); (case side2 => exact (Kd.R_reads' HO628.out).2.1); rintro e wz10 ⟨rfl, hb⟩; refine ⟨_, rfl, ?_⟩; have n0_ := Aside0.mk (Kd.R_below (by (with_reducible repeat (first | apply Kd.R_alloc | apply Kd.R_drewN | apply Kd.R_drew)); exact HO628.out) hb); have n1_ := Aside0.mk (Kd.R_below (by (with_reducible repeat (first | apply Kd.R_alloc | apply Kd.R_drewN | apply Kd.R_drew)); exact HO635.out) hb); have n2_ := Aside0.mk (below_step lB hb); clear HO628; clear HO635; clear HB; have HO628 := n0_; have HO635 := n1_; have HB := n2_; clear n0_ n1_ n2_; (try clear hb); (try clear hb2); (try clear hk); (try clear hi)) | (go_at_call 23; (with_reducible refine (L1_awake.calls k  t638 _ A52.out).mono ?_); rintro e wz11 ⟨rfl, hb⟩; have n0_ := Aside0.mk (Kd.R_below (by (with_reducible repeat (first | apply Kd.R_alloc | apply Kd.R_drewN | apply Kd.R_drew)); exact HO628.out) hb); have n1_ := Aside0.mk (Kd.R_below (by (with_reducible repeat (first | apply Kd.R_alloc | apply Kd.R_drewN | apply Kd.R_drew)); exact HO635.out) hb); have n2_ := Aside0.mk (below_step lB hb); clear HO628; clear HO635; clear HB; have HO628 := n0_; have HO635 := n1_; have HB := n2_; clear n0_ n1_ n2_; (try clear hb); (try clear hb2); (try clear hk); (try clear hi)) | ((with_reducible refine gate_callee (f := 26) rfl ?_); refine goesL_ (some 21) rfl rfl Try.func26 (by kernel_rfl) rfl #[.slice Aoz3 t626.length coz4] rfl (by (try simp only [List.map_toArray, List.map_cons, List.map_nil]); first | done | rfl | (simp only [List.length_drop, List.length_take]; rfl)) ?_; (with_reducible refine (R1_Simple.calls k _ _ t626 true _ ?side1 ?side2 A9.out).mono ?_); (case side1 => repeat (first | exact (Kd.R_reads' HO628.out).2.2 | (with_reducible refine Kd.C_alloc ?_ _) | (with_reducible refine Kd.C_drewN ?_ _) | (with_reducible refine Kd.C_drew ?_))); (case side2 => exact (Kd.R_reads' HO628.out).2.1); rintro e wz10 ⟨rfl, hb⟩; refine ⟨_, rfl, ?_⟩; have n0_ := Aside0.mk (Kd.R_below (by (with_reducible repeat (first | apply Kd.R_alloc | apply Kd.R_drewN | apply Kd.R_drew)); exact HO628.out) hb); have n1_ := Aside0.mk (Kd.R_below (by (with_reducible repeat (first | apply Kd.R_alloc | apply Kd.R_drewN | apply Kd.R_drew)); exact HO635.out) hb); have n2_ := Aside0.mk (below_step lB hb); clear HO628; clear HO635; clear HB; have HO628 := n0_; have HO635 := n1_; have HB := n2_; clear n0_ n1_ n2_; (try clear hb); (try clear hb2); (try clear hk); (try clear hi)) | ((with_reducible refine gate_callee (f := 49) rfl ?_); refine goesL_ (some 30) rfl rfl Try.func49 (by kernel_rfl) rfl #[.slice Aoz3 t626.length coz4, .slice Aoz6 y633.length coz7] rfl (by (try simp only [List.map_toArray, List.map_cons, List.map_nil]); first | done | rfl | (simp only [List.length_drop, List.length_take]; rfl)) ?_; (with_reducible refine (R1_Covers.calls _ _ t626 _ _ y633 false _ ?side1 ?side2 ?side3 ?side4 A11.out).mono ?_); (case side1 => repeat (first | exact (Kd.R_reads' HO628.out).2.2 | (with_reducible refine Kd.C_alloc ?_ _) | (with_reducible refine Kd.C_drewN ?_ _) | (with_reducible refine Kd.C_drew ?_))); (case side2 => exact (Kd.R_reads' HO628.out).2.1); (case side3 => repeat (first | exact (Kd.R_reads' HO635.out).2.2 | (with_reducible refine Kd.C_alloc ?_ _) | (with_reducible refine Kd.C_drewN ?_ _) | (with_reducible refine Kd.C_drew ?_))); (case side4 => exact (Kd.R_reads' HO635.out).2.1); rintro e wz11 ⟨rfl, hb⟩; refine ⟨_, rfl, ?_⟩; have n0_ := Aside0.mk (Kd.R_below (by (with_reducible repeat (first | apply Kd.R_alloc | apply Kd.R_drewN | apply Kd.R_drew)); exact HO628.out) hb); have n1_ := Aside0.mk (Kd.R_below (by (with_reducible repeat (first | apply Kd.R_alloc | apply Kd.R_drewN | apply Kd.R_drew)); exact HO635.out) hb); have n2_ := Aside0.mk (below_step lB hb); clear HO628; clear HO635; clear HB; have HO628 := n0_; have HO635 := n1_; have HB := n2_; clear n0_ n1_ n2_; (try clear hb); (try clear hb2); (try clear hk); (try clear hi)) | (go_at_call 23; (with_reducible refine (L1_awake.calls k  t641 _ A33.out).mono ?_); rintro e wz12 ⟨rfl, hb⟩; have n0_ := Aside0.mk (Kd.R_below (by (with_reducible repeat (first | apply Kd.R_alloc | apply Kd.R_drewN | apply Kd.R_drew)); exact HO628.out) hb); have n1_ := Aside0.mk (Kd.R_below (by (with_reducible repeat (first | apply Kd.R_alloc | apply Kd.R_drewN | apply Kd.R_drew)); exact HO635.out) hb); have n2_ := Aside0.mk (below_step lB hb); clear HO628; clear HO635; clear HB; have HO628 := n0_; have HO635 := n1_; have HB := n2_; clear n0_ n1_ n2_; (try clear hb); (try clear hb2); (try clear hk); (try clear hi)) | ((with_reducible refine gate_callee (f := 49) rfl ?_); refine goesL_ (some 30) rfl rfl Try.func49 (by kernel_rfl) rfl #[.slice Aoz3 t626.length coz4, .slice Aoz6 y633.length coz7] rfl (by (try simp only [List.map_toArray, List.map_cons, List.map_nil]); first | done | rfl | (simp only [List.length_drop, List.length_take]; rfl)) ?_; (with_reducible refine (R1_Covers.calls _ _ t626 _ _ y633 true _ ?side1 ?side2 ?side3 ?side4 A11.out).mono ?_); (case side1 => repeat (first | exact (Kd.R_reads' HO628.out).2.2 | (with_reducible refine Kd.C_alloc ?_ _) | (with_reducible refine Kd.C_drewN ?_ _) | (with_reducible refine Kd.C_drew ?_))); (case side2 => exact (Kd.R_reads' HO628.out).2.1); (case side3 => repeat (first | exact (Kd.R_reads' HO635.out).2.2 | (with_reducible refine Kd.C_alloc ?_ _) | (with_reducible refine Kd.C_drewN ?_ _) | (with_reducible refine Kd.C_drew ?_))); (case side4 => exact (Kd.R_reads' HO635.out).2.1); rintro e wz11 ⟨rfl, hb⟩; refine ⟨_, rfl, ?_⟩; have n0_ := Aside0.mk (Kd.R_below (by (with_reducible repeat (first | apply Kd.R_alloc | apply Kd.R_drewN | apply Kd.R_drew)); exact HO628.out) hb); have n1_ := Aside0.mk (Kd.R_below (by (with_reducible repeat (first | apply Kd.R_alloc | apply Kd.R_drewN | apply Kd.R_drew)); exact HO635.out) hb); have n2_ := Aside0.mk (below_step lB hb); clear HO628; clear HO635; clear HB; have HO628 := n0_; have HO635 := n1_; have HB := n2_; clear n0_ n1_ n2_; (try clear hb); (try clear hb2); (try clear hk); (try clear hi)) | (go_at_call 23; (with_reducible refine (L1_awake.calls k  t640 _ A14.out).mono ?_); rintro e wz12 ⟨rfl, hb⟩; have n0_ := Aside0.mk (Kd.R_below (by (with_reducible repeat (first | apply Kd.R_alloc | apply Kd.R_drewN | apply Kd.R_drew)); exact HO628.out) hb); have n1_ := Aside0.mk (Kd.R_below (by (with_reducible repeat (first | apply Kd.R_alloc | apply Kd.R_drewN | apply Kd.R_drew)); exact HO635.out) hb); have n2_ := Aside0.mk (below_step lB hb); clear HO628; clear HO635; clear HB; have HO628 := n0_; have HO635 := n1_; have HB := n2_; clear n0_ n1_ n2_; (try clear hb); (try clear hb2); (try clear hk); (try clear hi)))
 all_goals first
   | (go_ret
      exact ⟨by first | rfl | (simp [errW_none, errW_some] <;> rfl) | (simp only [← hji4]; first | rfl | (simp [errW_none, errW_some] <;> rfl)) | (simp [*, errW_none, errW_some] <;> rfl), lB⟩)

end Go.Proofs.Ythaklbjcjoolcaa.P
namespace Go.Proofs.Ythaklbjcjoolcaa.Pure
open Go.RowKit Go.Proofs.Ythaklbjcjoolcaa.P YthaklbjcjoolcaaW.PrintWords YthaklbjcjoolcaaW.PrintLast YthaklbjcjoolcaaW.PrintMore
theorem PlaneCovers (l : List S31) (ts : List S58) (_ : ∀ q ∈ l, (Lit.int .i64 q.f0).wf = true ∧ (Lit.int .i64 q.f1).wf = true) (hw : ∀ q ∈ ts, (Lit.int .i64 q.f0).wf = true ∧ (Lit.int .i64 q.f1).wf = true ∧ (Lit.int .i64 q.f2).wf = true) : ∃ k, L1_PlaneCovers.f k l ts = some true := by
 refine Ev.rounds ?_
 unfold L1_PlaneCovers.f
 obtain ⟨t, ht, hl, _⟩ := some_is l 40 (by decide)
 refine Ev.bind (ev_is ht) ?_
 have hm : mn (ts.length : Int) 50 = ((min ts.length 50 : Nat) : Int) := mn_nat ts.length 50
 obtain ⟨u, hu⟩ : ∃ u, u = ts.take (min ts.length 50) := ⟨_, rfl⟩
 have hul : u.length ≤ 50 := by rw [hu, List.length_take]; omega
 have hwu : u.all wfB = true := by
  rw [List.all_eq_true]
  intro q hq
  rw [hu] at hq
  obtain ⟨a, b, c⟩ := hw q (List.mem_of_mem_take hq)
  unfold wfB
  rw [a, b, c]; rfl
 have key : Ev (fun k => (plane_Covers.f t u).bind fun t636 => ((R1_Simple.f k t).bind fun t637 => (if t637 = true then ((R1_Covers.f t u).bind fun t639 => (if t639 = true then (if t636 = 0 then ((L1_awake.f k).bind fun t640 => (some t640)) else (some false)) else (if t636 = 10 then ((L1_awake.f k).bind fun t641 => (some t641)) else (some false)))) else (if t636 = 2 then ((L1_awake.f k).bind fun t638 => (some t638)) else (some false))))) true := by
  by_cases hs : simpleS t = true
  ·have hC : plane_Covers.f t u = some (covR t u) := by unfold plane_Covers.f; rw [if_pos hwu, if_pos hs]
   have hR : R1_Covers.f t u = some (refCovB t (senseS t) u) := by unfold R1_Covers.f; rw [if_pos hs]
   refine Ev.bind (ev_is hC) (Ev.bind (ref_simple t (by omega)) (ev_pos hs (Ev.bind (ev_is hR) ?_)))
   by_cases hb : refCovB t (senseS t) u = true
   ·exact ev_pos hb (ev_pos (covR_yes hb) awake_bind)
   ·exact ev_neg hb (ev_pos (covR_no (by rwa [Bool.not_eq_true] at hb)) awake_bind)
  ·have hC : plane_Covers.f t u = some 2 := by unfold plane_Covers.f; rw [if_pos hwu, if_neg hs]
   exact Ev.bind (ev_is hC) (Ev.bind (ref_simple t (by omega)) (ev_neg hs (ev_pos rfl awake_bind)))
 refine ev_pos (by rw [hm]; omega) (ev_pos (by rw [hm]; omega) ?_)
 rw [hm, Int.toNat_natCast, ← hu]
 refine Ev.bind (ev_is rfl) (ev_pos (by simp; omega) (Ev.bind (ev_is (show some (([] : List S58) ++ u) = some u from rfl)) key))
end Go.Proofs.Ythaklbjcjoolcaa.Pure
