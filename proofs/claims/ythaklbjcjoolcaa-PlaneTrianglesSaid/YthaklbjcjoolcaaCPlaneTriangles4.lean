/- Proved here: what functions that the law reaches compute, and plain laws of that. Put together by a program; a part was printed by one (wip/printplus.py). -/
import Derived.Test.YthaklbjcjoolcaaBQ1
import Derived.Test.YthaklbjcjoolcaaBQ4
import Derived.Test.YthaklbjcjoolcaaCPlaneTriangles1
import Derived.Test.YthaklbjcjoolcaaCPlaneTriangles3
import Derived.Test.YthaklbjcjoolcaaCPlaneTriangles2
set_option linter.unusedVariables false
set_option linter.unusedSimpArgs false
namespace Go.Proofs.Ythaklbjcjoolcaa.P
open Go.RowKit YthaklbjcjoolcaaW.PrintWords YthaklbjcjoolcaaW.PrintLast YthaklbjcjoolcaaW.PrintMore
attribute [local go_sem] max2_int min2_int max_two min_two max_three min_three max_four min_four

def L1_PlaneTriangles.f (k : Nat) (l0 : List (S31)) : Option (Bool) := (L1_some.f l0 50).bind fun t693 => ((plane_Triangulate.f t693).bind fun bt696 => ((R1_Simple.f k t693).bind fun t700 => (if t700 = true then (if bt696.2 = 0 then ((R1_Covers.f t693 bt696.1).bind fun t701 => (if t701 = true then ((plane_Covers.f t693 bt696.1).bind fun t702 => (if t702 = 0 then ((L1_awake.f k).bind fun t703 => (some t703)) else (some false))) else (some false))) else (some false)) else (if (bt696.1.length : Int) = 0 then (if bt696.2 = 2 then ((plane_Covers.f t693 bt696.1).bind fun t704 => (if t704 = 2 then ((L1_awake.f k).bind fun t705 => (some t705)) else (some false))) else (some false)) else (some false)))))
theorem L1_PlaneTriangles.mono : ∀ a0 k, LeO (L1_PlaneTriangles.f k a0) (L1_PlaneTriangles.f (k + 1) a0) := by
 intro a0 k
 unfold L1_PlaneTriangles.f
 repeat' first
   | (with_reducible exact L1_awake.mono _)
   | (with_reducible exact R1_Simple.mono _ _)
   | (with_reducible first | exact LeO.refl _ | exact LeO.none _ | refine LeO.ite ?_ ?_ | refine LeO.bind ?_ (fun _ => ?_))
   | exact L1_awake.mono _
   | exact R1_Simple.mono _ _
   | exact LeO.none _ | refine LeO.ite ?_ ?_ | refine LeO.bind ?_ (fun _ => ?_)
set_option maxHeartbeats 8000000 in
set_option maxRecDepth 100000 in
theorem L1_PlaneTriangles.calls (k : Nat) (A0 : Option Addr) (c0 : Nat) (l0 : List (S31)) (r : Bool) (w : World) (hr0 : Kd.C k31 w A0 l0.length l0) (hc0 : l0.length ≤ c0) (h : L1_PlaneTriangles.f k l0 = some r) :
  Calls Try.prog 19 #[.slice A0 l0.length c0] w fun e w' => e = .returned (.bool r) ∧ Below w.heap.size w w' := by
 have HR0 := Aside0.mk hr0
 have HC0 := Aside0.mk hc0
 clear hr0 hc0
 have HB := Aside0.mk (Below.refl w.heap.size w)
 have H : ((L1_some.f l0 50).bind fun t693 => ((plane_Triangulate.f t693).bind fun bt696 => ((R1_Simple.f k t693).bind fun t700 => (if t700 = true then (if bt696.2 = 0 then ((R1_Covers.f t693 bt696.1).bind fun t701 => (if t701 = true then ((plane_Covers.f t693 bt696.1).bind fun t702 => (if t702 = 0 then ((L1_awake.f k).bind fun t703 => (some t703)) else (some false))) else (some false))) else (some false)) else (if (bt696.1.length : Int) = 0 then (if bt696.2 = 2 then ((plane_Covers.f t693 bt696.1).bind fun t704 => (if t704 = 2 then ((L1_awake.f k).bind fun t705 => (some t705)) else (some false))) else (some false)) else (some false)))))) = some r := h
 clear h
 replace H := Option.bind_eq_some_iff.mp H
 obtain ⟨t693, A20, H⟩ := H
 replace H : ((plane_Triangulate.f t693).bind fun bt696 => ((R1_Simple.f k t693).bind fun t700 => (if t700 = true then (if bt696.2 = 0 then ((R1_Covers.f t693 bt696.1).bind fun t701 => (if t701 = true then ((plane_Covers.f t693 bt696.1).bind fun t702 => (if t702 = 0 then ((L1_awake.f k).bind fun t703 => (some t703)) else (some false))) else (some false))) else (some false)) else (if (bt696.1.length : Int) = 0 then (if bt696.2 = 2 then ((plane_Covers.f t693 bt696.1).bind fun t704 => (if t704 = 2 then ((L1_awake.f k).bind fun t705 => (some t705)) else (some false))) else (some false)) else (some false))))) = some r := H
 have A2 := Aside0.mk A20
 clear A20
 replace H := Option.bind_eq_some_iff.mp H
 obtain ⟨⟨t696, t697⟩, A30, H⟩ := H
 replace H : ((R1_Simple.f k t693).bind fun t700 => (if t700 = true then (if t697 = 0 then ((R1_Covers.f t693 t696).bind fun t701 => (if t701 = true then ((plane_Covers.f t693 t696).bind fun t702 => (if t702 = 0 then ((L1_awake.f k).bind fun t703 => (some t703)) else (some false))) else (some false))) else (some false)) else (if (t696.length : Int) = 0 then (if t697 = 2 then ((plane_Covers.f t693 t696).bind fun t704 => (if t704 = 2 then ((L1_awake.f k).bind fun t705 => (some t705)) else (some false))) else (some false)) else (some false)))) = some r := H
 have A3 := Aside0.mk A30
 clear A30
 replace H := Option.bind_eq_some_iff.mp H
 obtain ⟨t700, A40, H⟩ := H
 replace H : (if t700 = true then (if t697 = 0 then ((R1_Covers.f t693 t696).bind fun t701 => (if t701 = true then ((plane_Covers.f t693 t696).bind fun t702 => (if t702 = 0 then ((L1_awake.f k).bind fun t703 => (some t703)) else (some false))) else (some false))) else (some false)) else (if (t696.length : Int) = 0 then (if t697 = 2 then ((plane_Covers.f t693 t696).bind fun t704 => (if t704 = 2 then ((L1_awake.f k).bind fun t705 => (some t705)) else (some false))) else (some false)) else (some false))) = some r := H
 have A4 := Aside0.mk A40
 clear A40
 by_cases c5 : t700 = true
 subst c5
 have H1 : (if t697 = 0 then ((R1_Covers.f t693 t696).bind fun t701 => (if t701 = true then ((plane_Covers.f t693 t696).bind fun t702 => (if t702 = 0 then ((L1_awake.f k).bind fun t703 => (some t703)) else (some false))) else (some false))) else (some false)) = some r := by rw [if_pos rfl] at H; exact H
 clear H
 have H := H1
 clear H1
 by_cases c6 : t697 = 0
 rw [if_pos c6] at H
 have c6b0 : (t697 == 0) = true := beq_iff_eq.mpr c6
 have c6b1 : (t697 != 0) = false := bne_eq_false_iff_eq.mpr c6
 clear c6
 replace H := Option.bind_eq_some_iff.mp H
 obtain ⟨t701, A70, H⟩ := H
 replace H : (if t701 = true then ((plane_Covers.f t693 t696).bind fun t702 => (if t702 = 0 then ((L1_awake.f k).bind fun t703 => (some t703)) else (some false))) else (some false)) = some r := H
 have A7 := Aside0.mk A70
 clear A70
 by_cases c8 : t701 = true
 subst c8
 have H1 : ((plane_Covers.f t693 t696).bind fun t702 => (if t702 = 0 then ((L1_awake.f k).bind fun t703 => (some t703)) else (some false))) = some r := by rw [if_pos rfl] at H; exact H
 clear H
 have H := H1
 clear H1
 replace H := Option.bind_eq_some_iff.mp H
 obtain ⟨t702, A90, H⟩ := H
 replace H : (if t702 = 0 then ((L1_awake.f k).bind fun t703 => (some t703)) else (some false)) = some r := H
 have A9 := Aside0.mk A90
 clear A90
 by_cases c10 : t702 = 0
 rw [if_pos c10] at H
 have c10b0 : (t702 == 0) = true := beq_iff_eq.mpr c10
 have c10b1 : (t702 != 0) = false := bne_eq_false_iff_eq.mpr c10
 clear c10
 replace H := Option.bind_eq_some_iff.mp H
 obtain ⟨t703, A110, H⟩ := H
 replace H : (some t703) = some r := H
 have A11 := Aside0.mk A110
 clear A110
 obtain rfl := Option.some.inj H
 go_enter Try.func19, Try.ntmps19
 rotate_left 1
 rw [if_neg c10] at H
 have c10b0 : (t702 == 0) = false := beq_eq_false_iff_ne.mpr c10
 have c10b1 : (t702 != 0) = true := bne_iff_ne.mpr c10
 obtain rfl := Option.some.inj H
 go_enter Try.func19, Try.ntmps19
 rotate_left 1
 replace c8 := Bool.eq_false_iff.mpr c8
 subst c8
 have H1 : (some false) = some r := by rw [if_neg (show ¬ (false = true) by decide)] at H; exact H
 clear H
 have H := H1
 clear H1
 obtain rfl := Option.some.inj H
 go_enter Try.func19, Try.ntmps19
 rotate_left 1
 rw [if_neg c6] at H
 have c6b0 : (t697 == 0) = false := beq_eq_false_iff_ne.mpr c6
 have c6b1 : (t697 != 0) = true := bne_iff_ne.mpr c6
 obtain rfl := Option.some.inj H
 go_enter Try.func19, Try.ntmps19
 rotate_left 1
 replace c5 := Bool.eq_false_iff.mpr c5
 subst c5
 have H1 : (if (t696.length : Int) = 0 then (if t697 = 2 then ((plane_Covers.f t693 t696).bind fun t704 => (if t704 = 2 then ((L1_awake.f k).bind fun t705 => (some t705)) else (some false))) else (some false)) else (some false)) = some r := by rw [if_neg (show ¬ (false = true) by decide)] at H; exact H
 clear H
 have H := H1
 clear H1
 by_cases c37 : (t696.length : Int) = 0
 rw [if_pos c37] at H
 have c37b0 : ((t696.length : Int) == 0) = true := beq_iff_eq.mpr c37
 have c37b1 : ((t696.length : Int) != 0) = false := bne_eq_false_iff_eq.mpr c37
 clear c37
 by_cases c38 : t697 = 2
 rw [if_pos c38] at H
 have c38b0 : (t697 == 2) = true := beq_iff_eq.mpr c38
 have c38b1 : (t697 != 2) = false := bne_eq_false_iff_eq.mpr c38
 clear c38
 replace H := Option.bind_eq_some_iff.mp H
 obtain ⟨t704, A390, H⟩ := H
 replace H : (if t704 = 2 then ((L1_awake.f k).bind fun t705 => (some t705)) else (some false)) = some r := H
 have A39 := Aside0.mk A390
 clear A390
 by_cases c40 : t704 = 2
 rw [if_pos c40] at H
 have c40b0 : (t704 == 2) = true := beq_iff_eq.mpr c40
 have c40b1 : (t704 != 2) = false := bne_eq_false_iff_eq.mpr c40
 clear c40
 replace H := Option.bind_eq_some_iff.mp H
 obtain ⟨t705, A410, H⟩ := H
 replace H : (some t705) = some r := H
 have A41 := Aside0.mk A410
 clear A410
 obtain rfl := Option.some.inj H
 go_enter Try.func19, Try.ntmps19
 rotate_left 1
 rw [if_neg c40] at H
 have c40b0 : (t704 == 2) = false := beq_eq_false_iff_ne.mpr c40
 have c40b1 : (t704 != 2) = true := bne_iff_ne.mpr c40
 obtain rfl := Option.some.inj H
 go_enter Try.func19, Try.ntmps19
 rotate_left 1
 rw [if_neg c38] at H
 have c38b0 : (t697 == 2) = false := beq_eq_false_iff_ne.mpr c38
 have c38b1 : (t697 != 2) = true := bne_iff_ne.mpr c38
 obtain rfl := Option.some.inj H
 go_enter Try.func19, Try.ntmps19
 rotate_left 1
 rw [if_neg c37] at H
 have c37b0 : ((t696.length : Int) == 0) = false := beq_eq_false_iff_ne.mpr c37
 have c37b1 : ((t696.length : Int) != 0) = true := bne_iff_ne.mpr c37
 have c37b2 : ¬ (t696 = []) := fun h_ => c37 (by rw [h_]; rfl)
 obtain rfl := Option.some.inj H
 go_enter Try.func19, Try.ntmps19
 all_goals go_wp2_with (first | ((with_reducible refine gate_callee (f := 20) rfl ?_); refine goesL_ (some 7) rfl rfl Try.func20 (by kernel_rfl) rfl #[.slice A0 l0.length c0, .int .i64 50] rfl (by (try simp only [List.map_toArray, List.map_cons, List.map_nil]); first | done | rfl | (simp only [List.length_drop, List.length_take]; rfl)) ?_; (with_reducible refine (L1_some.calls _ _ l0 50 t693 _ ?side1 ?side2 A2.out).mono ?_); (case side1 => repeat (first | exact HR0.out | (with_reducible refine Kd.C_alloc ?_ _) | (with_reducible refine Kd.C_drewN ?_ _) | (with_reducible refine Kd.C_drew ?_))); (case side2 => exact HC0.out); rintro e wz0 ⟨v694, rfl, hoz1, hb⟩; refine ⟨_, rfl, ?_⟩; have n0_ := Aside0.mk (Kd.R_lower hoz1 (below_size lB)); have n1_ := Aside0.mk (below_step lB hb); clear HB; have HO695 := n0_; have HB := n1_; clear n0_ n1_; (try clear hb); (try clear hb2); (try clear hk); (try clear hi); (try clear hoz1); obtain ⟨Aoz2, coz3, eoz4⟩ := Kd.R_slice HO695.out; subst eoz4) | ((with_reducible refine gate_callee (f := 50) rfl ?_); refine goesL_ (some 10) rfl rfl Try.func50 (by kernel_rfl) rfl #[.slice Aoz2 t693.length coz3] rfl (by (try simp only [List.map_toArray, List.map_cons, List.map_nil]); first | done | rfl | (simp only [List.length_drop, List.length_take]; rfl)) ?_; (with_reducible refine (plane_Triangulate.calls _ _ t693 t696 t697 _ ?side1 ?side2 A3.out).mono ?_); (case side1 => repeat (first | exact (Kd.R_reads' HO695.out).2.2 | (with_reducible refine Kd.C_alloc ?_ _) | (with_reducible refine Kd.C_drewN ?_ _) | (with_reducible refine Kd.C_drew ?_))); (case side2 => exact (Kd.R_reads' HO695.out).2.1); rintro e wz5 ⟨v698, rfl, hoz1, hb⟩; refine ⟨_, rfl, ?_⟩; have n0_ := Aside0.mk (Kd.R_below (by (with_reducible repeat (first | apply Kd.R_alloc | apply Kd.R_drewN | apply Kd.R_drew)); exact HO695.out) hb); have n1_ := Aside0.mk (Kd.R_lower hoz1 (below_size lB)); have n2_ := Aside0.mk (below_step lB hb); clear HO695; clear HB; have HO695 := n0_; have HO699 := n1_; have HB := n2_; clear n0_ n1_ n2_; (try clear hb); (try clear hb2); (try clear hk); (try clear hi); (try clear hoz1)) | ((with_reducible refine gate_callee (f := 26) rfl ?_); refine goesL_ (some 14) rfl rfl Try.func26 (by kernel_rfl) rfl #[.slice Aoz2 t693.length coz3] rfl (by (try simp only [List.map_toArray, List.map_cons, List.map_nil]); first | done | rfl | (simp only [List.length_drop, List.length_take]; rfl)) ?_; (with_reducible refine (R1_Simple.calls k _ _ t693 false _ ?side1 ?side2 A4.out).mono ?_); (case side1 => repeat (first | exact (Kd.R_reads' HO695.out).2.2 | (with_reducible refine Kd.C_alloc ?_ _) | (with_reducible refine Kd.C_drewN ?_ _) | (with_reducible refine Kd.C_drew ?_))); (case side2 => exact (Kd.R_reads' HO695.out).2.1); rintro e wz6 ⟨rfl, hb⟩; refine ⟨_, rfl, ?_⟩; have n0_ := Aside0.mk (Kd.R_below (by (with_reducible repeat (first | apply Kd.R_alloc | apply Kd.R_drewN | apply Kd.R_drew)); exact HO695.out) hb); have n1_ := Aside0.mk (Kd.R_below (by (with_reducible repeat (first | apply Kd.R_alloc | apply Kd.R_drewN | apply Kd.R_drew)); exact HO699.out) hb); have n2_ := Aside0.mk (below_step lB hb); clear HO695; clear HO699; clear HB; have HO695 := n0_; have HO699 := n1_; have HB := n2_; clear n0_ n1_ n2_; (try clear hb); (try clear hb2); (try clear hk); (try clear hi); obtain ⟨Aoz7, coz8, eoz9⟩ := Kd.R_slice HO699.out; subst eoz9) | (go_at_call 48; (with_reducible refine (plane_Covers.calls _ _ t693 _ _ t696 t704 _ ?side1 ?side2 ?side3 ?side4 A39.out).mono ?_); (case side1 => repeat (first | exact (Kd.R_reads' HO695.out).2.2 | (with_reducible refine Kd.C_alloc ?_ _) | (with_reducible refine Kd.C_drewN ?_ _) | (with_reducible refine Kd.C_drew ?_))); (case side2 => exact (Kd.R_reads' HO695.out).2.1); (case side3 => repeat (first | exact (Kd.R_reads' HO699.out).2.2 | (with_reducible refine Kd.C_alloc ?_ _) | (with_reducible refine Kd.C_drewN ?_ _) | (with_reducible refine Kd.C_drew ?_))); (case side4 => exact (Kd.R_reads' HO699.out).2.1); rintro e wz10 ⟨rfl, hb⟩; have n0_ := Aside0.mk (Kd.R_below (by (with_reducible repeat (first | apply Kd.R_alloc | apply Kd.R_drewN | apply Kd.R_drew)); exact HO695.out) hb); have n1_ := Aside0.mk (Kd.R_below (by (with_reducible repeat (first | apply Kd.R_alloc | apply Kd.R_drewN | apply Kd.R_drew)); exact HO699.out) hb); have n2_ := Aside0.mk (below_step lB hb); clear HO695; clear HO699; clear HB; have HO695 := n0_; have HO699 := n1_; have HB := n2_; clear n0_ n1_ n2_; (try clear hb); (try clear hb2); (try clear hk); (try clear hi)) | (go_at_call 23; (with_reducible refine (L1_awake.calls k  t705 _ A41.out).mono ?_); rintro e wz11 ⟨rfl, hb⟩; have n0_ := Aside0.mk (Kd.R_below (by (with_reducible repeat (first | apply Kd.R_alloc | apply Kd.R_drewN | apply Kd.R_drew)); exact HO695.out) hb); have n1_ := Aside0.mk (Kd.R_below (by (with_reducible repeat (first | apply Kd.R_alloc | apply Kd.R_drewN | apply Kd.R_drew)); exact HO699.out) hb); have n2_ := Aside0.mk (below_step lB hb); clear HO695; clear HO699; clear HB; have HO695 := n0_; have HO699 := n1_; have HB := n2_; clear n0_ n1_ n2_; (try clear hb); (try clear hb2); (try clear hk); (try clear hi)) | ((with_reducible refine gate_callee (f := 26) rfl ?_); refine goesL_ (some 14) rfl rfl Try.func26 (by kernel_rfl) rfl #[.slice Aoz2 t693.length coz3] rfl (by (try simp only [List.map_toArray, List.map_cons, List.map_nil]); first | done | rfl | (simp only [List.length_drop, List.length_take]; rfl)) ?_; (with_reducible refine (R1_Simple.calls k _ _ t693 true _ ?side1 ?side2 A4.out).mono ?_); (case side1 => repeat (first | exact (Kd.R_reads' HO695.out).2.2 | (with_reducible refine Kd.C_alloc ?_ _) | (with_reducible refine Kd.C_drewN ?_ _) | (with_reducible refine Kd.C_drew ?_))); (case side2 => exact (Kd.R_reads' HO695.out).2.1); rintro e wz6 ⟨rfl, hb⟩; refine ⟨_, rfl, ?_⟩; have n0_ := Aside0.mk (Kd.R_below (by (with_reducible repeat (first | apply Kd.R_alloc | apply Kd.R_drewN | apply Kd.R_drew)); exact HO695.out) hb); have n1_ := Aside0.mk (Kd.R_below (by (with_reducible repeat (first | apply Kd.R_alloc | apply Kd.R_drewN | apply Kd.R_drew)); exact HO699.out) hb); have n2_ := Aside0.mk (below_step lB hb); clear HO695; clear HO699; clear HB; have HO695 := n0_; have HO699 := n1_; have HB := n2_; clear n0_ n1_ n2_; (try clear hb); (try clear hb2); (try clear hk); (try clear hi); obtain ⟨Aoz7, coz8, eoz9⟩ := Kd.R_slice HO699.out; subst eoz9) | (go_at_call 49; (with_reducible refine (R1_Covers.calls _ _ t693 _ _ t696 false _ ?side1 ?side2 ?side3 ?side4 A7.out).mono ?_); (case side1 => repeat (first | exact (Kd.R_reads' HO695.out).2.2 | (with_reducible refine Kd.C_alloc ?_ _) | (with_reducible refine Kd.C_drewN ?_ _) | (with_reducible refine Kd.C_drew ?_))); (case side2 => exact (Kd.R_reads' HO695.out).2.1); (case side3 => repeat (first | exact (Kd.R_reads' HO699.out).2.2 | (with_reducible refine Kd.C_alloc ?_ _) | (with_reducible refine Kd.C_drewN ?_ _) | (with_reducible refine Kd.C_drew ?_))); (case side4 => exact (Kd.R_reads' HO699.out).2.1); rintro e wz10 ⟨rfl, hb⟩; have n0_ := Aside0.mk (Kd.R_below (by (with_reducible repeat (first | apply Kd.R_alloc | apply Kd.R_drewN | apply Kd.R_drew)); exact HO695.out) hb); have n1_ := Aside0.mk (Kd.R_below (by (with_reducible repeat (first | apply Kd.R_alloc | apply Kd.R_drewN | apply Kd.R_drew)); exact HO699.out) hb); have n2_ := Aside0.mk (below_step lB hb); clear HO695; clear HO699; clear HB; have HO695 := n0_; have HO699 := n1_; have HB := n2_; clear n0_ n1_ n2_; (try clear hb); (try clear hb2); (try clear hk); (try clear hi)) | (go_at_call 49; (with_reducible refine (R1_Covers.calls _ _ t693 _ _ t696 true _ ?side1 ?side2 ?side3 ?side4 A7.out).mono ?_); (case side1 => repeat (first | exact (Kd.R_reads' HO695.out).2.2 | (with_reducible refine Kd.C_alloc ?_ _) | (with_reducible refine Kd.C_drewN ?_ _) | (with_reducible refine Kd.C_drew ?_))); (case side2 => exact (Kd.R_reads' HO695.out).2.1); (case side3 => repeat (first | exact (Kd.R_reads' HO699.out).2.2 | (with_reducible refine Kd.C_alloc ?_ _) | (with_reducible refine Kd.C_drewN ?_ _) | (with_reducible refine Kd.C_drew ?_))); (case side4 => exact (Kd.R_reads' HO699.out).2.1); rintro e wz10 ⟨rfl, hb⟩; have n0_ := Aside0.mk (Kd.R_below (by (with_reducible repeat (first | apply Kd.R_alloc | apply Kd.R_drewN | apply Kd.R_drew)); exact HO695.out) hb); have n1_ := Aside0.mk (Kd.R_below (by (with_reducible repeat (first | apply Kd.R_alloc | apply Kd.R_drewN | apply Kd.R_drew)); exact HO699.out) hb); have n2_ := Aside0.mk (below_step lB hb); clear HO695; clear HO699; clear HB; have HO695 := n0_; have HO699 := n1_; have HB := n2_; clear n0_ n1_ n2_; (try clear hb); (try clear hb2); (try clear hk); (try clear hi)) | (go_at_call 48; (with_reducible refine (plane_Covers.calls _ _ t693 _ _ t696 t702 _ ?side1 ?side2 ?side3 ?side4 A9.out).mono ?_); (case side1 => repeat (first | exact (Kd.R_reads' HO695.out).2.2 | (with_reducible refine Kd.C_alloc ?_ _) | (with_reducible refine Kd.C_drewN ?_ _) | (with_reducible refine Kd.C_drew ?_))); (case side2 => exact (Kd.R_reads' HO695.out).2.1); (case side3 => repeat (first | exact (Kd.R_reads' HO699.out).2.2 | (with_reducible refine Kd.C_alloc ?_ _) | (with_reducible refine Kd.C_drewN ?_ _) | (with_reducible refine Kd.C_drew ?_))); (case side4 => exact (Kd.R_reads' HO699.out).2.1); rintro e wz11 ⟨rfl, hb⟩; have n0_ := Aside0.mk (Kd.R_below (by (with_reducible repeat (first | apply Kd.R_alloc | apply Kd.R_drewN | apply Kd.R_drew)); exact HO695.out) hb); have n1_ := Aside0.mk (Kd.R_below (by (with_reducible repeat (first | apply Kd.R_alloc | apply Kd.R_drewN | apply Kd.R_drew)); exact HO699.out) hb); have n2_ := Aside0.mk (below_step lB hb); clear HO695; clear HO699; clear HB; have HO695 := n0_; have HO699 := n1_; have HB := n2_; clear n0_ n1_ n2_; (try clear hb); (try clear hb2); (try clear hk); (try clear hi)) | (go_at_call 23; (with_reducible refine (L1_awake.calls k  t703 _ A11.out).mono ?_); rintro e wz12 ⟨rfl, hb⟩; have n0_ := Aside0.mk (Kd.R_below (by (with_reducible repeat (first | apply Kd.R_alloc | apply Kd.R_drewN | apply Kd.R_drew)); exact HO695.out) hb); have n1_ := Aside0.mk (Kd.R_below (by (with_reducible repeat (first | apply Kd.R_alloc | apply Kd.R_drewN | apply Kd.R_drew)); exact HO699.out) hb); have n2_ := Aside0.mk (below_step lB hb); clear HO695; clear HO699; clear HB; have HO695 := n0_; have HO699 := n1_; have HB := n2_; clear n0_ n1_ n2_; (try clear hb); (try clear hb2); (try clear hk); (try clear hi)))
 all_goals first
   | (go_ret
      exact en)

end Go.Proofs.Ythaklbjcjoolcaa.P
namespace Go.Proofs.Ythaklbjcjoolcaa.Pure
open Go.RowKit Go.Proofs.Ythaklbjcjoolcaa.P YthaklbjcjoolcaaW.PrintWords YthaklbjcjoolcaaW.PrintLast YthaklbjcjoolcaaW.PrintMore
theorem wf_tri {l : List S31} (h : simpleS l = true) : (triT l).all wfB = true := by
 rw [List.all_eq_true]
 intro t ht
 obtain ⟨h3, h5, _⟩ := simple_ok h
 obtain ⟨a, b, c, rfl, ha, hb, hc⟩ := (tri_fact h).1.idx t ht
 have w : ∀ x : Nat, x < l.length → (Lit.int .i64 (x : Int)).wf = true := fun x hx => ok64_of (by omega) (by omega)
 unfold wfB
 rw [w a ha, w b hb, w c hc]; rfl
theorem PlaneTriangles (l : List S31) (_ : ∀ q ∈ l, (Lit.int .i64 q.f0).wf = true ∧ (Lit.int .i64 q.f1).wf = true) : ∃ k, L1_PlaneTriangles.f k l = some true := by
 refine Ev.rounds ?_
 unfold L1_PlaneTriangles.f
 obtain ⟨t, ht, hl, _⟩ := some_is l 50 (by decide)
 refine Ev.bind (ev_is ht) ?_
 by_cases hs : simpleS t = true
 ·have hT : plane_Triangulate.f t = some (triT t, 0) := by unfold plane_Triangulate.f; rw [if_pos hs]
  have hR : R1_Covers.f t (triT t) = some true := by unfold R1_Covers.f; rw [if_pos hs, tri_refcov hs]
  have hC : plane_Covers.f t (triT t) = some 0 := by unfold plane_Covers.f; rw [if_pos (wf_tri hs), if_pos hs, covR_yes (tri_refcov hs)]
  exact Ev.bind (ev_is hT) (Ev.bind (ref_simple t (by omega)) (ev_pos hs (ev_pos rfl (Ev.bind (ev_is hR) (ev_pos rfl (Ev.bind (ev_is hC) (ev_pos rfl awake_bind)))))))
 ·have hT : plane_Triangulate.f t = some ([], 2) := by unfold plane_Triangulate.f; rw [if_neg hs]
  have hC : plane_Covers.f t [] = some 2 := by unfold plane_Covers.f; rw [if_pos (show ([] : List S58).all wfB = true from rfl), if_neg hs]
  exact Ev.bind (ev_is hT) (Ev.bind (ref_simple t (by omega)) (ev_neg hs (ev_pos rfl (ev_pos rfl (Ev.bind (ev_is hC) (ev_pos rfl awake_bind))))))
end Go.Proofs.Ythaklbjcjoolcaa.Pure
