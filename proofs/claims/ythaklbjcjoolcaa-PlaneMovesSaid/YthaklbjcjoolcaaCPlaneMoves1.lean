/- Proved here: what functions that the law reaches compute, and plain laws of that. No conditions but those that the theorems state. Put together by a program; a part of it was printed by a program of the session's, by way of the kit's printer (wip/printplus.py, wip/mend*.py). -/
import Derived.Test.YthaklbjcjoolcaaB1
import Derived.Test.YthaklbjcjoolcaaB3
import Derived.Test.YthaklbjcjoolcaaB4
import Derived.Test.YthaklbjcjoolcaaB2
import Derived.Outline
import Derived.Deep.DeepMust
import Derived.Laws.EntriesVeiled
import Derived.BigRegion
set_option linter.unusedVariables false
set_option linter.unusedSimpArgs false
namespace Go.Proofs.Ythaklbjcjoolcaa.P
open Go.RowKit Go.Proofs.YthaklbjcjoolcaaW.PrintWords Go.Proofs.YthaklbjcjoolcaaW.PrintLast Go.Proofs.YthaklbjcjoolcaaW.PrintMore
attribute [local go_sem] max2_int min2_int max_two min_two max_three min_three max_four min_four   -- for this text's walks alone

/-! ### plane_Hull: function 32 -/
def plane_Hull.f (l0 : List (S31)) : Option ((List (S31)) × Int) := (plane_isSet.f l0).bind fun t302 => (if t302 = true then ((plane_corners.f l0).bind fun t303 => (some (t303, 0))) else (some (([] : List (S31)), 2)))
set_option maxHeartbeats 8000000 in
set_option maxRecDepth 100000 in
theorem plane_Hull.calls (A0 : Option Addr) (c0 : Nat) (l0 : List (S31)) (r1 : List (S31)) (r2 : Int) (w : World) (hr0 : Kd.C k31 w A0 l0.length l0) (hc0 : l0.length ≤ c0) (h : plane_Hull.f l0 = some (r1, r2)) :
  Calls Try.prog 32 #[.slice A0 l0.length c0] w fun e w' => ∃ v0_ : Value, e = .returned (.tuple #[v0_, .int .i64 r2]) ∧ Kd.R k31 31 w' w.heap.size (fun _ => True) v0_ r1 ∧ Below w.heap.size w w' := by
 have HR0 := Aside0.mk hr0
 have HC0 := Aside0.mk hc0
 clear hr0 hc0
 have HB := Aside0.mk (Below.refl w.heap.size w)
 have H : ((plane_isSet.f l0).bind fun t302 => (if t302 = true then ((plane_corners.f l0).bind fun t303 => (some (t303, 0))) else (some (([] : List (S31)), 2)))) = some (r1, r2) := h
 clear h
 replace H := Option.bind_eq_some_iff.mp H
 obtain ⟨t302, A20, H⟩ := H
 replace H : (if t302 = true then ((plane_corners.f l0).bind fun t303 => (some (t303, 0))) else (some (([] : List (S31)), 2))) = some (r1, r2) := H
 have A2 := Aside0.mk A20
 clear A20
 by_cases c3 : t302 = true
 ·subst c3
  have H1 : ((plane_corners.f l0).bind fun t303 => (some (t303, 0))) = some (r1, r2) := by rw [if_pos rfl] at H; exact H
  clear H
  have H := H1
  clear H1
  replace H := Option.bind_eq_some_iff.mp H
  obtain ⟨t303, A40, H⟩ := H
  replace H : (some (t303, 0)) = some (r1, r2) := H
  have A4 := Aside0.mk A40
  clear A40
  simp only [Option.some.injEq, Prod.mk.injEq] at H
  obtain ⟨rfl, rfl⟩ := H
  go_enter Try.func32, Try.ntmps32
  go_wp2_with (first | ((with_reducible refine gate_callee (f := 55) rfl ?_); refine goesL_ (some 5) rfl rfl Try.func55 (by kernel_rfl) rfl #[.slice A0 l0.length c0] rfl (by (try simp only [List.map_toArray, List.map_cons, List.map_nil]); first | done | rfl | (simp only [List.length_drop, List.length_take]; rfl)) ?_; (with_reducible refine (plane_isSet.calls _ _ l0 true _ ?side1 ?side2 A2.out).mono ?_); (case side1 => repeat (first | exact HR0.out | (with_reducible refine Kd.C_alloc ?_ _) | (with_reducible refine Kd.C_drewN ?_ _) | (with_reducible refine Kd.C_drew ?_))); (case side2 => exact HC0.out); rintro e w5 ⟨rfl, hb⟩; refine ⟨_, rfl, ?_⟩; have n0_ := Aside0.mk (below_step lB hb); clear HB; have HB := n0_; clear n0_; (try clear hb); (try clear hb2); (try clear hk); (try clear hi)) | ((with_reducible refine gate_callee (f := 64) rfl ?_); refine goesL_ (some 8) rfl rfl Try.func64 (by kernel_rfl) rfl #[.slice A0 l0.length c0] rfl (by (try simp only [List.map_toArray, List.map_cons, List.map_nil]); first | done | rfl | (simp only [List.length_drop, List.length_take]; rfl)) ?_; (with_reducible refine (plane_corners.calls _ _ l0 t303 _ ?side1 ?side2 A4.out).mono ?_); (case side1 => repeat (first | exact (Kd.C_below HR0.out HB.out) | (with_reducible refine Kd.C_alloc ?_ _) | (with_reducible refine Kd.C_drewN ?_ _) | (with_reducible refine Kd.C_drew ?_))); (case side2 => exact HC0.out); rintro e w6 ⟨v304, rfl, ho0, hb⟩; refine ⟨_, rfl, ?_⟩; have n0_ := Aside0.mk (Kd.R_lower ho0 (below_size lB)); have n1_ := Aside0.mk (below_step lB hb); clear HB; have HO305 := n0_; have HB := n1_; clear n0_ n1_; (try clear hb); (try clear hb2); (try clear hk); (try clear hi); (try clear ho0)))
  go_ret2
  exact ⟨_, by first | rfl | (simp [errW_none, errW_some] <;> rfl) | (simp [*, errW_none, errW_some] <;> rfl), by (with_reducible repeat (first | apply Kd.R_alloc | apply Kd.R_drewN | apply Kd.R_drew)); exact HO305.out, lB⟩
 replace c3 := Bool.eq_false_iff.mpr c3
 subst c3
 have H1 : (some (([] : List (S31)), 2)) = some (r1, r2) := by rw [if_neg (show ¬ (false = true) by decide)] at H; exact H
 clear H
 have H := H1
 clear H1
 simp only [Option.some.injEq, Prod.mk.injEq] at H
 obtain ⟨rfl, rfl⟩ := H
 go_enter Try.func32, Try.ntmps32
 go_wp2_with (first | ((with_reducible refine gate_callee (f := 55) rfl ?_); refine goesL_ (some 5) rfl rfl Try.func55 (by kernel_rfl) rfl #[.slice A0 l0.length c0] rfl (by (try simp only [List.map_toArray, List.map_cons, List.map_nil]); first | done | rfl | (simp only [List.length_drop, List.length_take]; rfl)) ?_; (with_reducible refine (plane_isSet.calls _ _ l0 false _ ?side1 ?side2 A2.out).mono ?_); (case side1 => repeat (first | exact HR0.out | (with_reducible refine Kd.C_alloc ?_ _) | (with_reducible refine Kd.C_drewN ?_ _) | (with_reducible refine Kd.C_drew ?_))); (case side2 => exact HC0.out); rintro e w7 ⟨rfl, hb⟩; refine ⟨_, rfl, ?_⟩; have n0_ := Aside0.mk (below_step lB hb); clear HB; have HB := n0_; clear n0_; (try clear hb); (try clear hb2); (try clear hk); (try clear hi)))
 go_ret2
 exact ⟨_, by first | rfl | (simp [errW_none, errW_some] <;> rfl) | (simp [*, errW_none, errW_some] <;> rfl), by first | exact Kd.R_nil _ _ _ _ _ | exact Kd.N_nil _ _ _ _ _ | exact Kd.V_nil _ _ _ _ _ | exact Kd.Q_nil _ _ _ _ _ | exact Kd.S_nil _ _ _ _ _, lB⟩


/-! ### silversidelaw01_mod: function 44 -/
def silversidelaw01_mod.f (a0 : Int) (a1 : Int) : Option (Int) := if (IntKind.u64.wrap (a1)) = 0 then (none) else (some (wrap64 (Int.tmod (IntKind.u64.wrap (a0)) (IntKind.u64.wrap (a1)))))
set_option maxHeartbeats 8000000 in
set_option maxRecDepth 100000 in
theorem silversidelaw01_mod.calls (a0 : Int) (a1 : Int) (r : Int) (w : World) (h : silversidelaw01_mod.f a0 a1 = some r) :
  Calls Try.prog 44 #[.int .i64 a0, .int .i64 a1] w fun e w' => e = .returned (.int .i64 r) ∧ Drawn0 w w' := by
 have H : (if (IntKind.u64.wrap (a1)) = 0 then (none) else (some (wrap64 (Int.tmod (IntKind.u64.wrap (a0)) (IntKind.u64.wrap (a1)))))) = some r := h
 clear h
 by_cases c3 : (IntKind.u64.wrap (a1)) = 0
 ·rw [if_pos c3] at H
  exact absurd H (by simp)
 rw [if_neg c3] at H
 have c3b0 : ((IntKind.u64.wrap (a1)) == 0) = false := beq_eq_false_iff_ne.mpr c3
 have c3b1 : ((IntKind.u64.wrap (a1)) != 0) = true := bne_iff_ne.mpr c3
 obtain rfl := Option.some.inj H
 go_enter Try.func44, Try.ntmps44
 go_wp2
 go_ret
 exact ⟨by first | rfl | (simp; done) | (simp [*]; done), by repeat (first | exact Drawn0.refl _ | apply Drawn0.step)⟩


/-! ### silversidelaw01_grid: function 43 -/
def silversidelaw01_grid.f (a0_0 : Int) (a0_1 : Int) : Option (Int × Int) := (silversideref01_Valid.f a0_0 a0_1).bind fun t325 => (if t325 = true then (some (a0_0, a0_1)) else ((silversidelaw01_mod.f a0_0 41).bind fun t326 => ((silversidelaw01_mod.f a0_1 41).bind fun t327 => (some (wrap64 (t326 - 20), wrap64 (t327 - 20))))))
def silversidelaw01_grid.T3 : Bool × List (List Nat × List Nat) := (true, [([], []), ([0], [0]), ([1], [1]), ([2], [2]), ([], []), ([4], [4]), ([5, 2], [5]), ([6], [6]), ([3, 7], [3, 7]), ([8, 6, 0, 1, 2, 3, 4, 5, 6, 7, 8], [8])])
def silversidelaw01_grid.B3 : List Nat := [0, 1, 3, 7, 0, 16, 55, 119, 255, 511]
theorem silversidelaw01_grid.tab3 : rtab .any (opsOf Try.f43 3) = silversidelaw01_grid.T3 := by kernel_rfl
theorem silversidelaw01_grid.bits3 : waitsOk silversidelaw01_grid.T3.2 silversidelaw01_grid.B3 = true := by kernel_rfl
set_option maxHeartbeats 8000000 in
set_option maxRecDepth 100000 in
theorem silversidelaw01_grid.calls (a0_0 : Int) (a0_1 : Int) (r1 : Int) (r2 : Int) (w : World) (h : silversidelaw01_grid.f a0_0 a0_1 = some (r1, r2)) :
  Calls Try.prog 43 #[.agg #[.int .i64 a0_0, .int .i64 a0_1]] w fun e w' => e = .returned (.agg #[.int .i64 r1, .int .i64 r2]) ∧ Below w.heap.size w w' := by
 have hu31 := Try.underlying31
 have HB := Aside0.mk (Below.refl w.heap.size w)
 have H : ((silversideref01_Valid.f a0_0 a0_1).bind fun t325 => (if t325 = true then (some (a0_0, a0_1)) else ((silversidelaw01_mod.f a0_0 41).bind fun t326 => ((silversidelaw01_mod.f a0_1 41).bind fun t327 => (some (wrap64 (t326 - 20), wrap64 (t327 - 20))))))) = some (r1, r2) := h
 clear h
 replace H := Option.bind_eq_some_iff.mp H
 obtain ⟨t325, A20, H⟩ := H
 replace H : (if t325 = true then (some (a0_0, a0_1)) else ((silversidelaw01_mod.f a0_0 41).bind fun t326 => ((silversidelaw01_mod.f a0_1 41).bind fun t327 => (some (wrap64 (t326 - 20), wrap64 (t327 - 20)))))) = some (r1, r2) := H
 have A2 := Aside0.mk A20
 clear A20
 by_cases c3 : t325 = true
 ·subst c3
  have H1 : (some (a0_0, a0_1)) = some (r1, r2) := by rw [if_pos rfl] at H; exact H
  clear H
  have H := H1
  clear H1
  simp only [Option.some.injEq, Prod.mk.injEq] at H
  obtain ⟨rfl, rfl⟩ := H
  go_enter Try.func43, Try.ntmps43
  go_wp2_with (first | ((with_reducible refine gate_dst (N := 1) rfl ?_); refine bxe 1 #[.int .i64 a0_0, .int .i64 a0_1] 31 ?_; intro gb323 hg w4 hbox hb; have n0_ := Aside0.mk (below_step lB hb); have n1_ := Aside0.mk (hbox); have n2_ := Aside0.mk (lG (w := w) hg); have n3_ := Aside0.mk (lG (w := w) hg); clear HB; have HB := n0_; have BK323 := n1_; have GW323 := n2_; have GE323 := n3_; clear n0_ n1_ n2_ n3_; clear hb hbox hg) | ((with_reducible refine gate_dst (N := 2) rfl ?_); refine bxe 2 #[.int .i64 0, .int .i64 0] 31 ?_; intro gb324 hg w5 hbox hb; have n0_ := Aside0.mk (blk_below (g := gb323) (o := .cells #[.int .i64 a0_0, .int .i64 a0_1] 31 (0, 0)) (kX BK323.out) hb); have n1_ := Aside0.mk (below_step lB hb); have n2_ := Aside0.mk (hbox); have n3_ := Aside0.mk (lG (w := w) hg); have n4_ := Aside0.mk (lG (w := w) hg); have n5_ := Aside0.mk ((by rw [hg]; exact Nat.ne_of_lt (blk_lt (g := gb323) (o := .cells #[.int .i64 a0_0, .int .i64 a0_1] 31 (0, 0)) (kX BK323.out)) : gb323 ≠ gb324)); have n6_ := Aside0.mk ((by rw [hg]; exact Nat.ne_of_gt (blk_lt (g := gb323) (o := .cells #[.int .i64 a0_0, .int .i64 a0_1] 31 (0, 0)) (kX BK323.out)) : gb324 ≠ gb323)); clear BK323; clear HB; have BK323 := n0_; have HB := n1_; have BK324 := n2_; have GW324 := n3_; have GE324 := n4_; have NB323_324 := n5_; have NB324_323 := n6_; clear n0_ n1_ n2_ n3_ n4_ n5_ n6_; clear hb hbox hg; have hnb6 := NB323_324.out; have hnc6 := NB324_323.out; have hcz7_0 : w5.cell? ⟨gb323, 0, none⟩ = some (.int .i64 a0_0) := (blk_cell BK323.out 0).trans rfl; have hcz7_1 : w5.cell? ⟨gb323, 1, none⟩ = some (.int .i64 a0_1) := (blk_cell BK323.out 1).trans rfl; have hfz7_0 := blk_frozen BK323.out 0; have hfz7_1 := blk_frozen BK323.out 1) | ((with_reducible refine gate_callee (f := 28) rfl ?_); refine goesL_ (some 4) rfl rfl Try.func28 (by kernel_rfl) rfl #[.agg #[.int .i64 a0_0, .int .i64 a0_1]] rfl (by (try simp only [List.map_toArray, List.map_cons, List.map_nil]); first | done | rfl | (simp only [List.length_drop, List.length_take]; rfl)) ?_; (with_reducible refine (silversideref01_Valid.calls a0_0 a0_1 true _ A2.out).mono ?_); rintro e w8 ⟨rfl, hb⟩; refine ⟨_, rfl, ?_⟩; have n0_ := Aside0.mk (blk_below (g := gb323) (o := .cells #[.int .i64 a0_0, .int .i64 a0_1] 31 (0, 0)) (kX BK323.out) hb); have n1_ := Aside0.mk (blk_below (g := gb324) (o := .cells #[.int .i64 0, .int .i64 0] 31 (0, 0)) (kX BK324.out) hb); have n2_ := Aside0.mk (below_step lB hb); clear BK323; clear BK324; clear HB; have BK323 := n0_; have BK324 := n1_; have HB := n2_; clear n0_ n1_ n2_; (try clear hb); (try clear hb2); (try clear hk); (try clear hi); have hcz9_0 : w8.cell? ⟨gb323, 0, none⟩ = some (.int .i64 a0_0) := (blk_cell BK323.out 0).trans rfl; have hcz9_1 : w8.cell? ⟨gb323, 1, none⟩ = some (.int .i64 a0_1) := (blk_cell BK323.out 1).trans rfl; have hfz9_0 := blk_frozen BK323.out 0; have hfz9_1 := blk_frozen BK323.out 1; have hcz10_0 : w8.cell? ⟨gb324, 0, none⟩ = some (.int .i64 0) := (blk_cell BK324.out 0).trans rfl; have hcz10_1 : w8.cell? ⟨gb324, 1, none⟩ = some (.int .i64 0) := (blk_cell BK324.out 1).trans rfl; have hfz10_0 := blk_frozen BK324.out 0; have hfz10_1 := blk_frozen BK324.out 1))
  refine bodyPost_ret (results_cell_row rfl _ _ gb324 31 #[.int .i64 a0_0, .int .i64 a0_1] (0, 0) _ rfl (by (with_reducible repeat (first | refine kN ?_ _ | refine kD ?_ | refine kA ?_ _)); refine blk_put (cs := #[.int .i64 a0_0, .int .i64 0]) ?_ 1 _ rfl; (with_reducible repeat (first | refine kN ?_ _ | refine kD ?_ | refine kA ?_ _)); refine blk_put (cs := #[.int .i64 0, .int .i64 0]) ?_ 0 _ rfl; (with_reducible repeat (first | refine kN ?_ _ | refine kD ?_ | refine kA ?_ _)); exact BK324.out) Try.underlying31 rfl (by kernel_rfl)) rfl ?_
  exact en
 replace c3 := Bool.eq_false_iff.mpr c3
 subst c3
 have H1 : ((silversidelaw01_mod.f a0_0 41).bind fun t326 => ((silversidelaw01_mod.f a0_1 41).bind fun t327 => (some (wrap64 (t326 - 20), wrap64 (t327 - 20))))) = some (r1, r2) := by rw [if_neg (show ¬ (false = true) by decide)] at H; exact H
 clear H
 have H := H1
 clear H1
 replace H := Option.bind_eq_some_iff.mp H
 obtain ⟨t326, A110, H⟩ := H
 replace H : ((silversidelaw01_mod.f a0_1 41).bind fun t327 => (some (wrap64 (t326 - 20), wrap64 (t327 - 20)))) = some (r1, r2) := H
 have A11 := Aside0.mk A110
 clear A110
 replace H := Option.bind_eq_some_iff.mp H
 obtain ⟨t327, A120, H⟩ := H
 replace H : (some (wrap64 (t326 - 20), wrap64 (t327 - 20))) = some (r1, r2) := H
 have A12 := Aside0.mk A120
 clear A120
 simp only [Option.some.injEq, Prod.mk.injEq] at H
 obtain ⟨rfl, rfl⟩ := H
 go_enter Try.func43, Try.ntmps43
 try go_wp2_with (first | ((with_reducible refine gate_dst (N := 1) rfl ?_); refine bxe 1 #[.int .i64 a0_0, .int .i64 a0_1] 31 ?_; intro gb323 hg w13 hbox hb; have n0_ := Aside0.mk (below_step lB hb); have n1_ := Aside0.mk (hbox); have n2_ := Aside0.mk (lG (w := w) hg); have n3_ := Aside0.mk (lG (w := w) hg); clear HB; have HB := n0_; have BK323 := n1_; have GW323 := n2_; have GE323 := n3_; clear n0_ n1_ n2_ n3_; clear hb hbox hg) | ((with_reducible refine gate_dst (N := 2) rfl ?_); refine bxe 2 #[.int .i64 0, .int .i64 0] 31 ?_; intro gb324 hg w14 hbox hb; have n0_ := Aside0.mk (blk_below (g := gb323) (o := .cells #[.int .i64 a0_0, .int .i64 a0_1] 31 (0, 0)) (kX BK323.out) hb); have n1_ := Aside0.mk (below_step lB hb); have n2_ := Aside0.mk (hbox); have n3_ := Aside0.mk (lG (w := w) hg); have n4_ := Aside0.mk (lG (w := w) hg); have n5_ := Aside0.mk ((by rw [hg]; exact Nat.ne_of_lt (blk_lt (g := gb323) (o := .cells #[.int .i64 a0_0, .int .i64 a0_1] 31 (0, 0)) (kX BK323.out)) : gb323 ≠ gb324)); have n6_ := Aside0.mk ((by rw [hg]; exact Nat.ne_of_gt (blk_lt (g := gb323) (o := .cells #[.int .i64 a0_0, .int .i64 a0_1] 31 (0, 0)) (kX BK323.out)) : gb324 ≠ gb323)); clear BK323; clear HB; have BK323 := n0_; have HB := n1_; have BK324 := n2_; have GW324 := n3_; have GE324 := n4_; have NB323_324 := n5_; have NB324_323 := n6_; clear n0_ n1_ n2_ n3_ n4_ n5_ n6_; clear hb hbox hg; have hnb15 := NB323_324.out; have hnc15 := NB324_323.out; have hcz16_0 : w14.cell? ⟨gb323, 0, none⟩ = some (.int .i64 a0_0) := (blk_cell BK323.out 0).trans rfl; have hcz16_1 : w14.cell? ⟨gb323, 1, none⟩ = some (.int .i64 a0_1) := (blk_cell BK323.out 1).trans rfl; have hfz16_0 := blk_frozen BK323.out 0; have hfz16_1 := blk_frozen BK323.out 1) | ((with_reducible refine gate_callee (f := 28) rfl ?_); refine goesL_ (some 4) rfl rfl Try.func28 (by kernel_rfl) rfl #[.agg #[.int .i64 a0_0, .int .i64 a0_1]] rfl (by (try simp only [List.map_toArray, List.map_cons, List.map_nil]); first | done | rfl | (simp only [List.length_drop, List.length_take]; rfl)) ?_; (with_reducible refine (silversideref01_Valid.calls a0_0 a0_1 false _ A2.out).mono ?_); rintro e w17 ⟨rfl, hb⟩; refine ⟨_, rfl, ?_⟩; have n0_ := Aside0.mk (blk_below (g := gb323) (o := .cells #[.int .i64 a0_0, .int .i64 a0_1] 31 (0, 0)) (kX BK323.out) hb); have n1_ := Aside0.mk (blk_below (g := gb324) (o := .cells #[.int .i64 0, .int .i64 0] 31 (0, 0)) (kX BK324.out) hb); have n2_ := Aside0.mk (below_step lB hb); clear BK323; clear BK324; clear HB; have BK323 := n0_; have BK324 := n1_; have HB := n2_; clear n0_ n1_ n2_; (try clear hb); (try clear hb2); (try clear hk); (try clear hi)))
 replace BK323 := Aside0.mk (kD BK323.out)
 replace BK324 := Aside0.mk (kD BK324.out)
 replace HB := Aside0.mk (lD HB.out)
 refine start_ (n := 10) (S := fun w' => w'.cell? ⟨gb323, 0, none⟩ = some (.int .i64 a0_0) ∧ w'.cell? ⟨gb323, 1, none⟩ = some (.int .i64 a0_1)) (ds := []) (Bs 0 10) (by kernel_rfl) rfl rfl ⟨(blk_cell BK323.out 0).trans rfl, (blk_cell BK323.out 1).trans rfl⟩ (fun hHeld => ?_); refine with_tabW silversidelaw01_grid.tab3 silversidelaw01_grid.bits3 (fun HT_ HW_ => ?_)
 generalize w17.drew = w18 at BK323 BK324 HB hHeld ⊢
 refine pu 0 6 (Bs 1 10) HT_ ?_
 refine pu 4 10 #[τ,φ,φ,φ,τ,φ,φ,φ,φ,φ] HT_ ?_
 refine ta 1 7 #[τ,τ,φ,φ,τ,φ,φ,φ,φ,φ] HT_ HW_ hHeld ?_
 refine ta 5 11 #[τ,τ,φ,φ,τ,τ,φ,φ,φ,φ] HT_ HW_ hHeld ?_
 refine one_ (i := 2) (N := some 8) #[τ,τ,τ,φ,τ,τ,φ,φ,φ,φ] rfl rfl (one_of HT_.out (by kernel_rfl)) (by decide) (fun K hK => ?_)
 refine goes_ Try.func44 (by kernel_rfl) rfl #[.int .i64 a0_0, .int .i64 41] (by rfl) rfl rfl (by (try simp only [List.map_toArray, List.map_cons, List.map_nil]); first | done | rfl | (simp only [List.length_drop, List.length_take]; rfl)) ?_
 with_reducible refine (silversidelaw01_mod.calls a0_0 41 t326 _ A11.out).mono ?_
 rintro e w' ⟨rfl, ⟨nd, rfl⟩⟩
 refine ⟨_, rfl, ?_⟩
 refine hK.out _ _ ⟨(blk_cell BK323.out 0).trans rfl, (blk_cell BK323.out 1).trans rfl⟩ (fun hHeld => ?_)
 clear hK K
 refine nm 8 ?_
 refine pu 3 9 (Bs 6 10) HT_ ?_
 refine one_ (i := 6) (N := some 12) (Bs 7 10) rfl rfl (one_of HT_.out (by kernel_rfl)) (by decide) (fun K hK => ?_)
 refine goes_ Try.func44 (by kernel_rfl) rfl #[.int .i64 a0_1, .int .i64 41] (by rfl) rfl rfl (by (try simp only [List.map_toArray, List.map_cons, List.map_nil]); first | done | rfl | (simp only [List.length_drop, List.length_take]; rfl)) ?_
 with_reducible refine (silversidelaw01_mod.calls a0_1 41 t327 _ A12.out).mono ?_
 rintro e w' ⟨rfl, ⟨nd, rfl⟩⟩
 refine ⟨_, rfl, ?_⟩
 refine hK.out _ _ ⟨(blk_cell BK323.out 0).trans rfl, (blk_cell BK323.out 1).trans rfl⟩ (fun hHeld => ?_)
 clear hK K
 refine nm 12 ?_
 refine pu 7 13 (Bs 8 10) HT_ ?_
 refine pu 8 14 (Bs 9 10) HT_ ?_
 refine one_ (i := 9) (N := none) (Bs 10 10) rfl rfl (one_of HT_.out (by kernel_rfl)) (by decide) (fun K hK => ?_)
 have hs19 : w18.cell? ⟨gb324, 0, none⟩ = some (.int .i64 0) := (blk_cell BK324.out 0).trans rfl
 have hfs19 := blk_frozen BK324.out 0
 have hns19_0 := NB323_324.out
 have hms19_0 := NB324_323.out
 have hs20 : w18.cell? ⟨gb324, 1, none⟩ = some (.int .i64 0) := (blk_cell BK324.out 1).trans rfl
 have hfs20 := blk_frozen BK324.out 1
 have hns20_0 := NB323_324.out
 have hms20_0 := NB324_323.out
 refine skip_ (w1 := ?_) (by rfl) rfl ?_ ?_
 rotate_left
 ·go_simp
  rfl
 refine hK.out _ _ ⟨((cell_far (p := ⟨gb324, _, none⟩) NB323_324.out _).trans (((cell_far (p := ⟨gb324, _, none⟩) NB323_324.out _).trans (hHeld.1)))), ((cell_far (p := ⟨gb324, _, none⟩) NB323_324.out _).trans (((cell_far (p := ⟨gb324, _, none⟩) NB323_324.out _).trans (hHeld.2))))⟩ (fun hHeld => ?_)
 clear hK K
 refine done_ (done_of HT_.out (by kernel_rfl)) ?_
 try go_wp2
 refine bodyPost_ret (results_cell_row rfl _ _ gb324 31 #[.int .i64 (wrap64 (t326 - 20)), .int .i64 (wrap64 (t327 - 20))] (0, 0) _ rfl (by (with_reducible repeat (first | refine kN ?_ _ | refine kD ?_ | refine kA ?_ _)); refine blk_put (cs := #[.int .i64 (wrap64 (t326 - 20)), .int .i64 0]) ?_ 1 _ rfl; (with_reducible repeat (first | refine kN ?_ _ | refine kD ?_ | refine kA ?_ _)); refine blk_put (cs := #[.int .i64 0, .int .i64 0]) ?_ 0 _ rfl; (with_reducible repeat (first | refine kN ?_ _ | refine kD ?_ | refine kA ?_ _)); exact BK324.out) Try.underlying31 rfl (by kernel_rfl)) rfl ?_
 exact en


/-! ### silversidelaw01_set: function 36 -/
def silversidelaw01_set.l0 : Nat → List (S31) → Int → List (S31) → Int → Option ((List (S31)))
 | 0, _, _, _, _ => none
 | k + 1, x0, x1, x5, x6 => if x6 < (x0.length : Int) then (if x6 < x1 then (if 0 ≤ x6 then ((silversidelaw01_grid.f ((rd_T31 x0 x6).f0) ((rd_T31 x0 x6).f1)).bind fun bt329 => (if x5.length < 8796093022208 then (silversidelaw01_set.l0 k x0 x1 (x5 ++ [(⟨bt329.1, bt329.2⟩ : S31)]) (wrap64 (x6 + 1))) else (none))) else (none)) else (if (x5.length : Int) = 0 then (if x5.length < 8796093022208 then (some (x5 ++ [(⟨0, 0⟩ : S31)])) else (none)) else (some x5))) else (if (x5.length : Int) = 0 then (if x5.length < 8796093022208 then (some (x5 ++ [(⟨0, 0⟩ : S31)])) else (none)) else (some x5))
def silversidelaw01_set.f (k : Nat) (l0 : List (S31)) (a1 : Int) : Option ((List (S31))) := silversidelaw01_set.l0 k l0 a1 ([] : List (S31)) 0
theorem silversidelaw01_set.mono_l : ∀ k, (∀ y0 y1 y2 y3, LeO (silversidelaw01_set.l0 k y0 y1 y2 y3) (silversidelaw01_set.l0 (k + 1) y0 y1 y2 y3))
 | 0 => fun _ _ _ _ r h => by simp [silversidelaw01_set.l0] at h
 | k + 1 => by
  have ih0 := silversidelaw01_set.mono_l k
  ·intro y0 y1 y2 y3
   unfold silversidelaw01_set.l0
   repeat' first
   | (with_reducible exact ih0 _ _ _ _)
   | (with_reducible exact LeO.refl _)
   | (with_reducible exact LeO.none _)
   | (with_reducible refine LeO.ite ?_ ?_)
   | (with_reducible refine LeO.bind ?_ (fun _ => ?_))
   | exact ih0 _ _ _ _
   | exact LeO.none _
   | refine LeO.ite ?_ ?_
   | refine LeO.bind ?_ (fun _ => ?_)
theorem silversidelaw01_set.mono : ∀ a0 a1 k, LeO (silversidelaw01_set.f k a0 a1) (silversidelaw01_set.f (k + 1) a0 a1) := by
 intro a0 a1 k
 have ih0 := silversidelaw01_set.mono_l k
 unfold silversidelaw01_set.f
 repeat' first
   | (with_reducible exact ih0 _ _ _ _)
   | (with_reducible exact LeO.refl _)
   | (with_reducible exact LeO.none _)
   | (with_reducible refine LeO.ite ?_ ?_)
   | (with_reducible refine LeO.bind ?_ (fun _ => ?_))
   | exact ih0 _ _ _ _
   | exact LeO.none _
   | refine LeO.ite ?_ ?_
   | refine LeO.bind ?_ (fun _ => ?_)
set_option maxHeartbeats 8000000 in
set_option maxRecDepth 100000 in
theorem silversidelaw01_set.calls (k : Nat) (A0 : Option Addr) (c0 : Nat) (l0 : List (S31)) (a1 : Int) (r : List (S31)) (w : World) (hr0 : Kd.C k31 w A0 l0.length l0) (hc0 : l0.length ≤ c0) (h : silversidelaw01_set.f k l0 a1 = some r) :
  Calls Try.prog 36 #[.slice A0 l0.length c0, .int .i64 a1] w fun e w' => ∃ v0_ : Value, e = .returned (v0_) ∧ Kd.R k31 31 w' w.heap.size (fun _ => True) v0_ r ∧ Below w.heap.size w w' := by
 have hu31 := Try.underlying31
 have HR0 := Aside0.mk hr0
 have HC0 := Aside0.mk hc0
 clear hr0 hc0
 have HB := Aside0.mk (Below.refl w.heap.size w)
 have H : (silversidelaw01_set.l0 k l0 a1 ([] : List (S31)) 0) = some r := h
 clear h
 have H' := Aside0.mk H
 clear H
 go_enter Try.func36, Try.ntmps36
 go_wp2
 go_loopg [5, 6] k (fun kq v5 v6 w' => ∃ (x5_1 : List (S31)) (x6_1 : Int), v6 = .int .i64 x6_1 ∧ Aside0 (silversidelaw01_set.l0 kq l0 a1 x5_1 x6_1 = some r) ∧ Aside0 (kq ≤ k) ∧ Aside0 (Kd.R k31 31 w' w.heap.size (fun _ => True) v5 x5_1) ∧ Aside0 (Below w.heap.size w w'))
 case atStart => exact ⟨(([] : List (S31))), (0), (by first | rfl | (simp; done) | (simp [*]; done)), H', ⟨Nat.le_refl _⟩, ⟨by first | exact Kd.R_nil _ _ _ _ _ | exact Kd.N_nil _ _ _ _ _ | exact Kd.V_nil _ _ _ _ _ | exact Kd.Q_nil _ _ _ _ _ | exact Kd.S_nil _ _ _ _ _⟩, ⟨by repeat (first | (with_reducible first | exact HB.out | apply lA | apply lN | apply lD) | exact HB.out)⟩⟩
 case round =>
  clear H'
  try clear p2
  obtain ⟨x5_1, x6_1, rfl, HA, HK1, HO_5, HB⟩ := hrel
  cases gk with
  | zero => exact absurd HA.out (by simp [silversidelaw01_set.l0])
  | succ k1 =>
   have H := HA.out
   clear HA
   simp only [silversidelaw01_set.l0] at H
   by_cases c3 : x6_1 < (l0.length : Int)
   ·rw [if_pos c3] at H
    have c3b0 : decide (x6_1 < (l0.length : Int)) = true := decide_eq_true c3
    clear c3
    by_cases c4 : x6_1 < a1
    ·rw [if_pos c4] at H
     have c4b0 : decide (x6_1 < a1) = true := decide_eq_true c4
     clear c4
     by_cases c5 : 0 ≤ x6_1
     ·rw [if_pos c5] at H
      have c5b0 : decide (0 ≤ x6_1) = true := decide_eq_true c5
      clear c5
      replace H := Option.bind_eq_some_iff.mp H
      obtain ⟨⟨t329, t330⟩, A60, H⟩ := H
      replace H : (if x5_1.length < 8796093022208 then (silversidelaw01_set.l0 k1 l0 a1 (x5_1 ++ [(⟨t329, t330⟩ : S31)]) (wrap64 (x6_1 + 1))) else (none)) = some r := H
      have A6 := Aside0.mk A60
      clear A60
      by_cases c7 : x5_1.length < 8796093022208
      ·rw [if_pos c7] at H
       have LMc7 := Aside0.mk c7
       clear c7
       obtain ⟨y331, hy331⟩ : ∃ y_ : List (S31), y_ = (x5_1 ++ [(⟨t329, t330⟩ : S31)]) := ⟨_, rfl⟩
       replace H : (silversidelaw01_set.l0 k1 l0 a1 y331 (wrap64 (x6_1 + 1))) = some r := by first | (rw [hy331]; with_reducible exact H) | (have H2_ := (Option.bind_some _ _).symm.trans H; rw [hy331]; with_reducible exact H2_) | (have H2_ := (Option.bind_some _ _).symm.trans H; with_reducible exact H2_) | with_reducible exact H | (rw [hy331]; exact H) | exact H
       have Ny331 := Aside0.mk hy331
       clear hy331
       have H' := Aside0.mk H
       clear H
       have p328 : 0 ≤ (x6_1 : Int) := of_decide_eq_true (by first | (with_reducible assumption) | assumption)
       have q328 : x6_1 < (l0.length : Int) := of_decide_eq_true (by first | (with_reducible assumption) | assumption)
       obtain ⟨ad328, e328, hx328_0, hx328_1⟩ := at_T31 HR0.out x6_1 p328 q328
       cases e328
       replace hx328_0 := cB HB.out hx328_0
       replace hx328_1 := cB HB.out hx328_1
       replace p328 := eq_true p328
       replace q328 := eq_true q328
       go_wp2_with (first | ((with_reducible refine gate_callee (f := 43) rfl ?_); refine goesL_ (some 23) rfl rfl Try.func43 (by kernel_rfl) rfl #[.agg #[.int .i64 ((rd_T31 l0 x6_1).f0), .int .i64 ((rd_T31 l0 x6_1).f1)]] rfl (by (try simp only [List.map_toArray, List.map_cons, List.map_nil]); first | done | rfl | (simp only [List.length_drop, List.length_take]; rfl)) ?_; (with_reducible refine (silversidelaw01_grid.calls ((rd_T31 l0 x6_1).f0) ((rd_T31 l0 x6_1).f1) t329 t330 _ A6.out).mono ?_); rintro e w8 ⟨rfl, hb⟩; refine ⟨_, rfl, ?_⟩; have n0_ := Aside0.mk (Kd.R_below (by (with_reducible repeat (first | apply Kd.R_alloc | apply Kd.R_drewN | apply Kd.R_drew)); exact HO_5.out) hb); have n1_ := Aside0.mk (below_step lB hb); clear HO_5; clear HB; have HO_5 := n0_; have HB := n1_; clear n0_ n1_; (try clear hb); (try clear hb2); (try clear hk); (try clear hi)) | ((with_reducible refine gate_builtin (b := .append) (xs := #[.tmp 18, .tmp 24]) rfl ?_); at_builtin; refine Kd.R_append k31 (w0 := w) w.heap.size rfl (.tmp 18) (.tmp 24) 22 31 (.agg #[(.int .i64 0), (.int .i64 0)]) 16 rfl Try.underlying22 info31 rfl (by decide) (by omega) u5 x5_1 (⟨t329, t330⟩ : S31) [.int .i64 t329, .int .i64 t330] (fun _ => True) (fun _ => False) rfl rfl ?aP (fun _ hk => hk.elim) ?aF ?aO ?aB ?aS ?aL ?_; (case aP => exact k31_mkM _ _ _ (⟨t329, t330⟩ : S31)); (case aB => exact lB); (case aF => exact (fun _ _ => trivial)); (case aO => exact (by (with_reducible repeat (first | apply Kd.R_alloc | apply Kd.R_drewN | apply Kd.R_drew)); exact HO_5.out)); (case aS => exact (below_size lB)); (case aL => have := LMc7.out; omega); intro v332 w9 ho hb hg hat; rw [← Ny331.out] at ho; have n0_ := Aside0.mk (hb); have n1_ := Aside0.mk (ho); clear HB; clear HO_5; have HB := n0_; have HO333 := n1_; clear n0_ n1_; clear ho hb hg hat))
       go_roundg k1
       case measure => have := HK1.out; omega
       case rel => exact ⟨(y331), (wrap64 (x6_1 + 1)), (by first | rfl | (simp; done) | (simp [*]; done)), H', ⟨by have := HK1.out; omega⟩, ⟨by (with_reducible repeat (first | apply Kd.R_alloc | apply Kd.R_drewN | apply Kd.R_drew)); exact HO333.out⟩, ⟨by repeat (first | (with_reducible first | exact HB.out | apply lA | apply lN | apply lD) | exact HB.out)⟩⟩
      ·rw [if_neg c7] at H
       exact absurd H (by simp)
     ·rw [if_neg c5] at H
      exact absurd H (by simp)
    ·rw [if_neg c4] at H
     have c4b0 : decide (x6_1 < a1) = false := decide_eq_false c4
     clear c4
     by_cases c10 : (x5_1.length : Int) = 0
     ·rw [if_pos c10] at H
      have c10b0 : ((x5_1.length : Int) == 0) = true := beq_iff_eq.mpr c10
      have c10b1 : ((x5_1.length : Int) != 0) = false := bne_eq_false_iff_eq.mpr c10
      clear c10
      by_cases c11 : x5_1.length < 8796093022208
      ·rw [if_pos c11] at H
       have LMc11 := Aside0.mk c11
       clear c11
       obtain ⟨y334, hy334⟩ : ∃ y_ : List (S31), y_ = (x5_1 ++ [(⟨0, 0⟩ : S31)]) := ⟨_, rfl⟩
       replace H : (some y334) = some r := by first | (rw [hy334]; with_reducible exact H) | (have H2_ := (Option.bind_some _ _).symm.trans H; rw [hy334]; with_reducible exact H2_) | (have H2_ := (Option.bind_some _ _).symm.trans H; with_reducible exact H2_) | with_reducible exact H | (rw [hy334]; exact H) | exact H
       have Ny334 := Aside0.mk hy334
       clear hy334
       obtain rfl := Option.some.inj H
       obtain ⟨Ao12, co12, eo12⟩ := Kd.R_slice HO_5.out
       subst eo12
       go_wp2_with (first | ((with_reducible refine gate_builtin (b := .append) (xs := #[.tmp 29, .tmp 31]) rfl ?_); at_builtin; refine Kd.R_append k31 (w0 := w) w.heap.size rfl (.tmp 29) (.tmp 31) 22 31 (.agg #[(.int .i64 0), (.int .i64 0)]) 16 rfl Try.underlying22 info31 rfl (by decide) (by omega) (.slice Ao12 x5_1.length co12) x5_1 (⟨0, 0⟩ : S31) [.int .i64 0, .int .i64 0] (fun _ => True) (fun _ => False) rfl rfl ?aP (fun _ hk => hk.elim) ?aF ?aO ?aB ?aS ?aL ?_; (case aP => exact k31_mkM _ _ _ (⟨0, 0⟩ : S31)); (case aB => exact lB); (case aF => exact (fun _ _ => trivial)); (case aO => exact (by (with_reducible repeat (first | apply Kd.R_alloc | apply Kd.R_drewN | apply Kd.R_drew)); exact HO_5.out)); (case aS => exact (below_size lB)); (case aL => have := LMc11.out; omega); intro v335 w13 ho hb hg hat; rw [← Ny334.out] at ho; have n0_ := Aside0.mk (hb); have n1_ := Aside0.mk (ho); clear HB; clear HO_5; have HB := n0_; have HO336 := n1_; clear n0_ n1_; clear ho hb hg hat))
       go_ret
       exact ⟨_, by first | rfl | (simp [errW_none, errW_some] <;> rfl) | (simp [*, errW_none, errW_some] <;> rfl), by (with_reducible repeat (first | apply Kd.R_alloc | apply Kd.R_drewN | apply Kd.R_drew)); exact HO336.out, lB⟩
      ·rw [if_neg c11] at H
       exact absurd H (by simp)
     ·rw [if_neg c10] at H
      have c10b0 : ((x5_1.length : Int) == 0) = false := beq_eq_false_iff_ne.mpr c10
      have c10b1 : ((x5_1.length : Int) != 0) = true := bne_iff_ne.mpr c10
      have c10b2 : ¬ (x5_1 = []) := fun h_ => c10 (by rw [h_]; rfl)
      obtain rfl := Option.some.inj H
      obtain ⟨Ao14, co14, eo14⟩ := Kd.R_slice HO_5.out
      subst eo14
      go_wp2
      go_ret
      exact ⟨_, by first | rfl | (simp [errW_none, errW_some] <;> rfl) | (simp [*, errW_none, errW_some] <;> rfl), by (with_reducible repeat (first | apply Kd.R_alloc | apply Kd.R_drewN | apply Kd.R_drew)); exact HO_5.out, lB⟩
   ·rw [if_neg c3] at H
    have c3b0 : decide (x6_1 < (l0.length : Int)) = false := decide_eq_false c3
    clear c3
    by_cases c15 : (x5_1.length : Int) = 0
    ·rw [if_pos c15] at H
     have c15b0 : ((x5_1.length : Int) == 0) = true := beq_iff_eq.mpr c15
     have c15b1 : ((x5_1.length : Int) != 0) = false := bne_eq_false_iff_eq.mpr c15
     clear c15
     by_cases c16 : x5_1.length < 8796093022208
     ·rw [if_pos c16] at H
      have LMc16 := Aside0.mk c16
      clear c16
      obtain ⟨y337, hy337⟩ : ∃ y_ : List (S31), y_ = (x5_1 ++ [(⟨0, 0⟩ : S31)]) := ⟨_, rfl⟩
      replace H : (some y337) = some r := by first | (rw [hy337]; with_reducible exact H) | (have H2_ := (Option.bind_some _ _).symm.trans H; rw [hy337]; with_reducible exact H2_) | (have H2_ := (Option.bind_some _ _).symm.trans H; with_reducible exact H2_) | with_reducible exact H | (rw [hy337]; exact H) | exact H
      have Ny337 := Aside0.mk hy337
      clear hy337
      obtain rfl := Option.some.inj H
      obtain ⟨Ao17, co17, eo17⟩ := Kd.R_slice HO_5.out
      subst eo17
      go_wp2_with (first | ((with_reducible refine gate_builtin (b := .append) (xs := #[.tmp 29, .tmp 31]) rfl ?_); at_builtin; refine Kd.R_append k31 (w0 := w) w.heap.size rfl (.tmp 29) (.tmp 31) 22 31 (.agg #[(.int .i64 0), (.int .i64 0)]) 16 rfl Try.underlying22 info31 rfl (by decide) (by omega) (.slice Ao17 x5_1.length co17) x5_1 (⟨0, 0⟩ : S31) [.int .i64 0, .int .i64 0] (fun _ => True) (fun _ => False) rfl rfl ?aP (fun _ hk => hk.elim) ?aF ?aO ?aB ?aS ?aL ?_; (case aP => exact k31_mkM _ _ _ (⟨0, 0⟩ : S31)); (case aB => exact lB); (case aF => exact (fun _ _ => trivial)); (case aO => exact (by (with_reducible repeat (first | apply Kd.R_alloc | apply Kd.R_drewN | apply Kd.R_drew)); exact HO_5.out)); (case aS => exact (below_size lB)); (case aL => have := LMc16.out; omega); intro v338 w18 ho hb hg hat; rw [← Ny337.out] at ho; have n0_ := Aside0.mk (hb); have n1_ := Aside0.mk (ho); clear HB; clear HO_5; have HB := n0_; have HO339 := n1_; clear n0_ n1_; clear ho hb hg hat))
      go_ret
      exact ⟨_, by first | rfl | (simp [errW_none, errW_some] <;> rfl) | (simp [*, errW_none, errW_some] <;> rfl), by (with_reducible repeat (first | apply Kd.R_alloc | apply Kd.R_drewN | apply Kd.R_drew)); exact HO339.out, lB⟩
     ·rw [if_neg c16] at H
      exact absurd H (by simp)
    ·rw [if_neg c15] at H
     have c15b0 : ((x5_1.length : Int) == 0) = false := beq_eq_false_iff_ne.mpr c15
     have c15b1 : ((x5_1.length : Int) != 0) = true := bne_iff_ne.mpr c15
     have c15b2 : ¬ (x5_1 = []) := fun h_ => c15 (by rw [h_]; rfl)
     obtain rfl := Option.some.inj H
     obtain ⟨Ao19, co19, eo19⟩ := Kd.R_slice HO_5.out
     subst eo19
     go_wp2
     go_ret
     exact ⟨_, by first | rfl | (simp [errW_none, errW_some] <;> rfl) | (simp [*, errW_none, errW_some] <;> rfl), by (with_reducible repeat (first | apply Kd.R_alloc | apply Kd.R_drewN | apply Kd.R_drew)); exact HO_5.out, lB⟩


/-! ### silversidelaw01_turn: function 38 -/
def silversidelaw01_turn.f (a0_0 : Int) (a0_1 : Int) (a1_0 : Int) (a1_1 : Int) (a2_0 : Int) (a2_1 : Int) : Option (Int) := (plane_Turn.f a0_0 a0_1 a1_0 a1_1 a2_0 a2_1).bind fun bt416 => (if bt416.2 = 0 then (some bt416.1) else (some 9))
set_option maxHeartbeats 8000000 in
set_option maxRecDepth 100000 in
theorem silversidelaw01_turn.calls (a0_0 : Int) (a0_1 : Int) (a1_0 : Int) (a1_1 : Int) (a2_0 : Int) (a2_1 : Int) (r : Int) (w : World) (h : silversidelaw01_turn.f a0_0 a0_1 a1_0 a1_1 a2_0 a2_1 = some r) :
  Calls Try.prog 38 #[.agg #[.int .i64 a0_0, .int .i64 a0_1], .agg #[.int .i64 a1_0, .int .i64 a1_1], .agg #[.int .i64 a2_0, .int .i64 a2_1]] w fun e w' => e = .returned (.int .i64 r) ∧ Below w.heap.size w w' := by
 have hu31 := Try.underlying31
 have HB := Aside0.mk (Below.refl w.heap.size w)
 have H : ((plane_Turn.f a0_0 a0_1 a1_0 a1_1 a2_0 a2_1).bind fun bt416 => (if bt416.2 = 0 then (some bt416.1) else (some 9))) = some r := h
 clear h
 replace H := Option.bind_eq_some_iff.mp H
 obtain ⟨⟨t416, t417⟩, A40, H⟩ := H
 replace H : (if t417 = 0 then (some t416) else (some 9)) = some r := H
 have A4 := Aside0.mk A40
 clear A40
 by_cases c5 : t417 = 0
 ·rw [if_pos c5] at H
  have c5b0 : (t417 == 0) = true := beq_iff_eq.mpr c5
  have c5b1 : (t417 != 0) = false := bne_eq_false_iff_eq.mpr c5
  clear c5
  obtain rfl := Option.some.inj H
  go_enter Try.func38, Try.ntmps38
  go_wp2_with (first | ((with_reducible refine gate_dst (N := 3) rfl ?_); refine bxe 3 #[.int .i64 a0_0, .int .i64 a0_1] 31 ?_; intro gb413 hg w6 hbox hb; have n0_ := Aside0.mk (below_step lB hb); have n1_ := Aside0.mk (hbox); have n2_ := Aside0.mk (lG (w := w) hg); have n3_ := Aside0.mk (lG (w := w) hg); clear HB; have HB := n0_; have BK413 := n1_; have GW413 := n2_; have GE413 := n3_; clear n0_ n1_ n2_ n3_; clear hb hbox hg) | ((with_reducible refine gate_dst (N := 4) rfl ?_); refine bxe 4 #[.int .i64 a1_0, .int .i64 a1_1] 31 ?_; intro gb414 hg w7 hbox hb; have n0_ := Aside0.mk (blk_below (g := gb413) (o := .cells #[.int .i64 a0_0, .int .i64 a0_1] 31 (0, 0)) (kX BK413.out) hb); have n1_ := Aside0.mk (below_step lB hb); have n2_ := Aside0.mk (hbox); have n3_ := Aside0.mk (lG (w := w) hg); have n4_ := Aside0.mk (lG (w := w) hg); have n5_ := Aside0.mk ((by rw [hg]; exact Nat.ne_of_lt (blk_lt (g := gb413) (o := .cells #[.int .i64 a0_0, .int .i64 a0_1] 31 (0, 0)) (kX BK413.out)) : gb413 ≠ gb414)); have n6_ := Aside0.mk ((by rw [hg]; exact Nat.ne_of_gt (blk_lt (g := gb413) (o := .cells #[.int .i64 a0_0, .int .i64 a0_1] 31 (0, 0)) (kX BK413.out)) : gb414 ≠ gb413)); clear BK413; clear HB; have BK413 := n0_; have HB := n1_; have BK414 := n2_; have GW414 := n3_; have GE414 := n4_; have NB413_414 := n5_; have NB414_413 := n6_; clear n0_ n1_ n2_ n3_ n4_ n5_ n6_; clear hb hbox hg) | ((with_reducible refine gate_dst (N := 5) rfl ?_); refine bxe 5 #[.int .i64 a2_0, .int .i64 a2_1] 31 ?_; intro gb415 hg w8 hbox hb; have n0_ := Aside0.mk (blk_below (g := gb413) (o := .cells #[.int .i64 a0_0, .int .i64 a0_1] 31 (0, 0)) (kX BK413.out) hb); have n1_ := Aside0.mk (blk_below (g := gb414) (o := .cells #[.int .i64 a1_0, .int .i64 a1_1] 31 (0, 0)) (kX BK414.out) hb); have n2_ := Aside0.mk (below_step lB hb); have n3_ := Aside0.mk (hbox); have n4_ := Aside0.mk (lG (w := w) hg); have n5_ := Aside0.mk (lG (w := w) hg); have n6_ := Aside0.mk ((by rw [hg]; exact Nat.ne_of_lt (blk_lt (g := gb413) (o := .cells #[.int .i64 a0_0, .int .i64 a0_1] 31 (0, 0)) (kX BK413.out)) : gb413 ≠ gb415)); have n7_ := Aside0.mk ((by rw [hg]; exact Nat.ne_of_gt (blk_lt (g := gb413) (o := .cells #[.int .i64 a0_0, .int .i64 a0_1] 31 (0, 0)) (kX BK413.out)) : gb415 ≠ gb413)); have n8_ := Aside0.mk ((by rw [hg]; exact Nat.ne_of_lt (blk_lt (g := gb414) (o := .cells #[.int .i64 a1_0, .int .i64 a1_1] 31 (0, 0)) (kX BK414.out)) : gb414 ≠ gb415)); have n9_ := Aside0.mk ((by rw [hg]; exact Nat.ne_of_gt (blk_lt (g := gb414) (o := .cells #[.int .i64 a1_0, .int .i64 a1_1] 31 (0, 0)) (kX BK414.out)) : gb415 ≠ gb414)); clear BK413; clear BK414; clear HB; have BK413 := n0_; have BK414 := n1_; have HB := n2_; have BK415 := n3_; have GW415 := n4_; have GE415 := n5_; have NB413_415 := n6_; have NB415_413 := n7_; have NB414_415 := n8_; have NB415_414 := n9_; clear n0_ n1_ n2_ n3_ n4_ n5_ n6_ n7_ n8_ n9_; clear hb hbox hg; have hnb9 := NB413_414.out; have hnc9 := NB414_413.out; have hnb10 := NB413_415.out; have hnc10 := NB415_413.out; have hcz11_0 : w8.cell? ⟨gb413, 0, none⟩ = some (.int .i64 a0_0) := (blk_cell BK413.out 0).trans rfl; have hcz11_1 : w8.cell? ⟨gb413, 1, none⟩ = some (.int .i64 a0_1) := (blk_cell BK413.out 1).trans rfl; have hfz11_0 := blk_frozen BK413.out 0; have hfz11_1 := blk_frozen BK413.out 1; have hnb12 := NB414_415.out; have hnc12 := NB415_414.out; have hcz13_0 : w8.cell? ⟨gb414, 0, none⟩ = some (.int .i64 a1_0) := (blk_cell BK414.out 0).trans rfl; have hcz13_1 : w8.cell? ⟨gb414, 1, none⟩ = some (.int .i64 a1_1) := (blk_cell BK414.out 1).trans rfl; have hfz13_0 := blk_frozen BK414.out 0; have hfz13_1 := blk_frozen BK414.out 1; have hcz14_0 : w8.cell? ⟨gb415, 0, none⟩ = some (.int .i64 a2_0) := (blk_cell BK415.out 0).trans rfl; have hcz14_1 : w8.cell? ⟨gb415, 1, none⟩ = some (.int .i64 a2_1) := (blk_cell BK415.out 1).trans rfl; have hfz14_0 := blk_frozen BK415.out 0; have hfz14_1 := blk_frozen BK415.out 1) | ((with_reducible refine gate_callee (f := 30) rfl ?_); refine goesL_ (some 13) rfl rfl Try.func30 (by kernel_rfl) rfl #[.agg #[.int .i64 a0_0, .int .i64 a0_1], .agg #[.int .i64 a1_0, .int .i64 a1_1], .agg #[.int .i64 a2_0, .int .i64 a2_1]] rfl (by (try simp only [List.map_toArray, List.map_cons, List.map_nil]); first | done | rfl | (simp only [List.length_drop, List.length_take]; rfl)) ?_; (with_reducible refine (plane_Turn.calls a0_0 a0_1 a1_0 a1_1 a2_0 a2_1 t416 t417 _ A4.out).mono ?_); rintro e w15 ⟨rfl, hb⟩; refine ⟨_, rfl, ?_⟩; have n0_ := Aside0.mk (blk_below (g := gb413) (o := .cells #[.int .i64 a0_0, .int .i64 a0_1] 31 (0, 0)) (kX BK413.out) hb); have n1_ := Aside0.mk (blk_below (g := gb414) (o := .cells #[.int .i64 a1_0, .int .i64 a1_1] 31 (0, 0)) (kX BK414.out) hb); have n2_ := Aside0.mk (blk_below (g := gb415) (o := .cells #[.int .i64 a2_0, .int .i64 a2_1] 31 (0, 0)) (kX BK415.out) hb); have n3_ := Aside0.mk (below_step lB hb); clear BK413; clear BK414; clear BK415; clear HB; have BK413 := n0_; have BK414 := n1_; have BK415 := n2_; have HB := n3_; clear n0_ n1_ n2_ n3_; (try clear hb); (try clear hb2); (try clear hk); (try clear hi)))
  go_ret
  exact en
 rw [if_neg c5] at H
 have c5b0 : (t417 == 0) = false := beq_eq_false_iff_ne.mpr c5
 have c5b1 : (t417 != 0) = true := bne_iff_ne.mpr c5
 obtain rfl := Option.some.inj H
 go_enter Try.func38, Try.ntmps38
 go_wp2_with (first | ((with_reducible refine gate_dst (N := 3) rfl ?_); refine bxe 3 #[.int .i64 a0_0, .int .i64 a0_1] 31 ?_; intro gb413 hg w16 hbox hb; have n0_ := Aside0.mk (below_step lB hb); have n1_ := Aside0.mk (hbox); have n2_ := Aside0.mk (lG (w := w) hg); have n3_ := Aside0.mk (lG (w := w) hg); clear HB; have HB := n0_; have BK413 := n1_; have GW413 := n2_; have GE413 := n3_; clear n0_ n1_ n2_ n3_; clear hb hbox hg) | ((with_reducible refine gate_dst (N := 4) rfl ?_); refine bxe 4 #[.int .i64 a1_0, .int .i64 a1_1] 31 ?_; intro gb414 hg w17 hbox hb; have n0_ := Aside0.mk (blk_below (g := gb413) (o := .cells #[.int .i64 a0_0, .int .i64 a0_1] 31 (0, 0)) (kX BK413.out) hb); have n1_ := Aside0.mk (below_step lB hb); have n2_ := Aside0.mk (hbox); have n3_ := Aside0.mk (lG (w := w) hg); have n4_ := Aside0.mk (lG (w := w) hg); have n5_ := Aside0.mk ((by rw [hg]; exact Nat.ne_of_lt (blk_lt (g := gb413) (o := .cells #[.int .i64 a0_0, .int .i64 a0_1] 31 (0, 0)) (kX BK413.out)) : gb413 ≠ gb414)); have n6_ := Aside0.mk ((by rw [hg]; exact Nat.ne_of_gt (blk_lt (g := gb413) (o := .cells #[.int .i64 a0_0, .int .i64 a0_1] 31 (0, 0)) (kX BK413.out)) : gb414 ≠ gb413)); clear BK413; clear HB; have BK413 := n0_; have HB := n1_; have BK414 := n2_; have GW414 := n3_; have GE414 := n4_; have NB413_414 := n5_; have NB414_413 := n6_; clear n0_ n1_ n2_ n3_ n4_ n5_ n6_; clear hb hbox hg) | ((with_reducible refine gate_dst (N := 5) rfl ?_); refine bxe 5 #[.int .i64 a2_0, .int .i64 a2_1] 31 ?_; intro gb415 hg w18 hbox hb; have n0_ := Aside0.mk (blk_below (g := gb413) (o := .cells #[.int .i64 a0_0, .int .i64 a0_1] 31 (0, 0)) (kX BK413.out) hb); have n1_ := Aside0.mk (blk_below (g := gb414) (o := .cells #[.int .i64 a1_0, .int .i64 a1_1] 31 (0, 0)) (kX BK414.out) hb); have n2_ := Aside0.mk (below_step lB hb); have n3_ := Aside0.mk (hbox); have n4_ := Aside0.mk (lG (w := w) hg); have n5_ := Aside0.mk (lG (w := w) hg); have n6_ := Aside0.mk ((by rw [hg]; exact Nat.ne_of_lt (blk_lt (g := gb413) (o := .cells #[.int .i64 a0_0, .int .i64 a0_1] 31 (0, 0)) (kX BK413.out)) : gb413 ≠ gb415)); have n7_ := Aside0.mk ((by rw [hg]; exact Nat.ne_of_gt (blk_lt (g := gb413) (o := .cells #[.int .i64 a0_0, .int .i64 a0_1] 31 (0, 0)) (kX BK413.out)) : gb415 ≠ gb413)); have n8_ := Aside0.mk ((by rw [hg]; exact Nat.ne_of_lt (blk_lt (g := gb414) (o := .cells #[.int .i64 a1_0, .int .i64 a1_1] 31 (0, 0)) (kX BK414.out)) : gb414 ≠ gb415)); have n9_ := Aside0.mk ((by rw [hg]; exact Nat.ne_of_gt (blk_lt (g := gb414) (o := .cells #[.int .i64 a1_0, .int .i64 a1_1] 31 (0, 0)) (kX BK414.out)) : gb415 ≠ gb414)); clear BK413; clear BK414; clear HB; have BK413 := n0_; have BK414 := n1_; have HB := n2_; have BK415 := n3_; have GW415 := n4_; have GE415 := n5_; have NB413_415 := n6_; have NB415_413 := n7_; have NB414_415 := n8_; have NB415_414 := n9_; clear n0_ n1_ n2_ n3_ n4_ n5_ n6_ n7_ n8_ n9_; clear hb hbox hg; have hnb19 := NB413_414.out; have hnc19 := NB414_413.out; have hnb20 := NB413_415.out; have hnc20 := NB415_413.out; have hcz21_0 : w18.cell? ⟨gb413, 0, none⟩ = some (.int .i64 a0_0) := (blk_cell BK413.out 0).trans rfl; have hcz21_1 : w18.cell? ⟨gb413, 1, none⟩ = some (.int .i64 a0_1) := (blk_cell BK413.out 1).trans rfl; have hfz21_0 := blk_frozen BK413.out 0; have hfz21_1 := blk_frozen BK413.out 1; have hnb22 := NB414_415.out; have hnc22 := NB415_414.out; have hcz23_0 : w18.cell? ⟨gb414, 0, none⟩ = some (.int .i64 a1_0) := (blk_cell BK414.out 0).trans rfl; have hcz23_1 : w18.cell? ⟨gb414, 1, none⟩ = some (.int .i64 a1_1) := (blk_cell BK414.out 1).trans rfl; have hfz23_0 := blk_frozen BK414.out 0; have hfz23_1 := blk_frozen BK414.out 1; have hcz24_0 : w18.cell? ⟨gb415, 0, none⟩ = some (.int .i64 a2_0) := (blk_cell BK415.out 0).trans rfl; have hcz24_1 : w18.cell? ⟨gb415, 1, none⟩ = some (.int .i64 a2_1) := (blk_cell BK415.out 1).trans rfl; have hfz24_0 := blk_frozen BK415.out 0; have hfz24_1 := blk_frozen BK415.out 1) | ((with_reducible refine gate_callee (f := 30) rfl ?_); refine goesL_ (some 13) rfl rfl Try.func30 (by kernel_rfl) rfl #[.agg #[.int .i64 a0_0, .int .i64 a0_1], .agg #[.int .i64 a1_0, .int .i64 a1_1], .agg #[.int .i64 a2_0, .int .i64 a2_1]] rfl (by (try simp only [List.map_toArray, List.map_cons, List.map_nil]); first | done | rfl | (simp only [List.length_drop, List.length_take]; rfl)) ?_; (with_reducible refine (plane_Turn.calls a0_0 a0_1 a1_0 a1_1 a2_0 a2_1 t416 t417 _ A4.out).mono ?_); rintro e w25 ⟨rfl, hb⟩; refine ⟨_, rfl, ?_⟩; have n0_ := Aside0.mk (blk_below (g := gb413) (o := .cells #[.int .i64 a0_0, .int .i64 a0_1] 31 (0, 0)) (kX BK413.out) hb); have n1_ := Aside0.mk (blk_below (g := gb414) (o := .cells #[.int .i64 a1_0, .int .i64 a1_1] 31 (0, 0)) (kX BK414.out) hb); have n2_ := Aside0.mk (blk_below (g := gb415) (o := .cells #[.int .i64 a2_0, .int .i64 a2_1] 31 (0, 0)) (kX BK415.out) hb); have n3_ := Aside0.mk (below_step lB hb); clear BK413; clear BK414; clear BK415; clear HB; have BK413 := n0_; have BK414 := n1_; have BK415 := n2_; have HB := n3_; clear n0_ n1_ n2_ n3_; (try clear hb); (try clear hb2); (try clear hk); (try clear hi)))
 go_ret
 exact en

end Go.Proofs.Ythaklbjcjoolcaa.P
namespace Go.Proofs.Ythaklbjcjoolcaa.P
open Go.RowKit Go.Shelf Go.Sort Go.Proofs.YthaklbjcjoolcaaW.PrintWords Go.Proofs.YthaklbjcjoolcaaW.PrintLast Go.Proofs.YthaklbjcjoolcaaW.PrintMore
/-- a point is on a segment -/
def onB (a b p : S31) : Bool := decide (crs a b p = 0) && (decide (mn a.f0 b.f0 ≤ p.f0) && (decide (p.f0 ≤ mx a.f0 b.f0) && (decide (mn a.f1 b.f1 ≤ p.f1) && decide (p.f1 ≤ mx a.f1 b.f1))))
/-- a vector points into the right half plane (or straight up) -/
def rgt (x y : Int) : Prop := 0 < x ∨ x = 0 ∧ 0 < y
/-- the order of two vectors by their directions -/
def cr (ax ay bx b_y : Int) : Int := ax * b_y - ay * bx
theorem cr_key (ax ay bx b_y cx cy : Int) : bx * cr ax ay cx cy = ax * cr bx b_y cx cy + cx * cr ax ay bx b_y := by unfold cr; grind
theorem cr_swap (ax ay bx b_y : Int) : cr bx b_y ax ay = - cr ax ay bx b_y := by unfold cr; grind
theorem nn_of {b t : Int} (hb : 0 < b) (h : 0 ≤ b * t) : 0 ≤ t := by
  rcases Int.lt_or_le t 0 with h1 | h1
  · have := Int.mul_neg_of_pos_of_neg hb h1; omega
  · exact h1
theorem pos_of {b t : Int} (hb : 0 < b) (h : 0 < b * t) : 0 < t := by
  rcases Int.lt_or_le 0 t with h1 | h1
  · exact h1
  · have := Int.mul_le_mul_of_nonneg_left h1 (Int.le_of_lt hb); omega
theorem nn_mul {a b : Int} (ha : 0 ≤ a) (hb : 0 ≤ b) : 0 ≤ a * b := Int.mul_nonneg ha hb
theorem ps_mul {a b : Int} (ha : 0 < a) (hb : 0 < b) : 0 < a * b := Int.mul_pos ha hb
theorem cr_trans {ax ay bx b_y cx cy : Int} (ha : rgt ax ay) (hb : rgt bx b_y) (hc : rgt cx cy) (h1 : 0 ≤ cr ax ay bx b_y) (h2 : 0 ≤ cr bx b_y cx cy) : 0 ≤ cr ax ay cx cy := by
  have hax : 0 ≤ ax := by unfold rgt at ha; omega
  have hcx : 0 ≤ cx := by unfold rgt at hc; omega
  rcases hb with hb | ⟨rfl, hb⟩
  · refine nn_of hb ?_
    rw [cr_key ax ay bx b_y cx cy]
    have := nn_mul hax h2; have := nn_mul hcx h1; omega
  · unfold cr at h1 h2
    have h3 : 0 ≤ ax * b_y := by grind
    have h4 : 0 ≤ -(b_y * cx) := by grind
    have hcx0 : cx = 0 := by
      rcases Int.lt_or_le 0 cx with h | h
      · have := ps_mul hb h; omega
      · omega
    subst hcx0
    have hcy : 0 < cy := by unfold rgt at hc; omega
    unfold cr
    have := nn_mul hax (Int.le_of_lt hcy)
    grind
theorem cr_trans_lt {ax ay bx b_y cx cy : Int} (ha : rgt ax ay) (hb : rgt bx b_y) (hc : rgt cx cy) (h1 : 0 ≤ cr ax ay bx b_y) (h2 : 0 ≤ cr bx b_y cx cy) (h3 : 0 < cr ax ay bx b_y ∨ 0 < cr bx b_y cx cy) : 0 < cr ax ay cx cy := by
  have hax : 0 ≤ ax := by unfold rgt at ha; omega
  have hcx : 0 ≤ cx := by unfold rgt at hc; omega
  rcases hb with hb | ⟨rfl, hb⟩
  · refine pos_of hb ?_
    rw [cr_key ax ay bx b_y cx cy]
    have m1 := nn_mul hax h2; have m2 := nn_mul hcx h1
    rcases h3 with h3 | h3
    · rcases Int.lt_or_le 0 cx with h | h
      · have := ps_mul h h3; omega
      · have hcx0 : cx = 0 := by omega
        subst hcx0
        have hcy : 0 < cy := by unfold rgt at hc; omega
        have h4 : 0 < cr bx b_y 0 cy := by unfold cr; have := ps_mul hb hcy; grind
        rcases Int.lt_or_le 0 ax with h5 | h5
        · have := ps_mul h5 h4; omega
        · have hax0 : ax = 0 := by omega
          subst hax0
          have hay : 0 < ay := by unfold rgt at ha; omega
          unfold cr at h3
          have := ps_mul hay hb
          grind
    · rcases Int.lt_or_le 0 ax with h | h
      · have := ps_mul h h3; omega
      · have hax0 : ax = 0 := by omega
        subst hax0
        have hay : 0 < ay := by unfold rgt at ha; omega
        unfold cr at h1
        have := ps_mul hay hb
        grind
  · unfold cr at h1 h2 h3
    have h4 : 0 ≤ -(b_y * cx) := by grind
    have hcx0 : cx = 0 := by
      rcases Int.lt_or_le 0 cx with h | h
      · have := ps_mul hb h; omega
      · omega
    subst hcx0
    have hcy : 0 < cy := by unfold rgt at hc; omega
    have hax1 : 0 < ax := by
      rcases h3 with h3 | h3
      · rcases Int.lt_or_le 0 ax with h | h
        · exact h
        · have : ax = 0 := by omega
          subst this; grind
      · grind
    unfold cr
    have := ps_mul hax1 hcy
    grind
theorem crs_cr (a b c : S31) : crs a b c = cr (b.f0 - a.f0) (b.f1 - a.f1) (c.f0 - a.f0) (c.f1 - a.f1) := rfl
theorem ltP_rgt {a b : S31} : ltP a b = true ↔ rgt (b.f0 - a.f0) (b.f1 - a.f1) := by unfold ltP rgt; rw [decide_eq_true_eq]; omega
theorem crs_turn (a b c : S31) : crs a b c = cr (b.f0 - a.f0) (b.f1 - a.f1) (c.f0 - b.f0) (c.f1 - b.f1) := by unfold crs cr; grind
theorem crs_rot (a b c : S31) : crs b c a = crs a b c := by unfold crs; grind
theorem crs_swap (a b c : S31) : crs a c b = - crs a b c := by unfold crs; grind
theorem ltP_trans {a b c : S31} (h1 : ltP a b = true) (h2 : ltP b c = true) : ltP a c = true := by unfold ltP at *; rw [decide_eq_true_eq] at *; omega
theorem ltP_irr (a : S31) : ¬ ltP a a = true := by unfold ltP; rw [decide_eq_true_eq]; omega
theorem ltP_tot (a b : S31) : ltP a b = true ∨ a = b ∨ ltP b a = true := by
  unfold ltP; rw [decide_eq_true_eq, decide_eq_true_eq]
  by_cases h : a = b
  · exact Or.inr (Or.inl h)
  · have : a.f0 ≠ b.f0 ∨ a.f1 ≠ b.f1 := by
      by_cases h0 : a.f0 = b.f0
      · exact Or.inr (fun h1 => h (S31.ext' h0 h1))
      · exact Or.inl h0
    omega
/-- three turns: two left turns on the way to the right make the whole way turn left -/
theorem turn_far {a b c q : S31} (h1 : ltP a b = true) (h2 : ltP b c = true) (h3 : ltP c q = true) (ht1 : 0 < crs a b c) (ht2 : 0 < crs b c q) : 0 < crs a b q := by
  have ha := ltP_rgt.1 h1; have hb := ltP_rgt.1 h2; have hc := ltP_rgt.1 h3
  rw [crs_turn] at ht1 ht2
  have := cr_trans_lt ha hb hc (Int.le_of_lt ht1) (Int.le_of_lt ht2) (Or.inl ht1)
  have e : crs a b q = cr (b.f0 - a.f0) (b.f1 - a.f1) (c.f0 - b.f0) (c.f1 - b.f1) + cr (b.f0 - a.f0) (b.f1 - a.f1) (q.f0 - c.f0) (q.f1 - c.f1) := by unfold crs cr; grind
  omega
/-- what lies to the left of an edge lies to the left of the next one if it is further back -/
theorem turn_back_pt {w u p r : S31} (h1 : ltP w u = true) (h2 : ltP u p = true) (h3 : ltP r u = true) (ht1 : 0 ≤ crs w u r) (ht2 : 0 < crs w u p) : 0 < crs u p r := by
  have ha := ltP_rgt.1 h1; have hb := ltP_rgt.1 h2; have hc := ltP_rgt.1 h3
  rw [crs_turn] at ht2
  have e : cr (u.f0 - r.f0) (u.f1 - r.f1) (u.f0 - w.f0) (u.f1 - w.f1) = crs w u r := by unfold crs cr; grind
  have := cr_trans_lt hc ha hb (by rw [e]; exact ht1) (Int.le_of_lt ht2) (Or.inr ht2)
  have e2 : crs u p r = cr (u.f0 - r.f0) (u.f1 - r.f1) (p.f0 - u.f0) (p.f1 - u.f1) := by unfold crs cr; grind
  omega
/-- what lies to the left of a way lies to the left of a way further right -/
theorem turn_on {u v p r : S31} (h1 : ltP u v = true) (h2 : ltP u p = true) (h3 : ltP u r = true) (ht1 : 0 ≤ crs u v r) (ht2 : crs u v p ≤ 0) : 0 ≤ crs u p r := by
  have ha := ltP_rgt.1 h1; have hb := ltP_rgt.1 h2; have hc := ltP_rgt.1 h3
  rw [crs_cr] at *
  exact cr_trans hb ha hc (by rw [cr_swap]; omega) ht1
theorem pt_app_l (A B : List S31) (i : Nat) (h : i < A.length) : pt (A ++ B) i = pt A i := by
  unfold pt; rw [List.getD_eq_getElem?_getD, List.getD_eq_getElem?_getD, List.getElem?_append_left h]
theorem pt_app_r (A B : List S31) (i : Nat) (h : A.length ≤ i) : pt (A ++ B) i = pt B (i - A.length) := by
  unfold pt; rw [List.getD_eq_getElem?_getD, List.getD_eq_getElem?_getD, List.getElem?_append_right h]
theorem pt_take (A : List S31) (n i : Nat) (h : i < n) : pt (A.take n) i = pt A i := by
  unfold pt; rw [List.getD_eq_getElem?_getD, List.getD_eq_getElem?_getD, List.getElem?_take, if_pos h]
theorem pt_mem (A : List S31) (i : Nat) (h : i < A.length) : pt A i ∈ A := by rw [pt_eq A i h]; exact List.getElem_mem _
theorem mem_pt {A : List S31} {p : S31} (h : p ∈ A) : ∃ i, i < A.length ∧ pt A i = p := by
  obtain ⟨i, hi, e⟩ := List.mem_iff_getElem.1 h
  exact ⟨i, hi, by rw [pt_eq A i hi, e]⟩
/-- a point is to the left of a way to the right, or between its ends -/
def Up (a b r : S31) : Prop := 0 ≤ crs a b r ∧ (crs a b r = 0 → ¬ ltP r a = true ∧ ¬ ltP b r = true)
/-- what a chain keeps: it goes to the right, turns left, and leaves no point that was read on its right -/
structure Ch (R out : List S31) : Prop where
  pos : 0 < out.length
  inc : ∀ i, i + 1 < out.length → ltP (pt out i) (pt out (i + 1)) = true
  mem : ∀ i, i < out.length → pt out i ∈ R
  ed : ∀ i, i + 1 < out.length → ∀ r ∈ R, Up (pt out i) (pt out (i + 1)) r
  trn : ∀ i, i + 2 < out.length → 0 < crs (pt out i) (pt out (i + 1)) (pt out (i + 2))
  hd : ∀ r ∈ R, ¬ ltP r (pt out 0) = true
  lst : ∀ r ∈ R, ¬ ltP (pt out (out.length - 1)) r = true
theorem popN_spec (out : List S31) (p : S31) : ∀ m, 1 ≤ m → 1 ≤ popN out p m ∧ (2 ≤ popN out p m → 0 < crs (pt out (popN out p m - 2)) (pt out (popN out p m - 1)) p) ∧ (popN out p m < m → crs (pt out (popN out p m - 1)) (pt out (popN out p m)) p ≤ 0)
  | 0, h => by omega
  | 1, _ => by simp [popN]
  | m + 2, _ => by
    have ih := popN_spec out p (m + 1) (by omega)
    have hle := popN_le out p (m + 1)
    unfold popN
    by_cases h : crs (pt out m) (pt out (m + 1)) p ≤ 0
    · rw [if_pos h]
      refine ⟨ih.1, ih.2.1, fun _ => ?_⟩
      rcases Nat.lt_or_ge (popN out p (m + 1)) (m + 1) with h1 | h1
      · exact ih.2.2 h1
      · have e : popN out p (m + 1) = m + 1 := by omega
        rw [e]; exact h
    · rw [if_neg h]
      refine ⟨by omega, fun _ => ?_, fun h1 => by omega⟩
      show 0 < crs (pt out m) (pt out (m + 1)) p
      omega
theorem crs_same (a b : S31) : crs a b a = 0 := by unfold crs; grind
theorem crs_end (a b : S31) : crs a b b = 0 := by unfold crs; grind
theorem ltP_asym {a b : S31} (h : ltP a b = true) : ¬ ltP b a = true := fun h1 => ltP_irr a (ltP_trans h h1)
theorem Ch.step {R out : List S31} {p : S31} (H : Ch R out) (hp : ∀ r ∈ R, ltP r p = true) : Ch (R ++ [p]) (chStep out p) := by
  obtain ⟨hn1, hn2, hn3⟩ := popN_spec out p out.length H.pos
  have hnl := popN_le out p out.length
  have hlen : (chStep out p).length = popN out p out.length + 1 := by unfold chStep; rw [List.length_append, List.length_take]; simp; omega
  have hold : ∀ i, i < popN out p out.length → pt (chStep out p) i = pt out i := by
    intro i hi
    unfold chStep
    rw [pt_app_l _ _ _ (by rw [List.length_take]; omega), pt_take _ _ _ hi]
  have hnew : pt (chStep out p) (popN out p out.length) = p := by
    unfold chStep
    rw [pt_app_r _ _ _ (by rw [List.length_take]; omega), List.length_take, Nat.min_eq_left hnl, Nat.sub_self]; rfl
  generalize chStep out p = O at *
  generalize popN out p out.length = n at *
  have far : ∀ d i, i + 2 + d = n → 0 < crs (pt out i) (pt out (i + 1)) p := by
    intro d
    induction d with
    | zero => intro i hi; obtain rfl : n = i + 2 := by omega
              exact hn2 (by omega)
    | succ d ih =>
      intro i hi
      exact turn_far (H.inc i (by omega)) (H.inc (i + 1) (by omega)) (hp _ (H.mem (i + 2) (by omega))) (H.trn i (by omega)) (ih (i + 1) (by omega))
  refine ⟨by omega, ?_, ?_, ?_, ?_, ?_, ?_⟩
  · intro i hi
    rw [hold i (by omega)]
    rcases Nat.lt_or_ge (i + 1) n with h | h
    · rw [hold _ h]; exact H.inc i (by omega)
    · obtain rfl : n = i + 1 := by omega
      rw [hnew]; exact hp _ (H.mem i (by omega))
  · intro i hi
    rcases Nat.lt_or_ge i n with h | h
    · rw [hold i h]; exact List.mem_append_left _ (H.mem i (by omega))
    · obtain rfl : n = i := by omega
      rw [hnew]; simp
  · intro i hi r hr
    rw [hold i (by omega)]
    rw [List.mem_append, List.mem_singleton] at hr
    rcases Nat.lt_or_ge (i + 1) n with h | h
    · rw [hold _ h]
      rcases hr with hr | rfl
      · exact H.ed i (by omega) r hr
      · have := far (n - (i + 2)) i (by omega)
        exact ⟨by omega, fun h => by omega⟩
    · obtain rfl : n = i + 1 := by omega
      rw [hnew]
      rcases hr with hr | rfl
      · rcases ltP_tot r (pt out i) with h1 | rfl | h1
        · have hi0 : 0 < i := by
            rcases Nat.eq_zero_or_pos i with rfl | h2
            · exact absurd h1 (H.hd r hr)
            · exact h2
          obtain ⟨j, rfl⟩ : ∃ j, i = j + 1 := ⟨i - 1, by omega⟩
          have h3 := turn_back_pt (H.inc j (by omega)) (hp _ (H.mem (j + 1) (by omega))) h1 (H.ed j (by omega) r hr).1 (far 0 j (by omega))
          exact ⟨by omega, fun h => by omega⟩
        · rw [Up, crs_same]
          exact ⟨Int.le_refl 0, fun _ => ⟨ltP_irr _, ltP_asym (hp _ hr)⟩⟩
        · have hl : i + 1 < out.length := by
            rcases Nat.lt_or_ge (i + 1) out.length with h2 | h2
            · exact h2
            · have e : out.length - 1 = i := by omega
              have := H.lst r hr; rw [e] at this; exact absurd h1 this
          refine ⟨turn_on (H.inc i hl) (hp _ (H.mem i (by omega))) h1 (H.ed i hl r hr).1 (hn3 (by omega)), fun _ => ⟨ltP_asym h1, ltP_asym (hp _ hr)⟩⟩
      · rw [Up, crs_end]
        exact ⟨Int.le_refl 0, fun _ => ⟨ltP_asym (hp _ (H.mem i (by omega))), ltP_irr _⟩⟩
  · intro i hi
    rw [hold i (by omega), hold (i + 1) (by omega)]
    rcases Nat.lt_or_ge (i + 2) n with h | h
    · rw [hold _ h]; exact H.trn i (by omega)
    · obtain rfl : n = i + 2 := by omega
      rw [hnew]; exact far 0 i (by omega)
  · intro r hr
    rw [hold 0 (by omega)]
    rw [List.mem_append, List.mem_singleton] at hr
    rcases hr with hr | rfl
    · exact H.hd r hr
    · exact ltP_asym (hp _ (H.mem 0 (by omega)))
  · intro r hr
    have e : O.length - 1 = n := by omega
    rw [e, hnew]
    rw [List.mem_append, List.mem_singleton] at hr
    rcases hr with hr | rfl
    · exact ltP_asym (hp _ hr)
    · exact ltP_irr _
theorem Ch.one (p : S31) : Ch [p] [p] := by
  refine ⟨by simp, by simp, by simp [pt], by simp, by simp, ?_, ?_⟩
  · intro r hr; rw [List.mem_singleton] at hr; subst hr; exact ltP_irr _
  · intro r hr; rw [List.mem_singleton] at hr; subst hr; exact ltP_irr _
/-- points in order, each once -/
def Asc (l : List S31) : Prop := ∀ i j, i < j → j < l.length → ltP (pt l i) (pt l j) = true
theorem chain_ch (l : List S31) (h : Asc l) (h1 : 0 < l.length) : Ch l (chainL l) := by
  have key : ∀ k, k < l.length → Ch (l.take (k + 1)) (chainL (l.take (k + 1))) := by
    intro k
    induction k with
    | zero =>
      intro hk
      have e : l.take (0 + 1) = [pt l 0] := by rw [take_pt l 0 hk]; rfl
      rw [e]; exact Ch.one _
    | succ k ih =>
      intro hk
      rw [take_pt l (k + 1) hk, chainL_snoc]
      refine (ih (by omega)).step ?_
      intro r hr
      obtain ⟨i, hi, rfl⟩ := mem_pt hr
      rw [List.length_take] at hi
      rw [pt_take _ _ _ (by omega)]
      exact h i (k + 1) (by omega) hk
  have := key (l.length - 1) (by omega)
  rw [show l.length - 1 + 1 = l.length by omega, List.take_length] at this
  exact this
theorem sortP_asc (l : List S31) (i j : Nat) (hij : i < j) (hj : j < (sortP l).length) : ¬ ltP (pt (sortP l) j) (pt (sortP l) i) = true := by
  have hp : (sortP l).Pairwise (fun x y => (!ltP y x) = true) := by
    unfold sortP
    refine List.pairwise_mergeSort ?_ ?_ l
    · intro a b c h1 h2
      simp only [Bool.not_eq_true', ltP, decide_eq_false_iff_not] at *
      omega
    · intro a b
      simp only [Bool.or_eq_true, Bool.not_eq_true', ltP, decide_eq_false_iff_not]
      omega
  have := List.pairwise_iff_getElem.1 hp i j (by omega) hj hij
  rw [pt_eq _ _ hj, pt_eq _ _ (by omega)]
  simpa using this
theorem sortP_mem (l : List S31) (p : S31) : p ∈ sortP l ↔ p ∈ l := (List.mergeSort_perm _ _).mem_iff
theorem asc_snoc {L : List S31} {p : S31} (h : Asc L) (hp : ∀ r ∈ L, ltP r p = true) : Asc (L ++ [p]) := by
  intro i j hij hj
  rw [List.length_append, List.length_singleton] at hj
  rw [pt_app_l L _ i (by omega)]
  rcases Nat.lt_or_ge j L.length with h1 | h1
  · rw [pt_app_l L _ j h1]; exact h i j hij h1
  · obtain rfl : j = L.length := by omega
    rw [pt_app_r L _ _ (Nat.le_refl _), Nat.sub_self]
    exact hp _ (pt_mem L i (by omega))
theorem ddL_facts (xs : List S31) (hs : ∀ i j, i < j → j < xs.length → ¬ ltP (pt xs j) (pt xs i) = true) : ∀ k, 1 ≤ k → k ≤ xs.length →
    Asc (ddL xs k) ∧ 0 < (ddL xs k).length ∧ (∀ r ∈ ddL xs k, r = pt xs (k - 1) ∨ ltP r (pt xs (k - 1)) = true) ∧ (∀ i, i < k → pt xs i ∈ ddL xs k)
  | 0, h, _ => by omega
  | 1, _, _ => by
    refine ⟨fun i j hij hj => ?_, by simp [ddL], by simp [ddL], ?_⟩
    · simp [ddL] at hj; omega
    · intro i hi; obtain rfl : i = 0 := by omega
      simp [ddL]
  | k + 2, _, hk => by
    obtain ⟨a1, a2, a3, a4⟩ := ddL_facts xs hs (k + 1) (by omega) (by omega)
    unfold ddL
    rw [show k + 1 - 1 = k by omega] at a3
    rw [show k + 2 - 1 = k + 1 by omega]
    by_cases he : pt xs (k + 1) = pt xs k
    · rw [if_pos he]
      refine ⟨a1, a2, by rw [he]; exact a3, fun i hi => ?_⟩
      rcases Nat.lt_or_ge i (k + 1) with h | h
      · exact a4 i h
      · obtain rfl : i = k + 1 := by omega
        rw [he]; exact a4 k (by omega)
    · rw [if_neg he]
      have hlt : ltP (pt xs k) (pt xs (k + 1)) = true := by
        rcases ltP_tot (pt xs k) (pt xs (k + 1)) with h | h | h
        · exact h
        · exact absurd h.symm he
        · exact absurd h (hs k (k + 1) (by omega) (by omega))
      have hall : ∀ r ∈ ddL xs (k + 1), ltP r (pt xs (k + 1)) = true := by
        intro r hr
        rcases a3 r hr with rfl | h
        · exact hlt
        · exact ltP_trans h hlt
      refine ⟨asc_snoc a1 hall, by simp, ?_, ?_⟩
      · intro r hr
        rw [List.mem_append, List.mem_singleton] at hr
        rcases hr with hr | rfl
        · exact Or.inr (hall r hr)
        · exact Or.inl rfl
      · intro i hi
        rcases Nat.lt_or_ge i (k + 1) with h | h
        · exact List.mem_append_left _ (a4 i h)
        · obtain rfl : i = k + 1 := by omega
          simp
theorem ddL_mem (xs : List S31) : ∀ k, k ≤ xs.length → ∀ p, p ∈ ddL xs k → p ∈ xs
  | 0, _, p, h => by simp [ddL] at h
  | 1, hk, p, h => by
    simp only [ddL, List.mem_singleton] at h
    rw [h]; exact pt_mem xs 0 (by omega)
  | k + 2, hk, p, h => by
    unfold ddL at h
    split at h
    · exact ddL_mem xs (k + 1) (by omega) p h
    · rw [List.mem_append, List.mem_singleton] at h
      rcases h with h | h
      · exact ddL_mem xs (k + 1) (by omega) p h
      · rw [h]; exact pt_mem xs (k + 1) (by omega)
theorem sortP_length (xs : List S31) : (sortP xs).length = xs.length := List.length_mergeSort ..
theorem sortedS_asc (l : List S31) (h : 0 < l.length) : Asc (sortedS l) ∧ 0 < (sortedS l).length := by
  have := ddL_facts (sortP l) (fun i j h1 h2 => sortP_asc l i j h1 h2) (sortP l).length (by rw [sortP_length]; exact h) (Nat.le_refl _)
  exact ⟨this.1, this.2.1⟩
theorem sortedS_mem (l : List S31) (p : S31) : p ∈ sortedS l ↔ p ∈ l := by
  rw [← sortP_mem l p]
  constructor
  · exact ddL_mem _ _ (Nat.le_refl _) p
  · intro h
    obtain ⟨i, hi, rfl⟩ := mem_pt h
    have := ddL_facts (sortP l) (fun i j h1 h2 => sortP_asc l i j h1 h2) (sortP l).length (by omega) (Nat.le_refl _)
    exact this.2.2.2 i hi
/-- a point turned round the origin -/
def neg (p : S31) : S31 := ⟨-p.f0, -p.f1⟩
theorem neg_neg (p : S31) : neg (neg p) = p := by unfold neg; cases p; simp
theorem crs_neg (a b c : S31) : crs (neg a) (neg b) (neg c) = crs a b c := by unfold crs neg; grind
theorem ltP_neg (a b : S31) : ltP (neg a) (neg b) = ltP b a := by
  rw [Bool.eq_iff_iff]; unfold ltP neg; rw [decide_eq_true_eq, decide_eq_true_eq]
  show (-a.f0 < -b.f0 ∨ -a.f0 = -b.f0 ∧ -a.f1 < -b.f1) ↔ _
  omega
theorem pt_neg (l : List S31) (i : Nat) : pt (l.map neg) i = neg (pt l i) := by
  unfold pt
  rw [List.getD_eq_getElem?_getD, List.getD_eq_getElem?_getD, List.getElem?_map]
  cases l[i]? <;> rfl
theorem popN_neg (out : List S31) (p : S31) : ∀ m, popN (out.map neg) (neg p) m = popN out p m
  | 0 => rfl
  | 1 => rfl
  | m + 2 => by unfold popN; rw [pt_neg, pt_neg, crs_neg, popN_neg out p (m + 1)]
theorem chain_neg (l : List S31) : chainL (l.map neg) = (chainL l).map neg := by
  have key : ∀ (xs out : List S31), (xs.map neg).foldl chStep (out.map neg) = (xs.foldl chStep out).map neg := by
    intro xs
    induction xs with
    | nil => intro out; rfl
    | cons p xs ih =>
      intro out
      rw [List.map_cons, List.foldl_cons, List.foldl_cons, ← ih]
      congr 1
      unfold chStep
      rw [List.length_map, popN_neg, List.map_append, List.map_take]; rfl
  exact key l []
theorem pt_rev (l : List S31) (i : Nat) (h : i < l.length) : pt l.reverse i = pt l (l.length - 1 - i) := by
  rw [pt_eq _ _ (by rw [List.length_reverse]; exact h), pt_eq _ _ (by omega), List.getElem_reverse]
theorem upper_ch (l : List S31) (h : Asc l) (h1 : 0 < l.length) : Ch (l.reverse.map neg) ((chainL l.reverse).map neg) := by
  rw [← chain_neg]
  refine chain_ch _ ?_ (by simpa using h1)
  intro i j hij hj
  rw [List.length_map, List.length_reverse] at hj
  rw [pt_neg, pt_neg, ltP_neg, pt_rev l j hj, pt_rev l i (by omega)]
  exact h _ _ (by omega) (by omega)
theorem onB_iff (a b r : S31) : onB a b r = true ↔ crs a b r = 0 ∧ (mn a.f0 b.f0 ≤ r.f0 ∧ r.f0 ≤ mx a.f0 b.f0) ∧ (mn a.f1 b.f1 ≤ r.f1 ∧ r.f1 ≤ mx a.f1 b.f1) := by
  unfold onB; simp only [Bool.and_eq_true, decide_eq_true_eq, and_assoc]
theorem btw (a b r : Int) : (mn a b ≤ r ∧ r ≤ mx a b) ↔ (a ≤ r ∧ r ≤ b ∨ b ≤ r ∧ r ≤ a) := by unfold mn mx; split <;> omega
theorem onB_iff' (a b r : S31) : onB a b r = true ↔ crs a b r = 0 ∧ (a.f0 ≤ r.f0 ∧ r.f0 ≤ b.f0 ∨ b.f0 ≤ r.f0 ∧ r.f0 ≤ a.f0) ∧ (a.f1 ≤ r.f1 ∧ r.f1 ≤ b.f1 ∨ b.f1 ≤ r.f1 ∧ r.f1 ≤ a.f1) := by rw [onB_iff, btw, btw]
theorem onB_neg (a b r : S31) : onB (neg a) (neg b) (neg r) = onB a b r := by
  rw [Bool.eq_iff_iff, onB_iff', onB_iff', crs_neg]
  unfold neg; simp only
  constructor <;> (intro ⟨h1, h2, h3⟩; exact ⟨h1, by omega, by omega⟩)
theorem onB_swap (a b r : S31) : onB b a r = onB a b r := by
  rw [Bool.eq_iff_iff, onB_iff', onB_iff', show crs b a r = - crs a b r by unfold crs; grind]
  constructor <;> (intro ⟨h1, h2, h3⟩; exact ⟨by omega, by omega, by omega⟩)
/-- a point is to the left of an edge or on it -/
def Lf (a b r : S31) : Prop := 0 < crs a b r ∨ onB a b r = true
theorem Lf.nn {a b r : S31} (h : Lf a b r) : 0 ≤ crs a b r := by
  rcases h with h | h
  · omega
  · have := ((onB_iff a b r).1 h).1; omega
theorem Up.lf {a b r : S31} (h : Up a b r) (hab : ltP a b = true) : Lf a b r := by
  obtain ⟨h1, h2⟩ := h
  rcases Int.lt_or_eq_of_le h1 with h3 | h3
  · exact Or.inl h3
  · right
    obtain ⟨h4, h5⟩ := h2 h3.symm
    rw [onB_iff']
    refine ⟨h3.symm, ?_⟩
    have hc := h3.symm
    unfold crs at hc
    unfold ltP at hab h4 h5
    rw [decide_eq_true_eq] at hab h4 h5
    rcases hab with hab | ⟨ha, hab⟩
    · have hx0 : a.f0 ≤ r.f0 := by omega
      have hx1 : r.f0 ≤ b.f0 := by omega
      refine ⟨Or.inl ⟨hx0, hx1⟩, ?_⟩
      have hd : 0 < b.f0 - a.f0 := by omega
      rcases Int.le_total a.f1 b.f1 with hy | hy
      · left
        have m1 := nn_mul (a := b.f1 - a.f1) (b := r.f0 - a.f0) (by omega) (by omega)
        have m2 := nn_mul (a := b.f1 - a.f1) (b := b.f0 - r.f0) (by omega) (by omega)
        have e1 := nn_of (t := r.f1 - a.f1) hd (by omega)
        have e2 := nn_of (t := b.f1 - r.f1) hd (by grind)
        omega
      · right
        have m1 := nn_mul (a := a.f1 - b.f1) (b := r.f0 - a.f0) (by omega) (by omega)
        have m2 := nn_mul (a := a.f1 - b.f1) (b := b.f0 - r.f0) (by omega) (by omega)
        have e1 := nn_of (t := a.f1 - r.f1) hd (by grind)
        have e2 := nn_of (t := r.f1 - b.f1) hd (by grind)
        omega
    · have hx : r.f0 = a.f0 := by omega
      exact ⟨by omega, by omega⟩
/-- the square of the distance -/
def sqd (a b : S31) : Int := (a.f0 - b.f0) * (a.f0 - b.f0) + (a.f1 - b.f1) * (a.f1 - b.f1)
theorem sq_mono {s t : Int} (h : 0 ≤ s ∧ s ≤ t ∨ t ≤ s ∧ s ≤ 0) : s * s ≤ t * t := by
  rcases h with h | h
  · have := nn_mul (a := t - s) (b := t + s) (by omega) (by omega); grind
  · have := nn_mul (a := s - t) (b := -(t + s)) (by omega) (by omega); grind
theorem sq_mono_lt {s t : Int} (h : 0 ≤ s ∧ s < t ∨ t < s ∧ s ≤ 0) : s * s < t * t := by
  rcases h with h | h
  · have := ps_mul (a := t - s) (b := t + s) (by omega) (by omega); grind
  · have := ps_mul (a := s - t) (b := -(t + s)) (by omega) (by omega); grind
theorem on_sq {a b r : S31} (h : onB a b r = true) (hr : r ≠ b) : sqd a r < sqd a b := by
  obtain ⟨_, h1, h2⟩ := (onB_iff' a b r).1 h
  unfold sqd
  have hne : r.f0 ≠ b.f0 ∨ r.f1 ≠ b.f1 := by
    by_cases h0 : r.f0 = b.f0
    · exact Or.inr (fun h1 => hr (S31.ext' h0 h1))
    · exact Or.inl h0
  have m1 : (a.f0 - r.f0) * (a.f0 - r.f0) ≤ (a.f0 - b.f0) * (a.f0 - b.f0) := sq_mono (by omega)
  have m2 : (a.f1 - r.f1) * (a.f1 - r.f1) ≤ (a.f1 - b.f1) * (a.f1 - b.f1) := sq_mono (by omega)
  rcases hne with h3 | h3
  · have m3 : (a.f0 - r.f0) * (a.f0 - r.f0) < (a.f0 - b.f0) * (a.f0 - b.f0) := sq_mono_lt (by omega)
    omega
  · have m3 : (a.f1 - r.f1) * (a.f1 - r.f1) < (a.f1 - b.f1) * (a.f1 - b.f1) := sq_mono_lt (by omega)
    omega
/-- one step of a look for the next corner -/
def scStep (at_ tq p : S31) : S31 := if p = at_ then tq else if tq = at_ ∨ crs at_ tq p < 0 ∨ (crs at_ tq p = 0 ∧ sqd at_ tq < sqd at_ p) then p else tq
theorem scan_is (at_ b : S31) (hb : b ≠ at_) : ∀ (l : List S31) (tq : S31), (∀ p ∈ l, Lf at_ b p) → (tq = at_ ∨ Lf at_ b tq) → (b ∈ l ∨ tq = b) → l.foldl (scStep at_) tq = b := by
  intro l
  induction l with
  | nil => intro tq _ _ h; rcases h with h | h
           · simp at h
           · exact h
  | cons p l ih =>
    intro tq hl ht hb'
    rw [List.foldl_cons]
    have hp := hl p (by simp)
    by_cases hto : tq = b
    · refine ih _ (fun q hq => hl q (by simp [hq])) ?_ (Or.inr ?_)
      · unfold scStep; split
        · exact ht
        · split
          · exact Or.inr hp
          · exact ht
      · subst hto
        unfold scStep
        split
        · rfl
        · rename_i hpa
          rw [if_neg]
          rintro (h | h | ⟨h1, h2⟩)
          · exact hb h
          · have := hp.nn; omega
          · rcases hp with h | h
            · omega
            · by_cases he : p = tq
              · rw [he] at h2; omega
              · have := on_sq h he; omega
    · by_cases hpb : p = b
      · subst hpb
        refine ih _ (fun q hq => hl q (by simp [hq])) ?_ (Or.inr ?_)
        · unfold scStep; split
          · exact ht
          · split
            · exact Or.inr hp
            · exact ht
        · unfold scStep
          rw [if_neg hb]
          by_cases hta : tq = at_
          · rw [if_pos (Or.inl hta)]
          · rw [if_pos]
            rcases ht with h | h
            · exact absurd h hta
            · have e := crs_swap at_ p tq
              rcases h with h | h
              · right; left; omega
              · right; right
                have h0 := ((onB_iff at_ p tq).1 h).1
                exact ⟨by omega, on_sq h hto⟩
      · have hbl : b ∈ l := by
          rcases hb' with h | h
          · rw [List.mem_cons] at h
            rcases h with h | h
            · exact absurd h.symm hpb
            · exact h
          · exact absurd h hto
        refine ih _ (fun q hq => hl q (by simp [hq])) ?_ (Or.inl hbl)
        unfold scStep; split
        · exact ht
        · split
          · exact Or.inr hp
          · exact ht
/-- the place behind a place of a ring -/
def nxt (i n : Nat) : Nat := if i + 1 < n then i + 1 else 0
/-- the corners of a hull -/
structure IsHull (l H : List S31) : Prop where
  pos : 0 < H.length
  mem : ∀ i, i < H.length → pt H i ∈ l
  least : ∀ r ∈ l, ¬ ltP r (pt H 0) = true
  one : H.length = 1 → ∀ r ∈ l, r = pt H 0
  ed : ∀ i, i < H.length → ∀ r ∈ l, Lf (pt H i) (pt H (nxt i H.length)) r
  ne : ∀ i, 0 < i → i < H.length → pt H i ≠ pt H 0
  ner : ∀ i, i + 1 < H.length → pt H i ≠ pt H (i + 1)
theorem onB_self (a : S31) : onB a a a = true := by rw [onB_iff']; refine ⟨crs_same a a, by omega, by omega⟩
theorem Ch.mono {R out : List S31} (H : Ch R out) : ∀ j i, i < j → j < out.length → ltP (pt out i) (pt out j) = true
  | 0, i, h, _ => by omega
  | j + 1, i, h, hj => by
    rcases Nat.lt_or_ge i j with h1 | h1
    · exact ltP_trans (Ch.mono H j i h1 (by omega)) (H.inc j hj)
    · obtain rfl : i = j := by omega
      exact H.inc i hj
theorem pt_dropLast (l : List S31) (i : Nat) (h : i + 1 < l.length) : pt l.dropLast i = pt l i := by
  rw [pt_eq _ _ (by rw [List.length_dropLast]; omega), pt_eq _ _ (by omega), List.getElem_dropLast]
theorem neg_inj {a b : S31} (h : neg a = neg b) : a = b := by rw [← neg_neg a, h, neg_neg]
theorem corners_hull (l : List S31) (h : 0 < l.length) : IsHull l (cornersS l) := by
  obtain ⟨has, hpos⟩ := sortedS_asc l h
  have hm := sortedS_mem l
  unfold cornersS
  generalize sortedS l = S at *
  by_cases h3 : S.length < 3
  · rw [if_pos h3]
    by_cases h2 : S.length = 1
    · have hone : ∀ r ∈ l, r = pt S 0 := by
        intro r hr
        obtain ⟨i, hi, rfl⟩ := mem_pt ((hm r).2 hr)
        obtain rfl : i = 0 := by omega
        rfl
      refine ⟨hpos, fun i hi => (hm _).1 (pt_mem S i hi), ?_, fun _ => hone, ?_, by omega, by omega⟩
      · intro r hr; rw [hone r hr]; exact ltP_irr _
      · intro i hi r hr
        obtain rfl : i = 0 := by omega
        have : nxt 0 S.length = 0 := by unfold nxt; rw [if_neg (by omega)]
        rw [this, hone r hr]; exact Or.inr (onB_self _)
    · have h2' : S.length = 2 := by omega
      have hlt := has 0 1 (by omega) (by omega)
      have htwo : ∀ r ∈ l, r = pt S 0 ∨ r = pt S 1 := by
        intro r hr
        obtain ⟨i, hi, rfl⟩ := mem_pt ((hm r).2 hr)
        have : i = 0 ∨ i = 1 := by omega
        rcases this with rfl | rfl
        · exact Or.inl rfl
        · exact Or.inr rfl
      refine ⟨hpos, fun i hi => (hm _).1 (pt_mem S i hi), ?_, by omega, ?_, ?_, ?_⟩
      · intro r hr
        rcases htwo r hr with rfl | rfl
        · exact ltP_irr _
        · exact ltP_asym hlt
      · have ends : ∀ a b : S31, Lf a b a ∧ Lf a b b := by
          intro a b
          exact ⟨Or.inr ((onB_iff' a b a).2 ⟨crs_same a b, by omega, by omega⟩), Or.inr ((onB_iff' a b b).2 ⟨crs_end a b, by omega, by omega⟩)⟩
        intro i hi r hr
        have : i = 0 ∨ i = 1 := by omega
        rcases this with rfl | rfl
        · rw [show nxt 0 S.length = 1 by unfold nxt; rw [if_pos (by omega)]]
          rcases htwo r hr with rfl | rfl
          · exact (ends _ _).1
          · exact (ends _ _).2
        · rw [show nxt 1 S.length = 0 by unfold nxt; rw [if_neg (by omega)]]
          rcases htwo r hr with rfl | rfl
          · exact (ends _ _).2
          · exact (ends _ _).1
      · intro i h0 hi e
        obtain rfl : i = 1 := by omega
        rw [e] at hlt; exact ltP_irr _ hlt
      · intro i hi e
        obtain rfl : i = 0 := by omega
        rw [e] at hlt; exact ltP_irr _ hlt
  · rw [if_neg h3]
    have hl := chain_ch S has hpos
    have hu := upper_ch S has hpos
    have hl0 := hl.lst
    generalize chainL S = A at *
    generalize chainL S.reverse = B at *
    have hBl : (B.map neg).length = B.length := List.length_map ..
    have hmR : ∀ r, r ∈ S → neg r ∈ S.reverse.map neg := fun r hr => List.mem_map.2 ⟨r, List.mem_reverse.2 hr, rfl⟩
    have hmR' : ∀ r, neg r ∈ S.reverse.map neg → r ∈ S := by
      intro r hr
      obtain ⟨q, hq, e⟩ := List.mem_map.1 hr
      rw [← neg_inj e]; exact List.mem_reverse.1 hq
    -- the ends
    have e0 : pt A 0 = pt S 0 := by
      rcases ltP_tot (pt A 0) (pt S 0) with h1 | h1 | h1
      · obtain ⟨i, hi, e⟩ := mem_pt (hl.mem 0 hl.pos)
        rw [← e] at h1
        rcases Nat.eq_zero_or_pos i with rfl | h2
        · exact absurd h1 (ltP_irr _)
        · exact absurd h1 (ltP_asym (has 0 i h2 hi))
      · exact h1
      · exact absurd h1 (hl.hd _ (pt_mem S 0 hpos))
    have e1 : pt A (A.length - 1) = pt S (S.length - 1) := by
      rcases ltP_tot (pt A (A.length - 1)) (pt S (S.length - 1)) with h1 | h1 | h1
      · exact absurd h1 (hl.lst _ (pt_mem S _ (by omega)))
      · exact h1
      · obtain ⟨i, hi, e⟩ := mem_pt (hl.mem (A.length - 1) (by have := hl.pos; omega))
        rw [← e] at h1
        rcases Nat.lt_or_ge i (S.length - 1) with h2 | h2
        · exact absurd h1 (ltP_asym (has i _ h2 (by omega)))
        · rw [show i = S.length - 1 by omega] at h1; exact absurd h1 (ltP_irr _)
    have hBp : 0 < B.length := by have := hu.pos; rwa [hBl] at this
    have ninc : ∀ i, i + 1 < B.length → ltP (pt B (i + 1)) (pt B i) = true := by
      intro i hi; have := hu.inc i (by rw [hBl]; exact hi); rwa [pt_neg, pt_neg, ltP_neg] at this
    have nmono : ∀ i j, i < j → j < B.length → ltP (pt B j) (pt B i) = true := by
      intro i j hij hj; have := hu.mono j i hij (by rw [hBl]; exact hj); rwa [pt_neg, pt_neg, ltP_neg] at this
    have nmem : ∀ i, i < B.length → pt B i ∈ S := by
      intro i hi; have := hu.mem i (by rw [hBl]; exact hi); rw [pt_neg] at this; exact hmR' _ this
    have e2 : pt B 0 = pt S (S.length - 1) := by
      rcases ltP_tot (pt B 0) (pt S (S.length - 1)) with h1 | h1 | h1
      · have := hu.hd _ (hmR _ (pt_mem S (S.length - 1) (by omega)))
        rw [pt_neg, ltP_neg] at this; exact absurd h1 this
      · exact h1
      · obtain ⟨i, hi, e⟩ := mem_pt (nmem 0 hBp)
        rw [← e] at h1
        rcases Nat.lt_or_ge i (S.length - 1) with h2 | h2
        · exact absurd h1 (ltP_asym (has i _ h2 (by omega)))
        · rw [show i = S.length - 1 by omega] at h1; exact absurd h1 (ltP_irr _)
    have e3 : pt B (B.length - 1) = pt S 0 := by
      rcases ltP_tot (pt B (B.length - 1)) (pt S 0) with h1 | h1 | h1
      · obtain ⟨i, hi, e⟩ := mem_pt (nmem (B.length - 1) (by omega))
        rw [← e] at h1
        rcases Nat.eq_zero_or_pos i with rfl | h2
        · exact absurd h1 (ltP_irr _)
        · exact absurd h1 (ltP_asym (has 0 i h2 hi))
      · exact h1
      · have := hu.lst _ (hmR _ (pt_mem S 0 hpos))
        rw [pt_neg, ltP_neg, hBl] at this; exact absurd h1 this
    have hS := has 0 (S.length - 1) (by omega) (by omega)
    have hA2 : 2 ≤ A.length := by
      rcases Nat.lt_or_ge A.length 2 with h1 | h1
      · have h2 := hl.pos
        rw [show A.length - 1 = 0 by omega, e0] at e1
        rw [← e1] at hS; exact absurd hS (ltP_irr _)
      · exact h1
    have hB2 : 2 ≤ B.length := by
      rcases Nat.lt_or_ge B.length 2 with h1 | h1
      · rw [show B.length - 1 = 0 by omega, e2] at e3
        rw [e3] at hS; exact absurd hS (ltP_irr _)
      · exact h1
    have hlen : (A.dropLast ++ B.dropLast).length = A.length - 1 + (B.length - 1) := by rw [List.length_append, List.length_dropLast, List.length_dropLast]
    have hA : ∀ i, i < A.length - 1 → pt (A.dropLast ++ B.dropLast) i = pt A i := by
      intro i hi
      rw [pt_app_l _ _ _ (by rw [List.length_dropLast]; exact hi), pt_dropLast _ _ (by omega)]
    have hB : ∀ i, i < B.length - 1 → pt (A.dropLast ++ B.dropLast) (A.length - 1 + i) = pt B i := by
      intro i hi
      rw [pt_app_r _ _ _ (by rw [List.length_dropLast]; omega), List.length_dropLast, Nat.add_sub_cancel_left, pt_dropLast _ _ (by omega)]
    have hA' : pt (A.dropLast ++ B.dropLast) (A.length - 1) = pt A (A.length - 1) := by
      have := hB 0 (by omega); rw [Nat.add_zero] at this; rw [this, e2, e1]
    have h0 : pt (A.dropLast ++ B.dropLast) 0 = pt S 0 := by rw [hA 0 (by omega), e0]
    generalize A.dropLast ++ B.dropLast = H at *
    have part : ∀ i, i < H.length → i < A.length - 1 ∨ ∃ j, i = A.length - 1 + j ∧ j < B.length - 1 := by
      intro i hi
      rcases Nat.lt_or_ge i (A.length - 1) with h1 | h1
      · exact Or.inl h1
      · exact Or.inr ⟨i - (A.length - 1), by omega, by omega⟩
    have edA : ∀ i, i + 1 < A.length → ∀ r ∈ l, Lf (pt A i) (pt A (i + 1)) r := fun i hi r hr => (hl.ed i hi r ((hm r).2 hr)).lf (hl.inc i hi)
    have edB : ∀ i, i + 1 < B.length → ∀ r ∈ l, Lf (pt B i) (pt B (i + 1)) r := by
      intro i hi r hr
      have h4 := (hu.ed i (by rw [hBl]; exact hi) _ (hmR r ((hm r).2 hr))).lf (hu.inc i (by rw [hBl]; exact hi))
      rw [pt_neg, pt_neg] at h4
      unfold Lf at h4
      rw [crs_neg, onB_neg] at h4
      exact h4
    refine ⟨by omega, ?_, ?_, by omega, ?_, ?_, ?_⟩
    · intro i hi
      rcases part i hi with h1 | ⟨j, rfl, h1⟩
      · rw [hA i h1]; exact (hm _).1 (hl.mem i (by omega))
      · rw [hB j h1]; exact (hm _).1 (nmem j (by omega))
    · intro r hr
      rw [h0, ← e0]; exact hl.hd r ((hm r).2 hr)
    · intro i hi r hr
      rcases part i hi with h1 | ⟨j, rfl, h1⟩
      · rw [show nxt i H.length = i + 1 by unfold nxt; rw [if_pos (by omega)], hA i h1]
        have e : pt H (i + 1) = pt A (i + 1) := by
          rcases Nat.lt_or_ge (i + 1) (A.length - 1) with h2 | h2
          · exact hA _ h2
          · rw [show i + 1 = A.length - 1 by omega]; exact hA'
        rw [e]; exact edA i (by omega) r hr
      · rw [hB j h1]
        rcases Nat.lt_or_ge (j + 1) (B.length - 1) with h2 | h2
        · rw [show nxt (A.length - 1 + j) H.length = A.length - 1 + (j + 1) by unfold nxt; rw [if_pos (by omega)]; omega, hB _ h2]
          exact edB j (by omega) r hr
        · rw [show nxt (A.length - 1 + j) H.length = 0 by unfold nxt; rw [if_neg (by omega)], h0, ← e3, show B.length - 1 = j + 1 by omega]
          exact edB j (by omega) r hr
    · intro i h4 hi
      rw [h0]
      intro e
      rcases part i hi with h1 | ⟨j, rfl, h1⟩
      · rw [hA i h1] at e
        have := hl.mono i 0 h4 (by omega)
        rw [e, e0] at this; exact ltP_irr _ this
      · rw [hB j h1] at e
        have := nmono j (B.length - 1) h1 (by omega)
        rw [e, e3] at this; exact ltP_irr _ this
    · intro i hi e
      rcases part i (by omega) with h1 | ⟨j, rfl, h1⟩
      · rw [hA i h1] at e
        have e' : pt H (i + 1) = pt A (i + 1) := by
          rcases Nat.lt_or_ge (i + 1) (A.length - 1) with h2 | h2
          · exact hA _ h2
          · rw [show i + 1 = A.length - 1 by omega]; exact hA'
        rw [e'] at e
        have := hl.inc i (by omega)
        rw [e] at this; exact ltP_irr _ this
      · rw [hB j h1, Nat.add_assoc, hB (j + 1) (by omega)] at e
        have := ninc j (by omega)
        rw [e] at this; exact ltP_irr _ this
/-- the walk round a hull from corner to corner -/
def giftGo (l : List S31) (first : S31) : Nat → S31 → List S31 → Option (List S31)
  | 0, _, _ => none
  | k + 1, at_, out => if l.foldl (scStep at_) at_ = at_ ∨ l.foldl (scStep at_) at_ = first then some out else giftGo l first k (l.foldl (scStep at_) at_) (out ++ [l.foldl (scStep at_) at_])
theorem hull_next {l H : List S31} (h : IsHull l H) (i : Nat) (hi : i < H.length) : l.foldl (scStep (pt H i)) (pt H i) = pt H (nxt i H.length) := by
  by_cases h1 : H.length = 1
  · obtain rfl : i = 0 := by omega
    rw [show nxt 0 H.length = 0 by unfold nxt; rw [if_neg (by omega)]]
    have hall := h.one h1
    generalize pt H 0 = a at *
    clear h h1 hi
    induction l with
    | nil => rfl
    | cons p l ih =>
      rw [List.foldl_cons, show scStep a a p = a by unfold scStep; rw [if_pos (hall p (by simp))]]
      exact ih (fun r hr => hall r (by simp [hr]))
  · have hb : pt H (nxt i H.length) ≠ pt H i := by
      unfold nxt
      split
      · rename_i h2; exact fun e => h.ner i h2 e.symm
      · rename_i h2; exact fun e => h.ne i (by omega) hi e.symm
    have hm : pt H (nxt i H.length) ∈ l := by
      refine h.mem _ ?_
      unfold nxt; split <;> omega
    exact scan_is _ _ hb l _ (h.ed i hi) (Or.inl rfl) (Or.inl hm)
theorem gift_is {l H : List S31} (h : IsHull l H) : ∀ d i k, i < H.length → i + 1 + d = H.length → d < k → giftGo l (pt H 0) k (pt H i) (H.take (i + 1)) = some H := by
  intro d
  induction d with
  | zero =>
    intro i k hi hd hk
    obtain ⟨k, rfl⟩ : ∃ k', k = k' + 1 := ⟨k - 1, by omega⟩
    unfold giftGo
    rw [hull_next h i hi, show nxt i H.length = 0 by unfold nxt; rw [if_neg (by omega)], if_pos (Or.inr rfl), show i + 1 = H.length by omega, List.take_length]
  | succ d ih =>
    intro i k hi hd hk
    obtain ⟨k, rfl⟩ : ∃ k', k = k' + 1 := ⟨k - 1, by omega⟩
    unfold giftGo
    rw [hull_next h i hi, show nxt i H.length = i + 1 by unfold nxt; rw [if_pos (by omega)], if_neg, ← take_pt H (i + 1) (by omega)]
    · exact ih (i + 1) k (by omega) (by omega) (by omega)
    · rintro (e | e)
      · exact h.ner i (by omega) e.symm
      · exact h.ne (i + 1) (by omega) (by omega) e
theorem hull_unique {l A B : List S31} (ha : IsHull l A) (hb : IsHull l B) : A = B := by
  have e : pt A 0 = pt B 0 := by
    rcases ltP_tot (pt A 0) (pt B 0) with h | h | h
    · exact absurd h (hb.least _ (ha.mem 0 ha.pos))
    · exact h
    · exact absurd h (ha.least _ (hb.mem 0 hb.pos))
  have g1 := gift_is ha (A.length - 1) 0 (A.length + B.length) ha.pos (by have := ha.pos; omega) (by have := ha.pos; omega)
  have g2 := gift_is hb (B.length - 1) 0 (A.length + B.length) hb.pos (by have := hb.pos; omega) (by have := hb.pos; omega)
  rw [take_pt A 0 ha.pos, e] at g1
  rw [take_pt B 0 hb.pos] at g2
  have : some A = some B := by rw [← g1, ← g2]; rfl
  exact Option.some.inj this
theorem hull_same {l m H : List S31} (h : IsHull l H) (hlm : ∀ p, p ∈ m ↔ p ∈ l) : IsHull m H :=
  ⟨h.pos, fun i hi => (hlm _).2 (h.mem i hi), fun r hr => h.least r ((hlm r).1 hr), fun h1 r hr => h.one h1 r ((hlm r).1 hr), fun i hi r hr => h.ed i hi r ((hlm r).1 hr), h.ne, h.ner⟩
theorem hull_self {l H : List S31} (h : IsHull l H) : IsHull H H := by
  have hs : ∀ r ∈ H, r ∈ l := fun r hr => by obtain ⟨i, hi, rfl⟩ := mem_pt hr; exact h.mem i hi
  exact ⟨h.pos, fun i hi => pt_mem H i hi, fun r hr => h.least r (hs r hr), fun h1 r hr => h.one h1 r (hs r hr), fun i hi r hr => h.ed i hi r (hs r hr), h.ne, h.ner⟩
theorem corners_again {l : List S31} (h : 0 < l.length) : cornersS (cornersS l) = cornersS l := by
  have h1 := corners_hull l h
  exact hull_unique (corners_hull _ h1.pos) (hull_self h1)
theorem corners_same {l m : List S31} (h : 0 < l.length) (hm : 0 < m.length) (hlm : ∀ p, p ∈ m ↔ p ∈ l) : cornersS m = cornersS l :=
  hull_unique (corners_hull m hm) (hull_same (corners_hull l h) hlm)
theorem lf_unique {a b c : S31} (h1 : Lf a b c) (h2 : Lf a c b) : b = c := by
  have e := crs_swap a b c
  have n1 := h1.nn
  have n2 := h2.nn
  have o1 : onB a b c = true := by
    rcases h1 with h | h
    · omega
    · exact h
  have o2 : onB a c b = true := by
    rcases h2 with h | h
    · omega
    · exact h
  obtain ⟨_, x1, y1⟩ := (onB_iff' _ _ _).1 o1
  obtain ⟨_, x2, y2⟩ := (onB_iff' _ _ _).1 o2
  exact S31.ext' (by omega) (by omega)
theorem nxt_mod {i n : Nat} (h : i < n) : nxt i n = (i + 1) % n := by
  unfold nxt
  split
  · rename_i h1; rw [Nat.mod_eq_of_lt h1]
  · rw [show i + 1 = n by omega, Nat.mod_self]
theorem nxt_lt {i n : Nat} (h : 0 < n) : nxt i n < n := by unfold nxt; split <;> omega
theorem hull_inj {l H : List S31} (h : IsHull l H) : ∀ d i j, j + d = H.length → i < j → j < H.length → pt H i ≠ pt H j := by
  intro d
  induction d with
  | zero => intro i j h1 h2 h3; omega
  | succ d ih =>
    intro i j h1 h2 h3 e
    have l1 := h.ed i (by omega) _ (h.mem _ (nxt_lt (i := j) h.pos))
    have l2 := h.ed j h3 _ (h.mem _ (nxt_lt (i := i) h.pos))
    rw [← e] at l2
    have e2 := lf_unique l1 l2
    rw [show nxt i H.length = i + 1 by unfold nxt; rw [if_pos (by omega)]] at e2
    rcases Nat.lt_or_ge (j + 1) H.length with h4 | h4
    · rw [show nxt j H.length = j + 1 by unfold nxt; rw [if_pos h4]] at e2
      exact ih (i + 1) (j + 1) (by omega) (by omega) h4 e2
    · rw [show nxt j H.length = 0 by unfold nxt; rw [if_neg (by omega)]] at e2
      exact h.ne (i + 1) (by omega) (by omega) e2
theorem hull_ne {l H : List S31} (h : IsHull l H) {i j : Nat} (hi : i < H.length) (hj : j < H.length) (hij : i ≠ j) : pt H i ≠ pt H j := by
  rcases Nat.lt_or_ge i j with h1 | h1
  · exact hull_inj h (H.length - j) i j (by omega) h1 hj
  · exact fun e => hull_inj h (H.length - i) j i (by omega) (by omega) hi e.symm
theorem hull_left {l H : List S31} (h : IsHull l H) (h3 : 2 < H.length) (i : Nat) (hi : i < H.length) : 0 < crs (pt H i) (pt H (nxt i H.length)) (pt H (nxt (nxt i H.length) H.length)) := by
  have hb := nxt_lt (i := i) h.pos
  have hc := nxt_lt (i := nxt i H.length) h.pos
  have hac : pt H i ≠ pt H (nxt (nxt i H.length) H.length) := hull_ne h hi hc (by unfold nxt; split <;> split <;> omega)
  have l1 := h.ed i hi _ (h.mem _ hc)
  have l2 := h.ed _ hb _ (h.mem _ hi)
  generalize pt H (nxt (nxt i H.length) H.length) = c at *
  generalize pt H (nxt i H.length) = b at *
  generalize pt H i = a at *
  rcases l1 with l1 | l1
  · exact l1
  · exfalso
    obtain ⟨z, x1, y1⟩ := (onB_iff' _ _ _).1 l1
    have o2 : onB b c a = true := by
      rcases l2 with l2 | l2
      · rw [crs_rot] at l2; omega
      · exact l2
    obtain ⟨_, x2, y2⟩ := (onB_iff' _ _ _).1 o2
    exact hac (S31.ext' (by omega) (by omega))
/-- the value of a linear function at a point -/
def lin (u v : Int) (p : S31) : Int := u * p.f0 + v * p.f1
theorem lin_key (u v : Int) (a b c m : S31) : crs a b c * (lin u v m - lin u v b) = crs a b m * (lin u v c - lin u v b) + crs b c m * (lin u v a - lin u v b) := by
  unfold crs lin; grind
theorem lin_on (u v : Int) {a b r : S31} (h : onB a b r = true) : lin u v r ≤ lin u v a ∨ lin u v r ≤ lin u v b := by
  obtain ⟨hc, hx, hy⟩ := (onB_iff' _ _ _).1 h
  rcases Int.lt_or_le (lin u v a) (lin u v r) with h1 | h1
  · rcases Int.lt_or_le (lin u v b) (lin u v r) with h2 | h2
    · exfalso
      -- both ends are lower: the point cannot lie between them
      unfold lin at h1 h2
      unfold crs at hc
      have key1 : (u * (r.f0 - a.f0) + v * (r.f1 - a.f1)) * (b.f0 - r.f0) = (u * (b.f0 - r.f0) + v * (b.f1 - r.f1)) * (r.f0 - a.f0) := by grind
      have key2 : (u * (r.f0 - a.f0) + v * (r.f1 - a.f1)) * (b.f1 - r.f1) = (u * (b.f0 - r.f0) + v * (b.f1 - r.f1)) * (r.f1 - a.f1) := by grind
      have p1 : 0 < u * (r.f0 - a.f0) + v * (r.f1 - a.f1) := by grind
      have p2 : 0 < -(u * (b.f0 - r.f0) + v * (b.f1 - r.f1)) := by grind
      generalize hP : u * (r.f0 - a.f0) + v * (r.f1 - a.f1) = P at *
      generalize hQ : u * (b.f0 - r.f0) + v * (b.f1 - r.f1) = Q at *
      have zx : r.f0 = a.f0 ∧ b.f0 = r.f0 := by
        rcases hx with hx | hx
        · have n1 := nn_mul (a := P) (b := b.f0 - r.f0) (by omega) (by omega)
          have n2 := nn_mul (a := -Q) (b := r.f0 - a.f0) (by omega) (by omega)
          have n2' : 0 ≤ -(Q * (r.f0 - a.f0)) := by grind
          have z1 : P * (b.f0 - r.f0) = 0 := by omega
          have z2 : Q * (r.f0 - a.f0) = 0 := by omega
          rcases Int.mul_eq_zero.1 z1 with h | h <;> rcases Int.mul_eq_zero.1 z2 with h' | h' <;> omega
        · have n1 := nn_mul (a := P) (b := r.f0 - b.f0) (by omega) (by omega)
          have n2 := nn_mul (a := -Q) (b := a.f0 - r.f0) (by omega) (by omega)
          have n1' : 0 ≤ -(P * (b.f0 - r.f0)) := by grind
          have n2' : 0 ≤ Q * (r.f0 - a.f0) := by grind
          have z1 : P * (b.f0 - r.f0) = 0 := by omega
          have z2 : Q * (r.f0 - a.f0) = 0 := by omega
          rcases Int.mul_eq_zero.1 z1 with h | h <;> rcases Int.mul_eq_zero.1 z2 with h' | h' <;> omega
      have zy : r.f1 = a.f1 ∧ b.f1 = r.f1 := by
        rcases hy with hx | hx
        · have n1 := nn_mul (a := P) (b := b.f1 - r.f1) (by omega) (by omega)
          have n2 := nn_mul (a := -Q) (b := r.f1 - a.f1) (by omega) (by omega)
          have n2' : 0 ≤ -(Q * (r.f1 - a.f1)) := by grind
          have z1 : P * (b.f1 - r.f1) = 0 := by omega
          have z2 : Q * (r.f1 - a.f1) = 0 := by omega
          rcases Int.mul_eq_zero.1 z1 with h | h <;> rcases Int.mul_eq_zero.1 z2 with h' | h' <;> omega
        · have n1 := nn_mul (a := P) (b := r.f1 - b.f1) (by omega) (by omega)
          have n2 := nn_mul (a := -Q) (b := a.f1 - r.f1) (by omega) (by omega)
          have n1' : 0 ≤ -(P * (b.f1 - r.f1)) := by grind
          have n2' : 0 ≤ Q * (r.f1 - a.f1) := by grind
          have z1 : P * (b.f1 - r.f1) = 0 := by omega
          have z2 : Q * (r.f1 - a.f1) = 0 := by omega
          rcases Int.mul_eq_zero.1 z1 with h | h <;> rcases Int.mul_eq_zero.1 z2 with h' | h' <;> omega
      rw [zx.1, zy.1] at hP
      have : P = 0 := by rw [← hP]; grind
      omega
    · exact Or.inr h2
  · exact Or.inl h1
theorem max_at (f : S31 → Int) : ∀ (H : List S31), 0 < H.length → ∃ i, i < H.length ∧ ∀ j, j < H.length → f (pt H j) ≤ f (pt H i) := by
  intro H hH
  have key : ∀ n, 0 < n → ∃ i, i < n ∧ ∀ j, j < n → f (pt H j) ≤ f (pt H i) := by
    intro n
    induction n with
    | zero => intro h; omega
    | succ n ih =>
      intro _
      rcases Nat.eq_zero_or_pos n with rfl | hn
      · exact ⟨0, by omega, fun j hj => by obtain rfl : j = 0 := by omega
                                           exact Int.le_refl _⟩
      · obtain ⟨i, hi, hm⟩ := ih hn
        rcases Int.lt_or_le (f (pt H i)) (f (pt H n)) with h | h
        · refine ⟨n, by omega, fun j hj => ?_⟩
          rcases Nat.lt_or_ge j n with h1 | h1
          · have := hm j h1; omega
          · obtain rfl : j = n := by omega
            exact Int.le_refl _
        · refine ⟨i, by omega, fun j hj => ?_⟩
          rcases Nat.lt_or_ge j n with h1 | h1
          · exact hm j h1
          · obtain rfl : j = n := by omega
            exact h
  exact key H.length hH
/-- a linear function is greatest at a corner -/
theorem hull_max {l H : List S31} (h : IsHull l H) (u v : Int) : ∃ i, i < H.length ∧ ∀ p ∈ l, lin u v p ≤ lin u v (pt H i) := by
  obtain ⟨i, hi, hm⟩ := max_at (lin u v) H h.pos
  refine ⟨i, hi, fun p hp => ?_⟩
  by_cases h1 : H.length = 1
  · rw [h.one h1 p hp]; exact hm 0 (by omega)
  · by_cases h2 : H.length = 2
    · have he := h.ed 0 (by omega) p hp
      have he' := h.ed 1 (by omega) p hp
      rw [show nxt 0 H.length = 1 by unfold nxt; rw [if_pos (by omega)]] at he
      rw [show nxt 1 H.length = 0 by unfold nxt; rw [if_neg (by omega)]] at he'
      have n1 := he.nn
      have n2 := he'.nn
      have e : crs (pt H 1) (pt H 0) p = - crs (pt H 0) (pt H 1) p := by unfold crs; grind
      rcases he with h3 | h3
      · omega
      · rcases lin_on u v h3 with h4 | h4
        · have := hm 0 (by omega); omega
        · have := hm 1 (by omega); omega
    · -- the corner ahead of it
      obtain ⟨k, hk, hki⟩ : ∃ k, k < H.length ∧ nxt k H.length = i := by
        rcases Nat.eq_zero_or_pos i with rfl | h3
        · exact ⟨H.length - 1, by omega, by unfold nxt; rw [if_neg (by omega)]⟩
        · exact ⟨i - 1, by omega, by unfold nxt; rw [if_pos (by omega)]; omega⟩
      have ht := hull_left h (by omega) k hk
      have e1 := (h.ed k hk p hp).nn
      have e2 := (h.ed i hi p hp).nn
      rw [hki] at ht e1
      have f1 := hm k hk
      have f2 := hm _ (nxt_lt (i := i) h.pos)
      have key := lin_key u v (pt H k) (pt H i) (pt H (nxt i H.length)) p
      generalize pt H (nxt i H.length) = c at *
      generalize pt H i = b at *
      generalize pt H k = a at *
      rcases Int.lt_or_le (lin u v b) (lin u v p) with h4 | h4
      · exfalso
        have m1 := ps_mul (a := crs a b c) (b := lin u v p - lin u v b) ht (by omega)
        have m2 := nn_mul (a := crs a b p) (b := lin u v b - lin u v c) e1 (by omega)
        have m3 := nn_mul (a := crs b c p) (b := lin u v b - lin u v a) e2 (by omega)
        have m2' : crs a b p * (lin u v c - lin u v b) ≤ 0 := by grind
        have m3' : crs b c p * (lin u v a - lin u v b) ≤ 0 := by grind
        omega
      · exact h4
end Go.Proofs.Ythaklbjcjoolcaa.P
namespace Go.Proofs.Ythaklbjcjoolcaa.P
open Go.RowKit Go.Proofs.YthaklbjcjoolcaaW.PrintWords Go.Proofs.YthaklbjcjoolcaaW.PrintLast Go.Proofs.YthaklbjcjoolcaaW.PrintMore
attribute [local go_sem] max2_int min2_int max_two min_two max_three min_three max_four min_four   -- for this text's walks alone

/-! ### plane_square: function 72 -/
def plane_square.f (a0_0 : Int) (a0_1 : Int) (a1_0 : Int) (a1_1 : Int) : Option (Int) := some (wrap64 ((wrap64 ((wrap64 (a0_0 - a1_0)) * (wrap64 (a0_0 - a1_0)))) + (wrap64 ((wrap64 (a0_1 - a1_1)) * (wrap64 (a0_1 - a1_1))))))
set_option maxHeartbeats 8000000 in
set_option maxRecDepth 100000 in
theorem plane_square.calls (a0_0 : Int) (a0_1 : Int) (a1_0 : Int) (a1_1 : Int) (r : Int) (w : World) (h : plane_square.f a0_0 a0_1 a1_0 a1_1 = some r) :
  Calls Try.prog 72 #[.agg #[.int .i64 a0_0, .int .i64 a0_1], .agg #[.int .i64 a1_0, .int .i64 a1_1]] w fun e w' => e = .returned (.int .i64 r) ∧ Below w.heap.size w w' := by
 have hu31 := Try.underlying31
 have HB := Aside0.mk (Below.refl w.heap.size w)
 have H : (some (wrap64 ((wrap64 ((wrap64 (a0_0 - a1_0)) * (wrap64 (a0_0 - a1_0)))) + (wrap64 ((wrap64 (a0_1 - a1_1)) * (wrap64 (a0_1 - a1_1))))))) = some r := h
 clear h
 obtain rfl := Option.some.inj H
 go_enter Try.func72, Try.ntmps72
 go_wp2_with (first | ((with_reducible refine gate_dst (N := 2) rfl ?_); refine bxe 2 #[.int .i64 a0_0, .int .i64 a0_1] 31 ?_; intro gb630 hg w3 hbox hb; have n0_ := Aside0.mk (below_step lB hb); have n1_ := Aside0.mk (hbox); have n2_ := Aside0.mk (lG (w := w) hg); have n3_ := Aside0.mk (lG (w := w) hg); clear HB; have HB := n0_; have BK630 := n1_; have GW630 := n2_; have GE630 := n3_; clear n0_ n1_ n2_ n3_; clear hb hbox hg) | ((with_reducible refine gate_dst (N := 3) rfl ?_); refine bxe 3 #[.int .i64 a1_0, .int .i64 a1_1] 31 ?_; intro gb631 hg w4 hbox hb; have n0_ := Aside0.mk (blk_below (g := gb630) (o := .cells #[.int .i64 a0_0, .int .i64 a0_1] 31 (0, 0)) (kX BK630.out) hb); have n1_ := Aside0.mk (below_step lB hb); have n2_ := Aside0.mk (hbox); have n3_ := Aside0.mk (lG (w := w) hg); have n4_ := Aside0.mk (lG (w := w) hg); have n5_ := Aside0.mk ((by rw [hg]; exact Nat.ne_of_lt (blk_lt (g := gb630) (o := .cells #[.int .i64 a0_0, .int .i64 a0_1] 31 (0, 0)) (kX BK630.out)) : gb630 ≠ gb631)); have n6_ := Aside0.mk ((by rw [hg]; exact Nat.ne_of_gt (blk_lt (g := gb630) (o := .cells #[.int .i64 a0_0, .int .i64 a0_1] 31 (0, 0)) (kX BK630.out)) : gb631 ≠ gb630)); clear BK630; clear HB; have BK630 := n0_; have HB := n1_; have BK631 := n2_; have GW631 := n3_; have GE631 := n4_; have NB630_631 := n5_; have NB631_630 := n6_; clear n0_ n1_ n2_ n3_ n4_ n5_ n6_; clear hb hbox hg; have hnb5 := NB630_631.out; have hnc5 := NB631_630.out; have hcz6_0 : w4.cell? ⟨gb630, 0, none⟩ = some (.int .i64 a0_0) := (blk_cell BK630.out 0).trans rfl; have hcz6_1 : w4.cell? ⟨gb630, 1, none⟩ = some (.int .i64 a0_1) := (blk_cell BK630.out 1).trans rfl; have hfz6_0 := blk_frozen BK630.out 0; have hfz6_1 := blk_frozen BK630.out 1; have hcz7_0 : w4.cell? ⟨gb631, 0, none⟩ = some (.int .i64 a1_0) := (blk_cell BK631.out 0).trans rfl; have hcz7_1 : w4.cell? ⟨gb631, 1, none⟩ = some (.int .i64 a1_1) := (blk_cell BK631.out 1).trans rfl; have hfz7_0 := blk_frozen BK631.out 0; have hfz7_1 := blk_frozen BK631.out 1))
 go_ret
 exact en

end Go.Proofs.Ythaklbjcjoolcaa.P
namespace Go.Proofs.Ythaklbjcjoolcaa.P
open Go.RowKit Go.Shelf Go.Sort Go.Proofs.YthaklbjcjoolcaaW.PrintWords Go.Proofs.YthaklbjcjoolcaaW.PrintLast Go.Proofs.YthaklbjcjoolcaaW.PrintMore
attribute [local go_sem] max2_int min2_int max_two min_two
theorem square_is {a b : S31} (ha : okPt a = true) (hb : okPt b = true) : plane_square.f a.f0 a.f1 b.f0 b.f1 = some (sqd a b) := by
  rw [okPt_iff] at ha hb
  have h1 := mul_bd (a := a.f0 - b.f0) (b := a.f0 - b.f0) (m := 8192) (n := 8192) (by omega) (by omega)
  have h2 := mul_bd (a := a.f1 - b.f1) (b := a.f1 - b.f1) (m := 8192) (n := 8192) (by omega) (by omega)
  unfold plane_square.f sqd
  rw [w64i (x := a.f0 - b.f0) (by omega) (by omega), w64i (x := a.f1 - b.f1) (by omega) (by omega), w64i (x := (a.f0 - b.f0) * (a.f0 - b.f0)) (by omega) (by omega), w64i (x := (a.f1 - b.f1) * (a.f1 - b.f1)) (by omega) (by omega), w64i (by omega) (by omega)]
/-- the greatest square of a distance from one point to those ahead of it -/
def widR (l : List S31) (i : Nat) : Nat → Int → Int
  | 0, m => m
  | j + 1, m => mx (widR l i j m) (sqd (pt l i) (pt l j))
/-- the greatest square of a distance -/
def widA (l : List S31) : Nat → Int
  | 0 => 0
  | i + 1 => widR l i i (widA l i)
def plane_Widest.f (l0 : List S31) : Option (Int × Int) := if isSetB l0 = true then some (widA (cornersS l0) (cornersS l0).length, 0) else some (0, 2)
set_option maxHeartbeats 4000000 in
set_option maxRecDepth 100000 in
theorem widest_yes (A0 : Option Addr) (c0 : Nat) (l0 : List S31) (w : World) (hr0 : Kd.C k31 w A0 l0.length l0) (hc0 : l0.length ≤ c0) (hs : isSetB l0 = true) :
    Calls Try.prog 42 #[.slice A0 l0.length c0] w fun e w' => e = .returned (.tuple #[.int .i64 (widA (cornersS l0) (cornersS l0).length), .int .i64 0]) ∧ Below w.heap.size w w' := by
  obtain ⟨⟨h1, h2⟩, h3⟩ := (isSetB_iff l0).1 hs
  have HS := Aside0.mk (fun W (hb : Below w.heap.size w W) => plane_isSet.calls A0 c0 l0 _ W (Kd.C_below hr0 hb) hc0 (isSet_is l0))
  have HC := Aside0.mk (fun W (hb : Below w.heap.size w W) => corners_calls A0 c0 l0 W (Kd.C_below hr0 hb) hc0 h1 (by omega) h3)
  have HB := Aside0.mk (Below.refl w.heap.size w)
  have HOK := Aside0.mk (cornersS_ok h3)
  have hcl := cornersS_len l0
  rw [hs] at HS
  generalize cornersS l0 = H at *
  clear hr0 h3 hs
  go_enter Try.func42, Try.ntmps42
  go_wp2_with (first | (go_at_call 55; go_must (refine (HS.out _ HB.out).mono ?_); rintro e w1 ⟨rfl, hb1⟩; have HB1 := Aside0.mk (below_step HB.out hb1); clear hb1) | (go_at_call 64; go_must (refine (HC.out _ HB1.out).mono ?_); rintro e w2 ⟨v5, rfl, hR, hb2⟩; have HB2 := Aside0.mk (below_step HB1.out hb2); have HR2 := Aside0.mk (Kd.R_lower hR HB1.out.size); clear hb2 hR; obtain ⟨Ao, co, rfl⟩ := Kd.R_slice HR2.out; have hmc : H.length ≤ co := (Kd.R_reads' HR2.out).2.1))
  clear HB HB1 HS HC
  go_loopw [4, 17] (fun v4 v17 wr => ∃ i : Nat, i ≤ H.length ∧ v17 = .int .i64 i ∧ v4 = .int .i64 (widA H i) ∧ Aside0 (Kd.R k31 31 wr w.heap.size (fun _ => True) (.slice Ao H.length co) H) ∧ Aside0 (Below w.heap.size w wr)) (fun _ v17 _ => H.length - (intOf v17).toNat)
  case atStart => exact ⟨0, by omega, rfl, rfl, HR2, HB2⟩
  case round =>
    clear HR2 HB2
    obtain ⟨i, hi, rfl, rfl, HR, HB⟩ := hrel
    by_cases hlt : i < H.length
    · obtain ⟨g, hgA⟩ : ∃ g, Ao = some ⟨g, 0, none⟩ := by
        obtain ⟨g, cap, e, _⟩ := Kd.R_form HR.out (by omega)
        injection e with e1
        exact ⟨g, e1⟩
      subst hgA
      obtain ⟨x0, x1, _⟩ := at31 HR.out i hlt
      have hltI : ((i : Nat) : Int) < ((H.length : Nat) : Int) := by omega
      have hcI : ((i : Nat) : Int) ≤ ((co : Nat) : Int) := by omega
      have HPI := Aside0.mk (allOk_pt HOK.out i hlt)
      have HW := Aside0.mk (show widA H (i + 1) = widR H i i (widA H i) from rfl)
      generalize hp : pt H i = p at *
      have HP := Aside0.mk hp
      clear hp
      obtain ⟨gA, hgA⟩ : ∃ g, g = wr.heap.size := ⟨_, rfl⟩
      have BA1 := Aside0.mk (heap_alloc_new wr (Obj.cells #[.int .i64 p.f0, .int .i64 p.f1] 31))
      have HR1 := Aside0.mk (Kd.R_alloc HR.out (Obj.cells #[.int .i64 p.f0, .int .i64 p.f1] 31))
      have HB1 := Aside0.mk (lA HB.out (Obj.cells #[.int .i64 p.f0, .int .i64 p.f1] 31))
      rw [← hgA] at BA1
      generalize widA H i = m0 at *
      go_wp2
      rw [← hgA]
      have HGA := Aside0.mk (show w.heap.size ≤ gA by have := HB.out.size; omega)
      clear hgA x0 x1 HR HB
      go_loopw [4, 26] (fun v4 v26 wx => ∃ j : Nat, j ≤ i ∧ v26 = .int .i64 j ∧ v4 = .int .i64 (widR H i j m0) ∧ Aside0 (Kd.R k31 31 wx w.heap.size (fun _ => True) (.slice (some ⟨g, 0, none⟩) H.length co) H) ∧ Aside0 (wx.heap[gA]? = some (.cells #[.int .i64 p.f0, .int .i64 p.f1] 31 (0, 0))) ∧ Aside0 (Below w.heap.size w wx)) (fun _ v26 _ => i - (intOf v26).toNat)
      case atStart => exact ⟨0, by omega, rfl, rfl, HR1, BA1, HB1⟩
      case round =>
        clear HR1 BA1 HB1
        obtain ⟨j, hj, rfl, rfl, HR, BA, HB⟩ := hrel
        by_cases hjt : j < i
        · have hjI : ((j : Nat) : Int) < ((i : Nat) : Int) := by omega
          obtain ⟨y0, y1, _⟩ := at31 HR.out j (by omega)
          have HPJ := Aside0.mk (allOk_pt HOK.out j (by omega))
          have HWJ := Aside0.mk (show widR H i (j + 1) m0 = mx (widR H i j m0) (sqd p (pt H j)) by rw [← HP.out]; rfl)
          generalize widR H i j m0 = m1 at *
          generalize pt H j = q at *
          have HSQ := Aside0.mk (square_is HPI.out HPJ.out)
          generalize sqd p q = d at *
          have BA1 := Aside0.mk (kA BA.out (Obj.cells #[.int .i64 q.f0, .int .i64 q.f1] 31))
          have HR1 := Aside0.mk (Kd.R_alloc HR.out (Obj.cells #[.int .i64 q.f0, .int .i64 q.f1] 31))
          have HB1 := Aside0.mk (lA HB.out (Obj.cells #[.int .i64 q.f0, .int .i64 q.f1] 31))
          have a0 : (wr.alloc (Obj.cells #[.int .i64 q.f0, .int .i64 q.f1] 31)).cell? ⟨gA, 0, none⟩ = some (.int .i64 p.f0) := blk_cell BA1.out 0
          have a1 : (wr.alloc (Obj.cells #[.int .i64 q.f0, .int .i64 q.f1] 31)).cell? ⟨gA, 1, none⟩ = some (.int .i64 p.f1) := blk_cell BA1.out 1
          go_wp2_with (first | (go_at_call 72; go_must (refine (plane_square.calls p.f0 p.f1 q.f0 q.f1 _ _ HSQ.out).mono ?_); rintro e w3 ⟨rfl, hb3⟩; have HR3 := Aside0.mk (Kd.R_below HR1.out hb3); have BA3 := Aside0.mk (blk_below BA1.out hb3); have HB3 := Aside0.mk (below_step HB1.out hb3); clear hb3))
          go_roundw
          case rel => exact ⟨j + 1, by omega, by go_num, by rw [HWJ.out]; rfl, HR3, BA3, HB3⟩
          case measure => simp [intOf]; omega
        · obtain rfl : j = i := by omega
          go_wp2
          go_roundw
          case rel => exact ⟨j + 1, by omega, by go_num, by rw [HW.out], HR, HB⟩
          case measure => simp [intOf]; omega
    · obtain rfl : i = H.length := by omega
      go_wp2
      go_ret2
      exact ⟨rfl, HB.out⟩
set_option maxHeartbeats 4000000 in
theorem widest_no (A0 : Option Addr) (c0 : Nat) (l0 : List S31) (w : World) (hr0 : Kd.C k31 w A0 l0.length l0) (hc0 : l0.length ≤ c0) (hs : isSetB l0 = false) :
    Calls Try.prog 42 #[.slice A0 l0.length c0] w fun e w' => e = .returned (.tuple #[.int .i64 0, .int .i64 2]) ∧ Below w.heap.size w w' := by
  have HS := Aside0.mk (fun W (hb : Below w.heap.size w W) => plane_isSet.calls A0 c0 l0 _ W (Kd.C_below hr0 hb) hc0 (isSet_is l0))
  have HB := Aside0.mk (Below.refl w.heap.size w)
  rw [hs] at HS
  clear hr0 hs
  go_enter Try.func42, Try.ntmps42
  go_wp2_with (first | (go_at_call 55; go_must (refine (HS.out _ HB.out).mono ?_); rintro e w1 ⟨rfl, hb1⟩; have HB1 := Aside0.mk (below_step HB.out hb1); clear hb1))
  go_ret2
  exact ⟨rfl, HB1.out⟩
theorem plane_Widest.calls (A0 : Option Addr) (c0 : Nat) (l0 : List S31) (r1 r2 : Int) (w : World) (hr0 : Kd.C k31 w A0 l0.length l0) (hc0 : l0.length ≤ c0) (h : plane_Widest.f l0 = some (r1, r2)) :
    Calls Try.prog 42 #[.slice A0 l0.length c0] w fun e w' => e = .returned (.tuple #[.int .i64 r1, .int .i64 r2]) ∧ Below w.heap.size w w' := by
  unfold plane_Widest.f at h
  by_cases hs : isSetB l0 = true
  · rw [if_pos hs] at h
    simp only [Option.some.injEq, Prod.mk.injEq] at h
    obtain ⟨rfl, rfl⟩ := h
    exact widest_yes A0 c0 l0 w hr0 hc0 hs
  · rw [if_neg hs] at h
    simp only [Option.some.injEq, Prod.mk.injEq] at h
    obtain ⟨rfl, rfl⟩ := h
    exact widest_no A0 c0 l0 w hr0 hc0 (by simpa using hs)
end Go.Proofs.Ythaklbjcjoolcaa.P
