/- Proved here: what functions that the law reaches compute, and plain laws of that. No conditions but those that the theorems state. Put together by a program; a part of it was printed by a program of the session's, by way of the kit's printer (wip/printplus.py, wip/mend*.py). -/
import Derived.Test.YthaklbjcjoolcaaB1
import Derived.Test.YthaklbjcjoolcaaB4
import Derived.Test.YthaklbjcjoolcaaCPlaneCorners1
import Derived.Test.YthaklbjcjoolcaaB5
import Derived.Test.YthaklbjcjoolcaaB2
import Derived.Test.YthaklbjcjoolcaaB3
set_option linter.unusedVariables false
set_option linter.unusedSimpArgs false
namespace Go.Proofs.Ythaklbjcjoolcaa.P
open Go.RowKit Go.Proofs.YthaklbjcjoolcaaW.PrintWords Go.Proofs.YthaklbjcjoolcaaW.PrintLast Go.Proofs.YthaklbjcjoolcaaW.PrintMore
attribute [local go_sem] max2_int min2_int max_two min_two max_three min_three max_four min_four   -- for this text's walks alone
set_option linter.unusedVariables false
set_option linter.unusedSimpArgs false

/-! ### silversidelaw01_PlaneCorners: function 9 -/
mutual
def silversidelaw01_PlaneCorners.j0 : Nat → List (S31) → List (S31) → Int → Bool → Option (Bool)
 | 0, _, _, _, _ => none
 | k + 1, x3, x4, x6, x32 => if x32 = true then (some false) else (silversidelaw01_PlaneCorners.l0 k x3 x4 x6 0)
def silversidelaw01_PlaneCorners.l0 : Nat → List (S31) → List (S31) → Int → Int → Option (Bool)
 | 0, _, _, _, _ => none
 | k + 1, x3, x4, x6, x7 => if x7 < x6 then (silversidelaw01_PlaneCorners.j2 k x3 x4 x6 x7 (decide (x6 > 1))) else (silversidelaw01_PlaneCorners.j2 k x3 x4 x6 x7 false)
def silversidelaw01_PlaneCorners.j2 : Nat → List (S31) → List (S31) → Int → Int → Bool → Option (Bool)
 | 0, _, _, _, _, _ => none
 | k + 1, x3, x4, x6, x7, x39 => if x39 = true then (if 0 ≤ x7 then (if x7 < (x4.length : Int) then (if x6 = 0 then (none) else (if 0 ≤ (Int.tmod (wrap64 (x7 + 1)) x6) then (if (Int.tmod (wrap64 (x7 + 1)) x6) < (x4.length : Int) then (if x6 > 2 then (if 0 ≤ (Int.tmod (wrap64 (x7 + 2)) x6) then (if (Int.tmod (wrap64 (x7 + 2)) x6) < (x4.length : Int) then ((silversidelaw01_turn.f ((rd_T31 x4 x7).f0) ((rd_T31 x4 x7).f1) ((rd_T31 x4 (Int.tmod (wrap64 (x7 + 1)) x6)).f0) ((rd_T31 x4 (Int.tmod (wrap64 (x7 + 1)) x6)).f1) ((rd_T31 x4 (Int.tmod (wrap64 (x7 + 2)) x6)).f0) ((rd_T31 x4 (Int.tmod (wrap64 (x7 + 2)) x6)).f1)).bind fun t439 => (silversidelaw01_PlaneCorners.j3 k x3 x4 x6 x7 (t439 != 1) ((rd_T31 x4 x7).f0) ((rd_T31 x4 x7).f1) ((rd_T31 x4 (Int.tmod (wrap64 (x7 + 1)) x6)).f0) ((rd_T31 x4 (Int.tmod (wrap64 (x7 + 1)) x6)).f1))) else (none)) else (none)) else (silversidelaw01_PlaneCorners.j3 k x3 x4 x6 x7 false ((rd_T31 x4 x7).f0) ((rd_T31 x4 x7).f1) ((rd_T31 x4 (Int.tmod (wrap64 (x7 + 1)) x6)).f0) ((rd_T31 x4 (Int.tmod (wrap64 (x7 + 1)) x6)).f1))) else (none)) else (none))) else (none)) else (none)) else (silversidelaw01_PlaneCorners.l2 k x3 x4 ([] : List (S31)) (wrap64 ((x3.length : Int) - 1)))
def silversidelaw01_PlaneCorners.j3 : Nat → List (S31) → List (S31) → Int → Int → Bool → Int → Int → Int → Int → Option (Bool)
 | 0, _, _, _, _, _, _, _, _, _ => none
 | k + 1, x3, x4, x6, x7, x67, x437000, x437001, x438000, x438001 => if x67 = true then (some false) else (silversidelaw01_PlaneCorners.l1 k x3 x4 x6 x7 0 x437000 x437001 x438000 x438001)
def silversidelaw01_PlaneCorners.l1 : Nat → List (S31) → List (S31) → Int → Int → Int → Int → Int → Int → Int → Option (Bool)
 | 0, _, _, _, _, _, _, _, _, _ => none
 | k + 1, x3, x4, x6, x7, x10, x437000, x437001, x438000, x438001 => if x10 < (x3.length : Int) then (if 0 ≤ x10 then ((silversidelaw01_turn.f x437000 x437001 x438000 x438001 ((rd_T31 x3 x10).f0) ((rd_T31 x3 x10).f1)).bind fun t441 => (if t441 = 0 then (silversidelaw01_PlaneCorners.l1 k x3 x4 x6 x7 (wrap64 (x10 + 1)) x437000 x437001 x438000 x438001) else (if t441 = 1 then (silversidelaw01_PlaneCorners.l1 k x3 x4 x6 x7 (wrap64 (x10 + 1)) x437000 x437001 x438000 x438001) else (some false)))) else (none)) else (silversidelaw01_PlaneCorners.l0 k x3 x4 x6 (wrap64 (x7 + 1)))
def silversidelaw01_PlaneCorners.l2 : Nat → List (S31) → List (S31) → List (S31) → Int → Option (Bool)
 | 0, _, _, _, _ => none
 | k + 1, x3, x4, x12, x13 => if x13 ≥ 0 then (if 0 ≤ x13 then (if x13 < (x3.length : Int) then (if x12.length < 8796093022208 then (silversidelaw01_PlaneCorners.l2 k x3 x4 (x12 ++ [(⟨(rd_T31 x3 x13).f0, (rd_T31 x3 x13).f1⟩ : S31)]) (wrap64 (x13 - 1))) else (none)) else (none)) else (none)) else ((plane_Hull.f x4).bind fun bt446 => ((plane_Hull.f x12).bind fun bt450 => (if bt446.2 = 0 then (if bt450.2 = 0 then ((silversidelaw01_same.f k bt446.1 x4).bind fun t454 => (if t454 = true then ((silversidelaw01_same.f k bt450.1 x4).bind fun t455 => (if t455 = true then ((silversidelaw01_awake.f k).bind fun t456 => (some t456)) else (some false))) else (some false))) else (some false)) else (some false))))
end
def silversidelaw01_PlaneCorners.f (k : Nat) (l0 : List (S31)) : Option (Bool) := (silversidelaw01_set.f k l0 60).bind fun t427 => ((plane_Hull.f t427).bind fun bt430 => (if bt430.2 = 0 then (silversidelaw01_PlaneCorners.j0 k t427 bt430.1 (bt430.1.length : Int) ((bt430.1.length : Int) == 0)) else (silversidelaw01_PlaneCorners.j0 k t427 bt430.1 (bt430.1.length : Int) true)))
theorem silversidelaw01_PlaneCorners.mono_l : ∀ k, (∀ y0 y1 y2 y3, LeO (silversidelaw01_PlaneCorners.j0 k y0 y1 y2 y3) (silversidelaw01_PlaneCorners.j0 (k + 1) y0 y1 y2 y3)) ∧ (∀ y0 y1 y2 y3, LeO (silversidelaw01_PlaneCorners.l0 k y0 y1 y2 y3) (silversidelaw01_PlaneCorners.l0 (k + 1) y0 y1 y2 y3)) ∧ (∀ y0 y1 y2 y3 y4, LeO (silversidelaw01_PlaneCorners.j2 k y0 y1 y2 y3 y4) (silversidelaw01_PlaneCorners.j2 (k + 1) y0 y1 y2 y3 y4)) ∧ (∀ y0 y1 y2 y3 y4 y5 y6 y7 y8, LeO (silversidelaw01_PlaneCorners.j3 k y0 y1 y2 y3 y4 y5 y6 y7 y8) (silversidelaw01_PlaneCorners.j3 (k + 1) y0 y1 y2 y3 y4 y5 y6 y7 y8)) ∧ (∀ y0 y1 y2 y3 y4 y5 y6 y7 y8, LeO (silversidelaw01_PlaneCorners.l1 k y0 y1 y2 y3 y4 y5 y6 y7 y8) (silversidelaw01_PlaneCorners.l1 (k + 1) y0 y1 y2 y3 y4 y5 y6 y7 y8)) ∧ (∀ y0 y1 y2 y3, LeO (silversidelaw01_PlaneCorners.l2 k y0 y1 y2 y3) (silversidelaw01_PlaneCorners.l2 (k + 1) y0 y1 y2 y3))
 | 0 => ⟨fun _ _ _ _ r h => by simp [silversidelaw01_PlaneCorners.j0] at h, fun _ _ _ _ r h => by simp [silversidelaw01_PlaneCorners.l0] at h, fun _ _ _ _ _ r h => by simp [silversidelaw01_PlaneCorners.j2] at h, fun _ _ _ _ _ _ _ _ _ r h => by simp [silversidelaw01_PlaneCorners.j3] at h, fun _ _ _ _ _ _ _ _ _ r h => by simp [silversidelaw01_PlaneCorners.l1] at h, fun _ _ _ _ r h => by simp [silversidelaw01_PlaneCorners.l2] at h⟩
 | k + 1 => by
  obtain ⟨ih0, ih1, ih2, ih3, ih4, ih5⟩ := silversidelaw01_PlaneCorners.mono_l k
  refine ⟨?_, ?_, ?_, ?_, ?_, ?_⟩
  ·intro y0 y1 y2 y3
   unfold silversidelaw01_PlaneCorners.j0
   repeat' first
   | (with_reducible exact ih0 _ _ _ _)
   | (with_reducible exact ih1 _ _ _ _)
   | (with_reducible exact ih2 _ _ _ _ _)
   | (with_reducible exact ih3 _ _ _ _ _ _ _ _ _)
   | (with_reducible exact ih4 _ _ _ _ _ _ _ _ _)
   | (with_reducible exact ih5 _ _ _ _)
   | (with_reducible exact silversidelaw01_awake.mono _)
   | (with_reducible exact silversidelaw01_same.mono _ _ _)
   | (with_reducible exact silversidelaw01_set.mono _ _ _)
   | (with_reducible exact LeO.refl _)
   | (with_reducible exact LeO.none _)
   | (with_reducible refine LeO.ite ?_ ?_)
   | (with_reducible refine LeO.bind ?_ (fun _ => ?_))
   | exact ih0 _ _ _ _
   | exact ih1 _ _ _ _
   | exact ih2 _ _ _ _ _
   | exact ih3 _ _ _ _ _ _ _ _ _
   | exact ih4 _ _ _ _ _ _ _ _ _
   | exact ih5 _ _ _ _
   | exact silversidelaw01_awake.mono _
   | exact silversidelaw01_same.mono _ _ _
   | exact silversidelaw01_set.mono _ _ _
   | exact LeO.none _
   | refine LeO.ite ?_ ?_
   | refine LeO.bind ?_ (fun _ => ?_)
  ·intro y0 y1 y2 y3
   unfold silversidelaw01_PlaneCorners.l0
   repeat' first
   | (with_reducible exact ih0 _ _ _ _)
   | (with_reducible exact ih1 _ _ _ _)
   | (with_reducible exact ih2 _ _ _ _ _)
   | (with_reducible exact ih3 _ _ _ _ _ _ _ _ _)
   | (with_reducible exact ih4 _ _ _ _ _ _ _ _ _)
   | (with_reducible exact ih5 _ _ _ _)
   | (with_reducible exact silversidelaw01_awake.mono _)
   | (with_reducible exact silversidelaw01_same.mono _ _ _)
   | (with_reducible exact silversidelaw01_set.mono _ _ _)
   | (with_reducible exact LeO.refl _)
   | (with_reducible exact LeO.none _)
   | (with_reducible refine LeO.ite ?_ ?_)
   | (with_reducible refine LeO.bind ?_ (fun _ => ?_))
   | exact ih0 _ _ _ _
   | exact ih1 _ _ _ _
   | exact ih2 _ _ _ _ _
   | exact ih3 _ _ _ _ _ _ _ _ _
   | exact ih4 _ _ _ _ _ _ _ _ _
   | exact ih5 _ _ _ _
   | exact silversidelaw01_awake.mono _
   | exact silversidelaw01_same.mono _ _ _
   | exact silversidelaw01_set.mono _ _ _
   | exact LeO.none _
   | refine LeO.ite ?_ ?_
   | refine LeO.bind ?_ (fun _ => ?_)
  ·intro y0 y1 y2 y3 y4
   unfold silversidelaw01_PlaneCorners.j2
   repeat' first
   | (with_reducible exact ih0 _ _ _ _)
   | (with_reducible exact ih1 _ _ _ _)
   | (with_reducible exact ih2 _ _ _ _ _)
   | (with_reducible exact ih3 _ _ _ _ _ _ _ _ _)
   | (with_reducible exact ih4 _ _ _ _ _ _ _ _ _)
   | (with_reducible exact ih5 _ _ _ _)
   | (with_reducible exact silversidelaw01_awake.mono _)
   | (with_reducible exact silversidelaw01_same.mono _ _ _)
   | (with_reducible exact silversidelaw01_set.mono _ _ _)
   | (with_reducible exact LeO.refl _)
   | (with_reducible exact LeO.none _)
   | (with_reducible refine LeO.ite ?_ ?_)
   | (with_reducible refine LeO.bind ?_ (fun _ => ?_))
   | exact ih0 _ _ _ _
   | exact ih1 _ _ _ _
   | exact ih2 _ _ _ _ _
   | exact ih3 _ _ _ _ _ _ _ _ _
   | exact ih4 _ _ _ _ _ _ _ _ _
   | exact ih5 _ _ _ _
   | exact silversidelaw01_awake.mono _
   | exact silversidelaw01_same.mono _ _ _
   | exact silversidelaw01_set.mono _ _ _
   | exact LeO.none _
   | refine LeO.ite ?_ ?_
   | refine LeO.bind ?_ (fun _ => ?_)
  ·intro y0 y1 y2 y3 y4 y5 y6 y7 y8
   unfold silversidelaw01_PlaneCorners.j3
   repeat' first
   | (with_reducible exact ih0 _ _ _ _)
   | (with_reducible exact ih1 _ _ _ _)
   | (with_reducible exact ih2 _ _ _ _ _)
   | (with_reducible exact ih3 _ _ _ _ _ _ _ _ _)
   | (with_reducible exact ih4 _ _ _ _ _ _ _ _ _)
   | (with_reducible exact ih5 _ _ _ _)
   | (with_reducible exact silversidelaw01_awake.mono _)
   | (with_reducible exact silversidelaw01_same.mono _ _ _)
   | (with_reducible exact silversidelaw01_set.mono _ _ _)
   | (with_reducible exact LeO.refl _)
   | (with_reducible exact LeO.none _)
   | (with_reducible refine LeO.ite ?_ ?_)
   | (with_reducible refine LeO.bind ?_ (fun _ => ?_))
   | exact ih0 _ _ _ _
   | exact ih1 _ _ _ _
   | exact ih2 _ _ _ _ _
   | exact ih3 _ _ _ _ _ _ _ _ _
   | exact ih4 _ _ _ _ _ _ _ _ _
   | exact ih5 _ _ _ _
   | exact silversidelaw01_awake.mono _
   | exact silversidelaw01_same.mono _ _ _
   | exact silversidelaw01_set.mono _ _ _
   | exact LeO.none _
   | refine LeO.ite ?_ ?_
   | refine LeO.bind ?_ (fun _ => ?_)
  ·intro y0 y1 y2 y3 y4 y5 y6 y7 y8
   unfold silversidelaw01_PlaneCorners.l1
   repeat' first
   | (with_reducible exact ih0 _ _ _ _)
   | (with_reducible exact ih1 _ _ _ _)
   | (with_reducible exact ih2 _ _ _ _ _)
   | (with_reducible exact ih3 _ _ _ _ _ _ _ _ _)
   | (with_reducible exact ih4 _ _ _ _ _ _ _ _ _)
   | (with_reducible exact ih5 _ _ _ _)
   | (with_reducible exact silversidelaw01_awake.mono _)
   | (with_reducible exact silversidelaw01_same.mono _ _ _)
   | (with_reducible exact silversidelaw01_set.mono _ _ _)
   | (with_reducible exact LeO.refl _)
   | (with_reducible exact LeO.none _)
   | (with_reducible refine LeO.ite ?_ ?_)
   | (with_reducible refine LeO.bind ?_ (fun _ => ?_))
   | exact ih0 _ _ _ _
   | exact ih1 _ _ _ _
   | exact ih2 _ _ _ _ _
   | exact ih3 _ _ _ _ _ _ _ _ _
   | exact ih4 _ _ _ _ _ _ _ _ _
   | exact ih5 _ _ _ _
   | exact silversidelaw01_awake.mono _
   | exact silversidelaw01_same.mono _ _ _
   | exact silversidelaw01_set.mono _ _ _
   | exact LeO.none _
   | refine LeO.ite ?_ ?_
   | refine LeO.bind ?_ (fun _ => ?_)
  ·intro y0 y1 y2 y3
   unfold silversidelaw01_PlaneCorners.l2
   repeat' first
   | (with_reducible exact ih0 _ _ _ _)
   | (with_reducible exact ih1 _ _ _ _)
   | (with_reducible exact ih2 _ _ _ _ _)
   | (with_reducible exact ih3 _ _ _ _ _ _ _ _ _)
   | (with_reducible exact ih4 _ _ _ _ _ _ _ _ _)
   | (with_reducible exact ih5 _ _ _ _)
   | (with_reducible exact silversidelaw01_awake.mono _)
   | (with_reducible exact silversidelaw01_same.mono _ _ _)
   | (with_reducible exact silversidelaw01_set.mono _ _ _)
   | (with_reducible exact LeO.refl _)
   | (with_reducible exact LeO.none _)
   | (with_reducible refine LeO.ite ?_ ?_)
   | (with_reducible refine LeO.bind ?_ (fun _ => ?_))
   | exact ih0 _ _ _ _
   | exact ih1 _ _ _ _
   | exact ih2 _ _ _ _ _
   | exact ih3 _ _ _ _ _ _ _ _ _
   | exact ih4 _ _ _ _ _ _ _ _ _
   | exact ih5 _ _ _ _
   | exact silversidelaw01_awake.mono _
   | exact silversidelaw01_same.mono _ _ _
   | exact silversidelaw01_set.mono _ _ _
   | exact LeO.none _
   | refine LeO.ite ?_ ?_
   | refine LeO.bind ?_ (fun _ => ?_)
theorem silversidelaw01_PlaneCorners.mono : ∀ a0 k, LeO (silversidelaw01_PlaneCorners.f k a0) (silversidelaw01_PlaneCorners.f (k + 1) a0) := by
 intro a0 k
 obtain ⟨ih0, ih1, ih2, ih3, ih4, ih5⟩ := silversidelaw01_PlaneCorners.mono_l k
 unfold silversidelaw01_PlaneCorners.f
 repeat' first
   | (with_reducible exact ih0 _ _ _ _)
   | (with_reducible exact ih1 _ _ _ _)
   | (with_reducible exact ih2 _ _ _ _ _)
   | (with_reducible exact ih3 _ _ _ _ _ _ _ _ _)
   | (with_reducible exact ih4 _ _ _ _ _ _ _ _ _)
   | (with_reducible exact ih5 _ _ _ _)
   | (with_reducible exact silversidelaw01_awake.mono _)
   | (with_reducible exact silversidelaw01_same.mono _ _ _)
   | (with_reducible exact silversidelaw01_set.mono _ _ _)
   | (with_reducible exact LeO.refl _)
   | (with_reducible exact LeO.none _)
   | (with_reducible refine LeO.ite ?_ ?_)
   | (with_reducible refine LeO.bind ?_ (fun _ => ?_))
   | exact ih0 _ _ _ _
   | exact ih1 _ _ _ _
   | exact ih2 _ _ _ _ _
   | exact ih3 _ _ _ _ _ _ _ _ _
   | exact ih4 _ _ _ _ _ _ _ _ _
   | exact ih5 _ _ _ _
   | exact silversidelaw01_awake.mono _
   | exact silversidelaw01_same.mono _ _ _
   | exact silversidelaw01_set.mono _ _ _
   | exact LeO.none _
   | refine LeO.ite ?_ ?_
   | refine LeO.bind ?_ (fun _ => ?_)
def silversidelaw01_PlaneCorners.T9 : Bool × List (List Nat × List Nat) := (true, [([], []), ([], []), ([0, 1], [0, 1]), ([2], [2]), ([], []), ([], []), ([5], [5]), ([], []), ([6, 7], [6, 7]), ([4, 8], [4, 8]), ([9], [9]), ([], []), ([], []), ([11, 3, 0, 1, 2, 3, 11, 12], [3, 11]), ([12, 10, 13, 0, 1, 2, 3, 4, 5, 6, 7, 8, 9, 10, 11, 12, 13], [10, 12])])
def silversidelaw01_PlaneCorners.B9 : List Nat := [0, 0, 3, 7, 0, 0, 32, 0, 224, 496, 1008, 0, 0, 6159, 16383]
theorem silversidelaw01_PlaneCorners.tab9 : rtab .any (opsOf Try.f9 9) = silversidelaw01_PlaneCorners.T9 := by kernel_rfl
theorem silversidelaw01_PlaneCorners.bits9 : waitsOk silversidelaw01_PlaneCorners.T9.2 silversidelaw01_PlaneCorners.B9 = true := by kernel_rfl
def silversidelaw01_PlaneCorners.T10 : Bool × List (List Nat × List Nat) := (true, [([], []), ([0], [0]), ([1], [1]), ([2], [2]), ([2], [2]), ([2], [2]), ([2], [2]), ([6, 2], [2, 6]), ([2], [2]), ([7, 8, 2], [2, 7, 8]), ([5, 9, 2], [2, 5, 9]), ([10, 2], [2, 10]), ([3, 4, 11, 2, 2], [2, 3, 4, 11]), ([12, 2], [2, 12]), ([2, 13], [2, 13])])
def silversidelaw01_PlaneCorners.B10 : List Nat := [0, 1, 3, 7, 7, 7, 7, 71, 7, 455, 999, 2023, 4095, 8191, 16383]
theorem silversidelaw01_PlaneCorners.tab10 : rtab .any (opsOf Try.f9 10) = silversidelaw01_PlaneCorners.T10 := by kernel_rfl
theorem silversidelaw01_PlaneCorners.bits10 : waitsOk silversidelaw01_PlaneCorners.T10.2 silversidelaw01_PlaneCorners.B10 = true := by kernel_rfl
def silversidelaw01_PlaneCorners.T15 : Bool × List (List Nat × List Nat) := (true, [([], []), ([], []), ([], []), ([], []), ([2, 3], [2, 3]), ([4], [4]), ([0, 1, 5], [0, 1, 5]), ([6, 6, 0, 1, 2, 3, 4, 5, 6], [6])])
def silversidelaw01_PlaneCorners.B15 : List Nat := [0, 0, 0, 0, 12, 28, 63, 127]
theorem silversidelaw01_PlaneCorners.tab15 : rtab .any (opsOf Try.f9 15) = silversidelaw01_PlaneCorners.T15 := by kernel_rfl
theorem silversidelaw01_PlaneCorners.bits15 : waitsOk silversidelaw01_PlaneCorners.T15.2 silversidelaw01_PlaneCorners.B15 = true := by kernel_rfl
set_option maxHeartbeats 8000000 in
set_option maxRecDepth 100000 in
theorem silversidelaw01_PlaneCorners.calls (k : Nat) (A0 : Option Addr) (c0 : Nat) (l0 : List (S31)) (r : Bool) (w : World) (hr0 : Kd.C k31 w A0 l0.length l0) (hc0 : l0.length ≤ c0) (h : silversidelaw01_PlaneCorners.f k l0 = some r) :
  Calls Try.prog 9 #[.slice A0 l0.length c0] w fun e w' => e = .returned (.bool r) ∧ Below w.heap.size w w' := by
 have hu31 := Try.underlying31
 have HR0 := Aside0.mk hr0
 have HC0 := Aside0.mk hc0
 clear hr0 hc0
 have HB := Aside0.mk (Below.refl w.heap.size w)
 have H : ((silversidelaw01_set.f k l0 60).bind fun t427 => ((plane_Hull.f t427).bind fun bt430 => (if bt430.2 = 0 then (silversidelaw01_PlaneCorners.j0 k t427 bt430.1 (bt430.1.length : Int) ((bt430.1.length : Int) == 0)) else (silversidelaw01_PlaneCorners.j0 k t427 bt430.1 (bt430.1.length : Int) true)))) = some r := h
 clear h
 replace H := Option.bind_eq_some_iff.mp H
 obtain ⟨t427, A20, H⟩ := H
 replace H : ((plane_Hull.f t427).bind fun bt430 => (if bt430.2 = 0 then (silversidelaw01_PlaneCorners.j0 k t427 bt430.1 (bt430.1.length : Int) ((bt430.1.length : Int) == 0)) else (silversidelaw01_PlaneCorners.j0 k t427 bt430.1 (bt430.1.length : Int) true))) = some r := H
 have A2 := Aside0.mk A20
 clear A20
 replace H := Option.bind_eq_some_iff.mp H
 obtain ⟨⟨t430, t431⟩, A30, H⟩ := H
 replace H : (if t431 = 0 then (silversidelaw01_PlaneCorners.j0 k t427 t430 (t430.length : Int) ((t430.length : Int) == 0)) else (silversidelaw01_PlaneCorners.j0 k t427 t430 (t430.length : Int) true)) = some r := H
 have A3 := Aside0.mk A30
 clear A30
 have HC4 := Aside0.mk H
 clear H
 go_enter Try.func9, Try.ntmps9
 go_upto_region 4 with (first | ((with_reducible refine gate_callee (f := 36) rfl ?_); refine goesL_ (some 19) rfl rfl Try.func36 (by kernel_rfl) rfl #[.slice A0 l0.length c0, .int .i64 60] rfl (by (try simp only [List.map_toArray, List.map_cons, List.map_nil]); first | done | rfl | (simp only [List.length_drop, List.length_take]; rfl)) ?_; (with_reducible refine (silversidelaw01_set.calls k _ _ l0 60 t427 _ ?side1 ?side2 A2.out).mono ?_); (case side1 => repeat (first | exact HR0.out | (with_reducible refine Kd.C_alloc ?_ _) | (with_reducible refine Kd.C_drewN ?_ _) | (with_reducible refine Kd.C_drew ?_))); (case side2 => exact HC0.out); rintro e w5 ⟨v428, rfl, ho0, hb⟩; refine ⟨_, rfl, ?_⟩; have n0_ := Aside0.mk (Kd.R_lower ho0 (below_size (by repeat (first | (with_reducible first | exact HB.out | apply lA | apply lN | apply lD) | exact HB.out)))); have n1_ := Aside0.mk (below_step (by repeat (first | (with_reducible first | exact HB.out | apply lA | apply lN | apply lD) | exact HB.out)) hb); clear HB; have HO429 := n0_; have HB := n1_; clear n0_ n1_; (try clear hb); (try clear hb2); (try clear hk); (try clear hi); (try clear ho0); obtain ⟨Ao6, co6, eo6⟩ := Kd.R_slice HO429.out; subst eo6) | ((with_reducible refine gate_callee (f := 32) rfl ?_); refine goesL_ (some 22) rfl rfl Try.func32 (by kernel_rfl) rfl #[.slice Ao6 t427.length co6] rfl (by (try simp only [List.map_toArray, List.map_cons, List.map_nil]); first | done | rfl | (simp only [List.length_drop, List.length_take]; rfl)) ?_; (with_reducible refine (plane_Hull.calls _ _ t427 t430 t431 _ ?side1 ?side2 A3.out).mono ?_); (case side1 => repeat (first | exact (Kd.R_reads' HO429.out).2.2 | (with_reducible refine Kd.C_alloc ?_ _) | (with_reducible refine Kd.C_drewN ?_ _) | (with_reducible refine Kd.C_drew ?_))); (case side2 => exact (Kd.R_reads' HO429.out).2.1); rintro e w7 ⟨v432, rfl, ho0, hb⟩; refine ⟨_, rfl, ?_⟩; have n0_ := Aside0.mk (Kd.R_elder' (by (with_reducible repeat (first | apply Kd.R_alloc | apply Kd.R_drewN | apply Kd.R_drew)); exact HO429.out) (Kd.R_base ho0) hb); have n1_ := Aside0.mk (Kd.R_lower (Kd.R_new' ho0 (Kd.R_lt (by (with_reducible repeat (first | apply Kd.R_alloc | apply Kd.R_drewN | apply Kd.R_drew)); exact HO429.out))) (below_size (by repeat (first | (with_reducible first | exact HB.out | apply lA | apply lN | apply lD) | exact HB.out)))); have n2_ := Aside0.mk (below_step (by repeat (first | (with_reducible first | exact HB.out | apply lA | apply lN | apply lD) | exact HB.out)) hb); clear HO429; clear HB; have HO429 := n0_; have HO433 := n1_; have HB := n2_; clear n0_ n1_ n2_; (try clear hb); (try clear hb2); (try clear hk); (try clear hi); (try clear ho0); obtain ⟨Ao8, co8, eo8⟩ := Kd.R_slice HO433.out; subst eo8))
 (try simp only [Act.put, sA, sB, sC])
 go_cut [32] (fun v32 wc => ∃ (kq : Nat) (x32_3 : Bool), v32 = .bool x32_3 ∧ Aside0 (silversidelaw01_PlaneCorners.j0 kq t427 t430 (t430.length : Int) x32_3 = some r) ∧ Aside0 (kq ≤ k) ∧ Aside0 (Kd.R k31 31 wc w.heap.size (fun k_ => some k_ ≠ ((.slice Ao8 t430.length co8) : Value).ownBlock) (.slice Ao6 t427.length co6) t427) ∧ Aside0 (Kd.R k31 31 wc w.heap.size (fun k_ => some k_ ≠ ((.slice Ao6 t427.length co6) : Value).ownBlock) (.slice Ao8 t430.length co8) t430) ∧ Aside0 (Below w.heap.size w wc))
 case first =>
  have H := HC4.out
  clear HC4
  by_cases c9 : t431 = 0
  ·rw [if_pos c9] at H
   have c9b0 : (t431 == 0) = true := beq_iff_eq.mpr c9
   have c9b1 : (t431 != 0) = false := bne_eq_false_iff_eq.mpr c9
   clear c9
   (first | rw [c9b0] | (simp only [i64_w, i32_w]; rw [c9b0]) | skip)
   have H' := Aside0.mk H
   clear H
   go_wp2
   go_meet
   case rel => exact ⟨_, (((t430.length : Int) == 0)), (by first | rfl | (simp; done) | (simp [*]; done)), H', ⟨by first | omega | exact Nat.le_refl _⟩, ⟨by (with_reducible repeat (first | apply Kd.R_alloc | apply Kd.R_drewN | apply Kd.R_drew)); exact Kd.R_mono HO429.out (fun _ hk => hk.2)⟩, ⟨by (with_reducible repeat (first | apply Kd.R_alloc | apply Kd.R_drewN | apply Kd.R_drew)); exact Kd.R_mono HO433.out (fun _ hk => hk.2)⟩, ⟨by repeat (first | (with_reducible first | exact HB.out | apply lA | apply lN | apply lD) | exact HB.out)⟩⟩
  rw [if_neg c9] at H
  have c9b0 : (t431 == 0) = false := beq_eq_false_iff_ne.mpr c9
  have c9b1 : (t431 != 0) = true := bne_iff_ne.mpr c9
  (first | rw [c9b0] | (simp only [i64_w, i32_w]; rw [c9b0]) | skip)
  have H' := Aside0.mk H
  clear H
  go_wp2
  go_meet
  case rel => exact ⟨_, (true), (by first | rfl | (simp; done) | (simp [*]; done)), H', ⟨by first | omega | exact Nat.le_refl _⟩, ⟨by (with_reducible repeat (first | apply Kd.R_alloc | apply Kd.R_drewN | apply Kd.R_drew)); exact Kd.R_mono HO429.out (fun _ hk => hk.2)⟩, ⟨by (with_reducible repeat (first | apply Kd.R_alloc | apply Kd.R_drewN | apply Kd.R_drew)); exact Kd.R_mono HO433.out (fun _ hk => hk.2)⟩, ⟨by repeat (first | (with_reducible first | exact HB.out | apply lA | apply lN | apply lD) | exact HB.out)⟩⟩
 case rest =>
  clear HC4
  try clear p2
  try clear c3
  try clear c9
  try clear c9b0
  try clear c9b1
  obtain ⟨kq, x32_3, rfl, HA, HJ3, HO_3, HO_4, HB⟩ := hcut
  cases kq with
  | zero => exact absurd HA.out (by simp [silversidelaw01_PlaneCorners.j0])
  | succ kj3 =>
   have H := HA.out
   clear HA
   simp only [silversidelaw01_PlaneCorners.j0] at H
   by_cases c10 : x32_3 = true
   ·subst c10
    have H1 : (some false) = some r := by rw [if_pos rfl] at H; exact H
    clear H
    have H := H1
    clear H1
    obtain rfl := Option.some.inj H
    go_wp2
    go_ret
    exact ⟨by first | rfl | (simp [errW_none, errW_some] <;> rfl) | (simp [*, errW_none, errW_some] <;> rfl), by repeat (first | (with_reducible first | exact HB.out | apply lA | apply lN | apply lD) | exact HB.out)⟩
   ·replace c10 := Bool.eq_false_iff.mpr c10
    subst c10
    have H1 : (silversidelaw01_PlaneCorners.l0 kj3 t427 t430 (t430.length : Int) 0) = some r := by rw [if_neg (show ¬ (false = true) by decide)] at H; exact H
    clear H
    have H := H1
    clear H1
    have H' := Aside0.mk H
    clear H
    go_wp2
    go_loopg [7] kj3 (fun kq v7 w' => ∃ (x7_2 : Int), v7 = .int .i64 x7_2 ∧ Aside0 (silversidelaw01_PlaneCorners.l0 kq t427 t430 (t430.length : Int) x7_2 = some r) ∧ Aside0 (kq ≤ kj3) ∧ Aside0 (Kd.R k31 31 w' w.heap.size (fun k_ => some k_ ≠ ((.slice Ao8 t430.length co8) : Value).ownBlock) (.slice Ao6 t427.length co6) t427) ∧ Aside0 (Kd.R k31 31 w' w.heap.size (fun k_ => some k_ ≠ ((.slice Ao6 t427.length co6) : Value).ownBlock) (.slice Ao8 t430.length co8) t430) ∧ Aside0 (Below w.heap.size w w'))
    case atStart => exact ⟨(0), (by first | rfl | (simp; done) | (simp [*]; done)), H', ⟨Nat.le_refl _⟩, ⟨by (with_reducible repeat (first | apply Kd.R_alloc | apply Kd.R_drewN | apply Kd.R_drew)); exact HO_3.out⟩, ⟨by (with_reducible repeat (first | apply Kd.R_alloc | apply Kd.R_drewN | apply Kd.R_drew)); exact HO_4.out⟩, ⟨by repeat (first | (with_reducible first | exact HB.out | apply lA | apply lN | apply lD) | exact HB.out)⟩⟩
    case round =>
     clear H'
     try clear c1
     try clear p2
     try clear c3
     try clear c9
     try clear c9b0
     try clear c9b1
     try clear c10
     try clear p2
     obtain ⟨x7_2, rfl, HA, HK2, HO_3, HO_4, HB⟩ := hrel
     cases gk with
     | zero => exact absurd HA.out (by simp [silversidelaw01_PlaneCorners.l0])
     | succ k2 =>
      have H := HA.out
      clear HA
      simp only [silversidelaw01_PlaneCorners.l0] at H
      have HC11 := Aside0.mk H
      clear H
      go_upto_region 7 with (fail)
      go_cut [39] (fun v39 wc => ∃ (kq : Nat) (x39_10 : Bool), v39 = .bool x39_10 ∧ Aside0 (silversidelaw01_PlaneCorners.j2 kq t427 t430 (t430.length : Int) x7_2 x39_10 = some r) ∧ Aside0 (kq ≤ k2) ∧ Aside0 (Kd.R k31 31 wc w.heap.size (fun k_ => some k_ ≠ ((.slice Ao8 t430.length co8) : Value).ownBlock) (.slice Ao6 t427.length co6) t427) ∧ Aside0 (Kd.R k31 31 wc w.heap.size (fun k_ => some k_ ≠ ((.slice Ao6 t427.length co6) : Value).ownBlock) (.slice Ao8 t430.length co8) t430) ∧ Aside0 (Below w.heap.size w wc))
      case first =>
       have H := HC11.out
       clear HC11
       by_cases c12 : x7_2 < (t430.length : Int)
       ·rw [if_pos c12] at H
        have c12b0 : decide (x7_2 < (t430.length : Int)) = true := decide_eq_true c12
        clear c12
        (first | rw [c12b0] | (simp only [i64_w, i32_w]; rw [c12b0]) | skip)
        have H' := Aside0.mk H
        clear H
        go_wp2
        go_meet
        case rel => exact ⟨_, (decide ((t430.length : Int) > 1)), (by first | rfl | (simp; done) | (simp [*]; done)), H', ⟨by have := HJ3.out; have := HK2.out; first | omega | exact Nat.le_refl _⟩, ⟨by (with_reducible repeat (first | apply Kd.R_alloc | apply Kd.R_drewN | apply Kd.R_drew)); exact HO_3.out⟩, ⟨by (with_reducible repeat (first | apply Kd.R_alloc | apply Kd.R_drewN | apply Kd.R_drew)); exact HO_4.out⟩, ⟨by repeat (first | (with_reducible first | exact HB.out | apply lA | apply lN | apply lD) | exact HB.out)⟩⟩
       ·rw [if_neg c12] at H
        have c12b0 : decide (x7_2 < (t430.length : Int)) = false := decide_eq_false c12
        clear c12
        (first | rw [c12b0] | (simp only [i64_w, i32_w]; rw [c12b0]) | skip)
        have H' := Aside0.mk H
        clear H
        go_wp2
        go_meet
        case rel => exact ⟨_, (false), (by first | rfl | (simp; done) | (simp [*]; done)), H', ⟨by have := HJ3.out; have := HK2.out; first | omega | exact Nat.le_refl _⟩, ⟨by (with_reducible repeat (first | apply Kd.R_alloc | apply Kd.R_drewN | apply Kd.R_drew)); exact HO_3.out⟩, ⟨by (with_reducible repeat (first | apply Kd.R_alloc | apply Kd.R_drewN | apply Kd.R_drew)); exact HO_4.out⟩, ⟨by repeat (first | (with_reducible first | exact HB.out | apply lA | apply lN | apply lD) | exact HB.out)⟩⟩
      case rest =>
       clear HC11
       try clear c1
       try clear p2
       try clear c3
       try clear c9
       try clear c9b0
       try clear c9b1
       try clear c10
       try clear c12
       try clear c12b0
       try clear p2
       obtain ⟨kq, x39_10, rfl, HA, HJ10, HO_3, HO_4, HB⟩ := hcut
       cases kq with
       | zero => exact absurd HA.out (by simp [silversidelaw01_PlaneCorners.j2])
       | succ kj10 =>
        have H := HA.out
        clear HA
        simp only [silversidelaw01_PlaneCorners.j2] at H
        by_cases c13 : x39_10 = true
        ·subst c13
         have H1 : (if 0 ≤ x7_2 then (if x7_2 < (t430.length : Int) then (if (t430.length : Int) = 0 then (none) else (if 0 ≤ (Int.tmod (wrap64 (x7_2 + 1)) (t430.length : Int)) then (if (Int.tmod (wrap64 (x7_2 + 1)) (t430.length : Int)) < (t430.length : Int) then (if (t430.length : Int) > 2 then (if 0 ≤ (Int.tmod (wrap64 (x7_2 + 2)) (t430.length : Int)) then (if (Int.tmod (wrap64 (x7_2 + 2)) (t430.length : Int)) < (t430.length : Int) then ((silversidelaw01_turn.f ((rd_T31 t430 x7_2).f0) ((rd_T31 t430 x7_2).f1) ((rd_T31 t430 (Int.tmod (wrap64 (x7_2 + 1)) (t430.length : Int))).f0) ((rd_T31 t430 (Int.tmod (wrap64 (x7_2 + 1)) (t430.length : Int))).f1) ((rd_T31 t430 (Int.tmod (wrap64 (x7_2 + 2)) (t430.length : Int))).f0) ((rd_T31 t430 (Int.tmod (wrap64 (x7_2 + 2)) (t430.length : Int))).f1)).bind fun t439 => (silversidelaw01_PlaneCorners.j3 kj10 t427 t430 (t430.length : Int) x7_2 (t439 != 1) ((rd_T31 t430 x7_2).f0) ((rd_T31 t430 x7_2).f1) ((rd_T31 t430 (Int.tmod (wrap64 (x7_2 + 1)) (t430.length : Int))).f0) ((rd_T31 t430 (Int.tmod (wrap64 (x7_2 + 1)) (t430.length : Int))).f1))) else (none)) else (none)) else (silversidelaw01_PlaneCorners.j3 kj10 t427 t430 (t430.length : Int) x7_2 false ((rd_T31 t430 x7_2).f0) ((rd_T31 t430 x7_2).f1) ((rd_T31 t430 (Int.tmod (wrap64 (x7_2 + 1)) (t430.length : Int))).f0) ((rd_T31 t430 (Int.tmod (wrap64 (x7_2 + 1)) (t430.length : Int))).f1))) else (none)) else (none))) else (none)) else (none)) = some r := by rw [if_pos rfl] at H; exact H
         clear H
         have H := H1
         clear H1
         by_cases c14 : 0 ≤ x7_2
         ·rw [if_pos c14] at H
          have c14b0 : decide (0 ≤ x7_2) = true := decide_eq_true c14
          clear c14
          by_cases c15 : x7_2 < (t430.length : Int)
          ·rw [if_pos c15] at H
           have c15b0 : decide (x7_2 < (t430.length : Int)) = true := decide_eq_true c15
           clear c15
           by_cases c16 : (t430.length : Int) = 0
           ·rw [if_pos c16] at H
            exact absurd H (by simp)
           ·rw [if_neg c16] at H
            have c16b0 : ((t430.length : Int) == 0) = false := beq_eq_false_iff_ne.mpr c16
            have c16b1 : ((t430.length : Int) != 0) = true := bne_iff_ne.mpr c16
            have c16b2 : ¬ (t430 = []) := fun h_ => c16 (by rw [h_]; rfl)
            obtain ⟨ji17, hji17⟩ : ∃ j_ : Int, (Int.tmod (wrap64 (x7_2 + 1)) (t430.length : Int)) = j_ := ⟨_, rfl⟩
            replace H : (if 0 ≤ (ji17) then (if (ji17) < (t430.length : Int) then (if (t430.length : Int) > 2 then (if 0 ≤ (Int.tmod (wrap64 (x7_2 + 2)) (t430.length : Int)) then (if (Int.tmod (wrap64 (x7_2 + 2)) (t430.length : Int)) < (t430.length : Int) then ((silversidelaw01_turn.f ((rd_T31 t430 x7_2).f0) ((rd_T31 t430 x7_2).f1) ((rd_T31 t430 (ji17)).f0) ((rd_T31 t430 (ji17)).f1) ((rd_T31 t430 (Int.tmod (wrap64 (x7_2 + 2)) (t430.length : Int))).f0) ((rd_T31 t430 (Int.tmod (wrap64 (x7_2 + 2)) (t430.length : Int))).f1)).bind fun t439 => (silversidelaw01_PlaneCorners.j3 kj10 t427 t430 (t430.length : Int) x7_2 (t439 != 1) ((rd_T31 t430 x7_2).f0) ((rd_T31 t430 x7_2).f1) ((rd_T31 t430 (ji17)).f0) ((rd_T31 t430 (ji17)).f1))) else (none)) else (none)) else (silversidelaw01_PlaneCorners.j3 kj10 t427 t430 (t430.length : Int) x7_2 false ((rd_T31 t430 x7_2).f0) ((rd_T31 t430 x7_2).f1) ((rd_T31 t430 (ji17)).f0) ((rd_T31 t430 (ji17)).f1))) else (none)) else (none)) = some r := by first | (rw [hji17] at H; exact H) | (simp only [hji17] at H ⊢; exact H)
            by_cases c18 : 0 ≤ (ji17)
            ·rw [if_pos c18] at H
             have c18b0 : decide (0 ≤ (ji17)) = true := decide_eq_true c18
             clear c18
             by_cases c19 : (ji17) < (t430.length : Int)
             ·rw [if_pos c19] at H
              have c19b0 : decide ((ji17) < (t430.length : Int)) = true := decide_eq_true c19
              clear c19
              have HC20 := Aside0.mk H
              clear H
              try go_wp2
              have n0_ := Aside0.mk (Kd.R_drew HO_3.out)
              have n1_ := Aside0.mk (Kd.R_drew HO_4.out)
              have n2_ := Aside0.mk (lD HB.out)
              clear HO_3
              clear HO_4
              clear HB
              have HO_3 := n0_
              have HO_4 := n1_
              have HB := n2_
              clear n0_ n1_ n2_
              have p434 : 0 ≤ (x7_2 : Int) := of_decide_eq_true (by first | (with_reducible assumption) | assumption)
              have q434 : x7_2 < (t430.length : Int) := of_decide_eq_true (by first | (with_reducible assumption) | assumption)
              obtain ⟨ad434, e434, hx434_0, hx434_1⟩ := at_T31 (Kd.R_reads' HO_4.out).2.2 x7_2 p434 q434
              cases e434
              replace p434 := eq_true p434
              replace q434 := eq_true q434
              have p435 : 0 ≤ ((ji17) : Int) := of_decide_eq_true (by first | (with_reducible assumption) | assumption)
              have q435 : (ji17) < (t430.length : Int) := of_decide_eq_true (by first | (with_reducible assumption) | assumption)
              obtain ⟨ad435, e435, hx435_0, hx435_1⟩ := at_T31 (Kd.R_reads' HO_4.out).2.2 (ji17) p435 q435
              obtain rfl : ad434 = ad435 := (by injection e435)
              replace p435 := eq_true p435
              replace q435 := eq_true q435
              refine start_ (n := 15) (S := fun w' => w'.cell? (ad434.add ((x7_2).toNat * 2)) = some (.int .i64 ((rd_T31 t430 x7_2).f0)) ∧ w'.cell? ⟨(ad434.add ((x7_2).toNat * 2)).block, (ad434.add ((x7_2).toNat * 2)).off + 1, none⟩ = some (.int .i64 ((rd_T31 t430 x7_2).f1)) ∧ w'.cell? (ad434.add (((ji17)).toNat * 2)) = some (.int .i64 ((rd_T31 t430 (ji17)).f0)) ∧ w'.cell? ⟨(ad434.add (((ji17)).toNat * 2)).block, (ad434.add (((ji17)).toNat * 2)).off + 1, none⟩ = some (.int .i64 ((rd_T31 t430 (ji17)).f1))) (ds := []) (Bs 0 15) (by kernel_rfl) rfl rfl ⟨hx434_0, hx434_1, hx435_0, hx435_1⟩ (fun hHeld => ?_); refine with_tabW silversidelaw01_PlaneCorners.tab9 silversidelaw01_PlaneCorners.bits9 (fun HT_ HW_ => ?_)
              generalize wc.drew = w21 at HO_3 HO_4 HB hx434_0 hx434_1 hx435_0 hx435_1 hHeld ⊢
              refine pure_ (i := 0) (N := some 42) (v := ?_) (a' := ?_) (Bs 1 15) rfl rfl (any_of HT_.out (by kernel_rfl)) (fun _ _ _ h => h) (Or.inl ⟨by rfl, ?_⟩) ?_ ?_; rotate_left
              ·intro w'; go_simp; with_reducible rfl
              rotate_left
              ·simp only [Act.put, sA, sB, sC, i64_w, i32_w]; rfl
              refine pure_ (i := 1) (N := some 43) (v := ?_) (a' := ?_) (Bs 2 15) rfl rfl (any_of HT_.out (by kernel_rfl)) (fun _ _ _ h => h) (Or.inl ⟨by rfl, ?_⟩) ?_ ?_; rotate_left
              ·intro w'; go_simp; with_reducible rfl
              rotate_left
              ·simp only [Act.put, sA, sB, sC, i64_w, i32_w]; rfl
              refine pure_ (i := 2) (N := some 44) (v := ?_) (a' := ?_) (Bs 3 15) rfl rfl (any_of HT_.out (by kernel_rfl)) (fun _ _ _ h => h) (Or.inl ⟨by rfl, ?_⟩) ?_ ?_; rotate_left
              ·intro w'; go_simp; with_reducible rfl
              rotate_left
              ·simp only [Act.put, sA, sB, sC, i64_w, i32_w]; rfl
              refine pure_ (i := 4) (N := some 46) (v := ?_) (a' := ?_) (Br [3,1,1,10]) rfl rfl (any_of HT_.out (by kernel_rfl)) (fun _ _ _ h => h) (Or.inl ⟨by rfl, ?_⟩) ?_ ?_; rotate_left
              ·intro w'; go_simp; with_reducible rfl
              rotate_left
              ·simp only [Act.put, sA, sB, sC, i64_w, i32_w]; rfl
              refine pure_ (i := 5) (N := some 47) (v := ?_) (a' := ?_) (Br [3,1,2,9]) rfl rfl (any_of HT_.out (by kernel_rfl)) (fun _ _ _ h => h) (Or.inl ⟨by rfl, ?_⟩) ?_ ?_; rotate_left
              ·intro w'; go_simp; with_reducible rfl
              rotate_left
              ·simp only [Act.put, sA, sB, sC, i64_w, i32_w]; rfl
              refine pure_ (i := 6) (N := some 48) (v := ?_) (a' := ?_) (Br [3,1,3,8]) rfl rfl (any_of HT_.out (by kernel_rfl)) (fun _ _ _ h => h) (Or.inl ⟨by rfl, ?_⟩) ?_ ?_; rotate_left
              ·intro w'; go_simp; with_reducible rfl
              rotate_left
              ·simp only [Act.put, sA, sB, sC, i64_w, i32_w]; rfl
              refine pure_ (i := 7) (N := some 49) (v := ?_) (a' := ?_) (Br [3,1,4,7]) rfl rfl (any_of HT_.out (by kernel_rfl)) (fun _ _ _ h => h) (Or.inl ⟨by rfl, ?_⟩) ?_ ?_; rotate_left
              ·intro w'; go_simp; with_reducible rfl
              rotate_left
              ·simp only [Act.put, sA, sB, sC, i64_w, i32_w]; rfl
              refine pure_ (i := 8) (N := some 50) (v := ?_) (a' := ?_) (Br [3,1,5,6]) rfl rfl (any_of HT_.out (by kernel_rfl)) (fun _ _ _ h => h) (Or.inl ⟨by rfl, ?_⟩) ?_ ?_; rotate_left
              ·intro w'; go_simp; with_reducible rfl
              rotate_left
              ·simp only [Act.put, sA, sB, sC, i64_w, i32_w]; rfl
              refine pure_ (i := 9) (N := some 51) (v := ?_) (a' := ?_) (Br [3,1,6,5]) rfl rfl (any_of HT_.out (by kernel_rfl)) (fun _ _ _ h => h) (Or.inl ⟨by rfl, ?_⟩) ?_ ?_; rotate_left
              ·intro w'; go_simp; with_reducible rfl
              rotate_left
              ·simp only [Act.put, sA, sB, sC, i64_w, i32_w]; rfl
              refine take_ (i := 3) (N := some 45) (v := ?_) (a' := ?_) (Bs 10 15) rfl rfl (take_ofW HT_.out HW_.out (by kernel_rfl)) (fun _ _ _ h => h) (Or.inl ⟨by rfl, ?_⟩) hHeld ?_ ?_; rotate_left
              ·rintro w' ⟨s0, s1, s2, s3⟩; go_simp; with_reducible rfl
              rotate_left
              ·simp only [Act.put, sA, sB, sC, i64_w, i32_w]; rfl
              refine take_ (i := 10) (N := some 52) (v := ?_) (a' := ?_) (Bs 11 15) rfl rfl (take_ofW HT_.out HW_.out (by kernel_rfl)) (fun _ _ _ h => h) (Or.inl ⟨by rfl, ?_⟩) hHeld ?_ ?_; rotate_left
              ·rintro w' ⟨s0, s1, s2, s3⟩; go_simp; with_reducible rfl
              rotate_left
              ·simp only [Act.put, sA, sB, sC, i64_w, i32_w]; rfl
              refine join_ (σ := Nat × Nat) 2 (Bs 13 15) (fun s_ => [(8, .pointer (some ⟨s_.1, 0, none⟩)), (9, .pointer (some ⟨s_.2, 0, none⟩))]) (fun s_ w' => (w'.cell? (ad434.add ((x7_2).toNat * 2)) = some (.int .i64 ((rd_T31 t430 x7_2).f0)) ∧ w'.cell? ⟨(ad434.add ((x7_2).toNat * 2)).block, (ad434.add ((x7_2).toNat * 2)).off + 1, none⟩ = some (.int .i64 ((rd_T31 t430 x7_2).f1)) ∧ w'.cell? (ad434.add (((ji17)).toNat * 2)) = some (.int .i64 ((rd_T31 t430 (ji17)).f0)) ∧ w'.cell? ⟨(ad434.add (((ji17)).toNat * 2)).block, (ad434.add (((ji17)).toNat * 2)).off + 1, none⟩ = some (.int .i64 ((rd_T31 t430 (ji17)).f1))) ∧ (Kd.R k31 31 w' w.heap.size (fun k_ => some k_ ≠ (.slice (some ad434) t430.length co8 : Value).ownBlock ∧ k_ ≠ s_.1 ∧ k_ ≠ s_.2) (.slice Ao6 t427.length co6) t427) ∧ (Kd.R k31 31 w' w.heap.size (fun k_ => some k_ ≠ (.slice Ao6 t427.length co6 : Value).ownBlock ∧ k_ ≠ s_.1 ∧ k_ ≠ s_.2) (.slice (some ad434) t430.length co8) t430) ∧ (w'.heap[s_.1]? = some (.cells #[.int .i64 0, .int .i64 0] 31 (0, 0))) ∧ (w'.heap[s_.2]? = some (.cells #[.int .i64 0, .int .i64 0] 31 (0, 0))) ∧ (w.heap.size ≤ s_.1) ∧ (w.heap.size ≤ s_.1) ∧ (s_.2 ≠ s_.1) ∧ (s_.1 ≠ s_.2) ∧ (w.heap.size ≤ s_.2) ∧ (w.heap.size ≤ s_.2) ∧ (Below w.heap.size w w')) ?_ ?_
              rotate_left
              ·intro hCont
               refine two_ (i := 11) (j := 12) (Ni := some 8) (Nj := some 9) (Bs 12 15) (Br [11,1,1,2]) rfl rfl rfl rfl (two_of HT_.out (by kernel_rfl)) (by decide) (by decide) (fun K hK => ?_) (fun K hK => ?_)
               ·skip
                refine box_step ?hg (N := 8) ?hd (cs := #[.int .i64 0, .int .i64 0]) (t := 31) ?hr ?_; (case hd => rfl); (case hg => rfl); (case hr => first | (go_simp; done) | (go_simp; rfl))
                intro gb436 hg w22 hbox hb
                have HS0_ := (hb.cell (World.block_lt_of_cell? _ _ (hHeld.1))).trans (hHeld.1)
                have HS1_ := (hb.cell (World.block_lt_of_cell? _ _ (hHeld.2.1))).trans (hHeld.2.1)
                have HS2_ := (hb.cell (World.block_lt_of_cell? _ _ (hHeld.2.2.1))).trans (hHeld.2.2.1)
                have HS3_ := (hb.cell (World.block_lt_of_cell? _ _ (hHeld.2.2.2))).trans (hHeld.2.2.2)
                have n0_ := Aside0.mk (Kd.R_below (Kd.R_elderB (by (with_reducible repeat (first | apply Kd.R_alloc | apply Kd.R_drewN | apply Kd.R_drew)); exact HO_3.out) gb436 (Nat.le_of_eq hg.symm)) hb)
                have n1_ := Aside0.mk (Kd.R_below (Kd.R_elderB (by (with_reducible repeat (first | apply Kd.R_alloc | apply Kd.R_drewN | apply Kd.R_drew)); exact HO_4.out) gb436 (Nat.le_of_eq hg.symm)) hb)
                have n2_ := Aside0.mk (below_step (by repeat (first | (with_reducible first | exact HB.out | apply lA | apply lN | apply lD) | exact HB.out)) hb)
                have n3_ := Aside0.mk (hbox)
                have n4_ := Aside0.mk ((by rw [hg]; exact (below_size (by repeat (first | (with_reducible first | exact HB.out | apply lA | apply lN | apply lD) | exact HB.out))) : w.heap.size ≤ gb436))
                have n5_ := Aside0.mk ((by rw [hg]; exact (below_size (by repeat (first | (with_reducible first | exact HB.out | apply lA | apply lN | apply lD) | exact HB.out))) : w.heap.size ≤ gb436))
                clear HO_3
                clear HO_4
                clear HB
                have HO_3 := n0_
                have HO_4 := n1_
                have HB := n2_
                have BK436 := n3_
                have GW436 := n4_
                have GE436 := n5_
                clear n0_ n1_ n2_ n3_ n4_ n5_
                clear hb hbox hg
                refine hK.out _ _ ⟨HS0_, HS1_, HS2_, HS3_⟩ (fun hHeld => ?_)
                clear hK K
                refine norm_ (a' := ?_) ?_ ?_
                rotate_left
                ·show Act.put _ (some 8) _ = _
                 simp only [Act.put, sA, sB, sC, i64_w, i32_w]
                 rfl
                refine one_ (i := 12) (N := some 9) (Bs 13 15) rfl rfl (one_of HT_.out (by kernel_rfl)) (by decide) (fun K hK => ?_)
                refine box_step ?hg (N := 9) ?hd (cs := #[.int .i64 0, .int .i64 0]) (t := 31) ?hr ?_; (case hd => rfl); (case hg => rfl); (case hr => first | (go_simp; done) | (go_simp; rfl))
                intro gb437 hg w23 hbox hb
                have HS0_ := (hb.cell (World.block_lt_of_cell? _ _ (hHeld.1))).trans (hHeld.1)
                have HS1_ := (hb.cell (World.block_lt_of_cell? _ _ (hHeld.2.1))).trans (hHeld.2.1)
                have HS2_ := (hb.cell (World.block_lt_of_cell? _ _ (hHeld.2.2.1))).trans (hHeld.2.2.1)
                have HS3_ := (hb.cell (World.block_lt_of_cell? _ _ (hHeld.2.2.2))).trans (hHeld.2.2.2)
                have n0_ := Aside0.mk (Kd.R_below (Kd.R_elderB (by (with_reducible repeat (first | apply Kd.R_alloc | apply Kd.R_drewN | apply Kd.R_drew)); exact HO_3.out) gb437 (Nat.le_of_eq hg.symm)) hb)
                have n1_ := Aside0.mk (Kd.R_below (Kd.R_elderB (by (with_reducible repeat (first | apply Kd.R_alloc | apply Kd.R_drewN | apply Kd.R_drew)); exact HO_4.out) gb437 (Nat.le_of_eq hg.symm)) hb)
                have n2_ := Aside0.mk (blk_below (g := gb436) (o := .cells #[.int .i64 0, .int .i64 0] 31 (0, 0)) (kX BK436.out) hb)
                have n3_ := Aside0.mk (below_step (by repeat (first | (with_reducible first | exact HB.out | apply lA | apply lN | apply lD | refine lS ?_ GE436.out) | exact HB.out)) hb)
                have n4_ := Aside0.mk (hbox)
                have n5_ := Aside0.mk ((by rw [hg]; exact (below_size (by repeat (first | (with_reducible first | exact HB.out | apply lA | apply lN | apply lD | refine lS ?_ GE436.out) | exact HB.out))) : w.heap.size ≤ gb437))
                have n6_ := Aside0.mk ((by rw [hg]; exact (below_size (by repeat (first | (with_reducible first | exact HB.out | apply lA | apply lN | apply lD | refine lS ?_ GE436.out) | exact HB.out))) : w.heap.size ≤ gb437))
                have n7_ := Aside0.mk ((by rw [hg]; exact Nat.ne_of_lt (blk_lt (g := gb436) (o := .cells #[.int .i64 0, .int .i64 0] 31 (0, 0)) (kX BK436.out)) : gb436 ≠ gb437))
                have n8_ := Aside0.mk ((by rw [hg]; exact Nat.ne_of_gt (blk_lt (g := gb436) (o := .cells #[.int .i64 0, .int .i64 0] 31 (0, 0)) (kX BK436.out)) : gb437 ≠ gb436))
                clear HO_3
                clear HO_4
                clear BK436
                clear HB
                have HO_3 := n0_
                have HO_4 := n1_
                have BK436 := n2_
                have HB := n3_
                have BK437 := n4_
                have GW437 := n5_
                have GE437 := n6_
                have NB436_437 := n7_
                have NB437_436 := n8_
                clear n0_ n1_ n2_ n3_ n4_ n5_ n6_ n7_ n8_
                clear hb hbox hg
                refine hK.out _ _ ⟨HS0_, HS1_, HS2_, HS3_⟩ (fun hHeld => ?_)
                clear hK K
                refine norm_ (a' := ?_) ?_ ?_
                rotate_left
                ·show Act.put _ (some 9) _ = _
                 simp only [Act.put, sA, sB, sC, i64_w, i32_w]
                 rfl
                exact norm_ (by simp only [putAll, Act.put, sA, sB, sC]) (hCont (gb436, gb437) _ ⟨hHeld, (by (with_reducible repeat (first | apply Kd.R_alloc | apply Kd.R_drewN | apply Kd.R_drew)); exact Kd.R_mono HO_3.out (fun _ hk => ⟨hk.1.1, ⟨hk.1.2, hk.2⟩⟩)), (by (with_reducible repeat (first | apply Kd.R_alloc | apply Kd.R_drewN | apply Kd.R_drew)); exact Kd.R_mono HO_4.out (fun _ hk => ⟨hk.1.1, ⟨hk.1.2, hk.2⟩⟩)), (kX BK436.out), (kX BK437.out), GW436.out, GE436.out, NB437_436.out, NB436_437.out, GW437.out, GE437.out, (by repeat (first | (with_reducible first | exact HB.out | apply lA | apply lN | apply lD | refine lS ?_ GE436.out | refine lS ?_ GE437.out) | exact HB.out))⟩)
               ·skip
                refine box_step ?hg (N := 9) ?hd (cs := #[.int .i64 0, .int .i64 0]) (t := 31) ?hr ?_; (case hd => rfl); (case hg => rfl); (case hr => first | (go_simp; done) | (go_simp; rfl))
                intro gb437 hg w22 hbox hb
                have HS0_ := (hb.cell (World.block_lt_of_cell? _ _ (hHeld.1))).trans (hHeld.1)
                have HS1_ := (hb.cell (World.block_lt_of_cell? _ _ (hHeld.2.1))).trans (hHeld.2.1)
                have HS2_ := (hb.cell (World.block_lt_of_cell? _ _ (hHeld.2.2.1))).trans (hHeld.2.2.1)
                have HS3_ := (hb.cell (World.block_lt_of_cell? _ _ (hHeld.2.2.2))).trans (hHeld.2.2.2)
                have n0_ := Aside0.mk (Kd.R_below (Kd.R_elderB (by (with_reducible repeat (first | apply Kd.R_alloc | apply Kd.R_drewN | apply Kd.R_drew)); exact HO_3.out) gb437 (Nat.le_of_eq hg.symm)) hb)
                have n1_ := Aside0.mk (Kd.R_below (Kd.R_elderB (by (with_reducible repeat (first | apply Kd.R_alloc | apply Kd.R_drewN | apply Kd.R_drew)); exact HO_4.out) gb437 (Nat.le_of_eq hg.symm)) hb)
                have n2_ := Aside0.mk (below_step (by repeat (first | (with_reducible first | exact HB.out | apply lA | apply lN | apply lD) | exact HB.out)) hb)
                have n3_ := Aside0.mk (hbox)
                have n4_ := Aside0.mk ((by rw [hg]; exact (below_size (by repeat (first | (with_reducible first | exact HB.out | apply lA | apply lN | apply lD) | exact HB.out))) : w.heap.size ≤ gb437))
                have n5_ := Aside0.mk ((by rw [hg]; exact (below_size (by repeat (first | (with_reducible first | exact HB.out | apply lA | apply lN | apply lD) | exact HB.out))) : w.heap.size ≤ gb437))
                clear HO_3
                clear HO_4
                clear HB
                have HO_3 := n0_
                have HO_4 := n1_
                have HB := n2_
                have BK437 := n3_
                have GW437 := n4_
                have GE437 := n5_
                clear n0_ n1_ n2_ n3_ n4_ n5_
                clear hb hbox hg
                refine hK.out _ _ ⟨HS0_, HS1_, HS2_, HS3_⟩ (fun hHeld => ?_)
                clear hK K
                refine norm_ (a' := ?_) ?_ ?_
                rotate_left
                ·show Act.put _ (some 9) _ = _
                 simp only [Act.put, sA, sB, sC, i64_w, i32_w]
                 rfl
                refine one_ (i := 11) (N := some 8) (Bs 13 15) rfl rfl (one_of HT_.out (by kernel_rfl)) (by decide) (fun K hK => ?_)
                refine box_step ?hg (N := 8) ?hd (cs := #[.int .i64 0, .int .i64 0]) (t := 31) ?hr ?_; (case hd => rfl); (case hg => rfl); (case hr => first | (go_simp; done) | (go_simp; rfl))
                intro gb436 hg w23 hbox hb
                have HS0_ := (hb.cell (World.block_lt_of_cell? _ _ (hHeld.1))).trans (hHeld.1)
                have HS1_ := (hb.cell (World.block_lt_of_cell? _ _ (hHeld.2.1))).trans (hHeld.2.1)
                have HS2_ := (hb.cell (World.block_lt_of_cell? _ _ (hHeld.2.2.1))).trans (hHeld.2.2.1)
                have HS3_ := (hb.cell (World.block_lt_of_cell? _ _ (hHeld.2.2.2))).trans (hHeld.2.2.2)
                have n0_ := Aside0.mk (Kd.R_below (Kd.R_elderB (by (with_reducible repeat (first | apply Kd.R_alloc | apply Kd.R_drewN | apply Kd.R_drew)); exact HO_3.out) gb436 (Nat.le_of_eq hg.symm)) hb)
                have n1_ := Aside0.mk (Kd.R_below (Kd.R_elderB (by (with_reducible repeat (first | apply Kd.R_alloc | apply Kd.R_drewN | apply Kd.R_drew)); exact HO_4.out) gb436 (Nat.le_of_eq hg.symm)) hb)
                have n2_ := Aside0.mk (blk_below (g := gb437) (o := .cells #[.int .i64 0, .int .i64 0] 31 (0, 0)) (kX BK437.out) hb)
                have n3_ := Aside0.mk (below_step (by repeat (first | (with_reducible first | exact HB.out | apply lA | apply lN | apply lD | refine lS ?_ GE437.out) | exact HB.out)) hb)
                have n4_ := Aside0.mk (hbox)
                have n5_ := Aside0.mk ((by rw [hg]; exact (below_size (by repeat (first | (with_reducible first | exact HB.out | apply lA | apply lN | apply lD | refine lS ?_ GE437.out) | exact HB.out))) : w.heap.size ≤ gb436))
                have n6_ := Aside0.mk ((by rw [hg]; exact (below_size (by repeat (first | (with_reducible first | exact HB.out | apply lA | apply lN | apply lD | refine lS ?_ GE437.out) | exact HB.out))) : w.heap.size ≤ gb436))
                have n7_ := Aside0.mk ((by rw [hg]; exact Nat.ne_of_lt (blk_lt (g := gb437) (o := .cells #[.int .i64 0, .int .i64 0] 31 (0, 0)) (kX BK437.out)) : gb437 ≠ gb436))
                have n8_ := Aside0.mk ((by rw [hg]; exact Nat.ne_of_gt (blk_lt (g := gb437) (o := .cells #[.int .i64 0, .int .i64 0] 31 (0, 0)) (kX BK437.out)) : gb436 ≠ gb437))
                clear HO_3
                clear HO_4
                clear BK437
                clear HB
                have HO_3 := n0_
                have HO_4 := n1_
                have BK437 := n2_
                have HB := n3_
                have BK436 := n4_
                have GW436 := n5_
                have GE436 := n6_
                have NB437_436 := n7_
                have NB436_437 := n8_
                clear n0_ n1_ n2_ n3_ n4_ n5_ n6_ n7_ n8_
                clear hb hbox hg
                refine hK.out _ _ ⟨HS0_, HS1_, HS2_, HS3_⟩ (fun hHeld => ?_)
                clear hK K
                refine norm_ (a' := ?_) ?_ ?_
                rotate_left
                ·show Act.put _ (some 8) _ = _
                 simp only [Act.put, sA, sB, sC, i64_w, i32_w]
                 rfl
                exact norm_ (by simp only [putAll, Act.put, sA, sB, sC]) (hCont (gb436, gb437) _ ⟨hHeld, (by (with_reducible repeat (first | apply Kd.R_alloc | apply Kd.R_drewN | apply Kd.R_drew)); exact Kd.R_mono HO_3.out (fun _ hk => ⟨hk.1.1, ⟨hk.2, hk.1.2⟩⟩)), (by (with_reducible repeat (first | apply Kd.R_alloc | apply Kd.R_drewN | apply Kd.R_drew)); exact Kd.R_mono HO_4.out (fun _ hk => ⟨hk.1.1, ⟨hk.2, hk.1.2⟩⟩)), (kX BK436.out), (kX BK437.out), GW436.out, GE436.out, NB437_436.out, NB436_437.out, GW437.out, GE437.out, (by repeat (first | (with_reducible first | exact HB.out | apply lA | apply lN | apply lD | refine lS ?_ GE437.out | refine lS ?_ GE436.out) | exact HB.out))⟩)
              rintro ⟨gb436, gb437⟩ w24 ⟨hS_, h0_, h1_, h2_, h3_, h4_, h5_, h6_, h7_, h8_, h9_, h10_⟩
              have n0_ : Aside0 (Kd.R k31 31 w24 w.heap.size (fun k_ => some k_ ≠ (.slice (some ad434) t430.length co8 : Value).ownBlock ∧ k_ ≠ gb436 ∧ k_ ≠ gb437) (.slice Ao6 t427.length co6) t427) := ⟨h0_⟩
              have n1_ : Aside0 (Kd.R k31 31 w24 w.heap.size (fun k_ => some k_ ≠ (.slice Ao6 t427.length co6 : Value).ownBlock ∧ k_ ≠ gb436 ∧ k_ ≠ gb437) (.slice (some ad434) t430.length co8) t430) := ⟨h1_⟩
              have n2_ : Aside0 (w24.heap[gb436]? = some (.cells #[.int .i64 0, .int .i64 0] 31 (0, 0))) := ⟨h2_⟩
              have n3_ : Aside0 (w24.heap[gb437]? = some (.cells #[.int .i64 0, .int .i64 0] 31 (0, 0))) := ⟨h3_⟩
              have n4_ : Aside0 (w.heap.size ≤ gb436) := ⟨h4_⟩
              have n5_ : Aside0 (w.heap.size ≤ gb436) := ⟨h5_⟩
              have n6_ : Aside0 (gb437 ≠ gb436) := ⟨h6_⟩
              have n7_ : Aside0 (gb436 ≠ gb437) := ⟨h7_⟩
              have n8_ : Aside0 (w.heap.size ≤ gb437) := ⟨h8_⟩
              have n9_ : Aside0 (w.heap.size ≤ gb437) := ⟨h9_⟩
              have n10_ : Aside0 (Below w.heap.size w w24) := ⟨h10_⟩
              clear HO_3
              clear HO_4
              clear HB
              clear h0_ h1_ h2_ h3_ h4_ h5_ h6_ h7_ h8_ h9_ h10_
              have HO_3 := n0_
              have HO_4 := n1_
              have BK436 := n2_
              have BK437 := n3_
              have GW436 := n4_
              have GE436 := n5_
              have NB437_436 := n6_
              have NB436_437 := n7_
              have GW437 := n8_
              have GE437 := n9_
              have HB := n10_
              clear n0_ n1_ n2_ n3_ n4_ n5_ n6_ n7_ n8_ n9_ n10_
              have hHeld : w24.cell? (ad434.add ((x7_2).toNat * 2)) = some (.int .i64 ((rd_T31 t430 x7_2).f0)) ∧ w24.cell? ⟨(ad434.add ((x7_2).toNat * 2)).block, (ad434.add ((x7_2).toNat * 2)).off + 1, none⟩ = some (.int .i64 ((rd_T31 t430 x7_2).f1)) ∧ w24.cell? (ad434.add (((ji17)).toNat * 2)) = some (.int .i64 ((rd_T31 t430 (ji17)).f0)) ∧ w24.cell? ⟨(ad434.add (((ji17)).toNat * 2)).block, (ad434.add (((ji17)).toNat * 2)).off + 1, none⟩ = some (.int .i64 ((rd_T31 t430 (ji17)).f1)) := hS_
              refine norm_ (a' := ?_) ?_ ?_
              rotate_left
              ·simp only [putAll, Act.put, sA, sB, sC]
               rfl
              refine one_ (i := 13) (N := none) (Bs 14 15) rfl rfl (one_of HT_.out (by kernel_rfl)) (by decide) (fun K hK => ?_)
              have hs25 : w24.cell? ⟨gb436, 0, none⟩ = some (.int .i64 0) := (blk_cell BK436.out 0).trans rfl
              have hfs25 := blk_frozen BK436.out 0
              have hns25_1 := NB437_436.out
              have hms25_1 := NB436_437.out
              have hs26 : w24.cell? ⟨gb436, 1, none⟩ = some (.int .i64 0) := (blk_cell BK436.out 1).trans rfl
              have hfs26 := blk_frozen BK436.out 1
              have hns26_1 := NB437_436.out
              have hms26_1 := NB436_437.out
              refine skip_ (w1 := ?_) (by rfl) rfl ?_ ?_
              rotate_left
              ·go_simp
               rfl
              refine hK.out _ _ ⟨((cell_far (p := ⟨gb436, _, none⟩) (by first | exact Kd.own_blk (Kd.R_away HO_4.out (fun _ hk => hk.2.1)) | (rw [add_block]; exact Kd.own_blk (Kd.R_away HO_4.out (fun _ hk => hk.2.1))) | (show (Addr.add _ _).block ≠ _; rw [add_block]; exact Kd.own_blk (Kd.R_away HO_4.out (fun _ hk => hk.2.1))) | (dsimp only; exact Kd.own_blk (Kd.R_away HO_4.out (fun _ hk => hk.2.1)))) _).trans (((cell_far (p := ⟨gb436, _, none⟩) (by first | exact Kd.own_blk (Kd.R_away HO_4.out (fun _ hk => hk.2.1)) | (rw [add_block]; exact Kd.own_blk (Kd.R_away HO_4.out (fun _ hk => hk.2.1))) | (show (Addr.add _ _).block ≠ _; rw [add_block]; exact Kd.own_blk (Kd.R_away HO_4.out (fun _ hk => hk.2.1))) | (dsimp only; exact Kd.own_blk (Kd.R_away HO_4.out (fun _ hk => hk.2.1)))) _).trans (hHeld.1)))), ((cell_far (p := ⟨gb436, _, none⟩) (by first | exact Kd.own_blk (Kd.R_away HO_4.out (fun _ hk => hk.2.1)) | (rw [add_block]; exact Kd.own_blk (Kd.R_away HO_4.out (fun _ hk => hk.2.1))) | (show (Addr.add _ _).block ≠ _; rw [add_block]; exact Kd.own_blk (Kd.R_away HO_4.out (fun _ hk => hk.2.1))) | (dsimp only; exact Kd.own_blk (Kd.R_away HO_4.out (fun _ hk => hk.2.1)))) _).trans (((cell_far (p := ⟨gb436, _, none⟩) (by first | exact Kd.own_blk (Kd.R_away HO_4.out (fun _ hk => hk.2.1)) | (rw [add_block]; exact Kd.own_blk (Kd.R_away HO_4.out (fun _ hk => hk.2.1))) | (show (Addr.add _ _).block ≠ _; rw [add_block]; exact Kd.own_blk (Kd.R_away HO_4.out (fun _ hk => hk.2.1))) | (dsimp only; exact Kd.own_blk (Kd.R_away HO_4.out (fun _ hk => hk.2.1)))) _).trans (hHeld.2.1)))), ((cell_far (p := ⟨gb436, _, none⟩) (by first | exact Kd.own_blk (Kd.R_away HO_4.out (fun _ hk => hk.2.1)) | (rw [add_block]; exact Kd.own_blk (Kd.R_away HO_4.out (fun _ hk => hk.2.1))) | (show (Addr.add _ _).block ≠ _; rw [add_block]; exact Kd.own_blk (Kd.R_away HO_4.out (fun _ hk => hk.2.1))) | (dsimp only; exact Kd.own_blk (Kd.R_away HO_4.out (fun _ hk => hk.2.1)))) _).trans (((cell_far (p := ⟨gb436, _, none⟩) (by first | exact Kd.own_blk (Kd.R_away HO_4.out (fun _ hk => hk.2.1)) | (rw [add_block]; exact Kd.own_blk (Kd.R_away HO_4.out (fun _ hk => hk.2.1))) | (show (Addr.add _ _).block ≠ _; rw [add_block]; exact Kd.own_blk (Kd.R_away HO_4.out (fun _ hk => hk.2.1))) | (dsimp only; exact Kd.own_blk (Kd.R_away HO_4.out (fun _ hk => hk.2.1)))) _).trans (hHeld.2.2.1)))), ((cell_far (p := ⟨gb436, _, none⟩) (by first | exact Kd.own_blk (Kd.R_away HO_4.out (fun _ hk => hk.2.1)) | (rw [add_block]; exact Kd.own_blk (Kd.R_away HO_4.out (fun _ hk => hk.2.1))) | (show (Addr.add _ _).block ≠ _; rw [add_block]; exact Kd.own_blk (Kd.R_away HO_4.out (fun _ hk => hk.2.1))) | (dsimp only; exact Kd.own_blk (Kd.R_away HO_4.out (fun _ hk => hk.2.1)))) _).trans (((cell_far (p := ⟨gb436, _, none⟩) (by first | exact Kd.own_blk (Kd.R_away HO_4.out (fun _ hk => hk.2.1)) | (rw [add_block]; exact Kd.own_blk (Kd.R_away HO_4.out (fun _ hk => hk.2.1))) | (show (Addr.add _ _).block ≠ _; rw [add_block]; exact Kd.own_blk (Kd.R_away HO_4.out (fun _ hk => hk.2.1))) | (dsimp only; exact Kd.own_blk (Kd.R_away HO_4.out (fun _ hk => hk.2.1)))) _).trans (hHeld.2.2.2))))⟩ (fun hHeld => ?_)
              clear hK K
              refine one_ (i := 14) (N := none) (Bs 15 15) rfl rfl (one_of HT_.out (by kernel_rfl)) (by decide) (fun K hK => ?_)
              have hs27 : w24.cell? ⟨gb437, 0, none⟩ = some (.int .i64 0) := (blk_cell BK437.out 0).trans rfl
              have hfs27 := blk_frozen BK437.out 0
              have hns27_0 := NB436_437.out
              have hms27_0 := NB437_436.out
              have hs28 : w24.cell? ⟨gb437, 1, none⟩ = some (.int .i64 0) := (blk_cell BK437.out 1).trans rfl
              have hfs28 := blk_frozen BK437.out 1
              have hns28_0 := NB436_437.out
              have hms28_0 := NB437_436.out
              refine skip_ (w1 := ?_) (by rfl) rfl ?_ ?_
              rotate_left
              ·go_simp
               rfl
              refine hK.out _ _ ⟨((cell_far (p := ⟨gb437, _, none⟩) (by first | exact Kd.own_blk (Kd.R_away HO_4.out (fun _ hk => hk.2.2)) | (rw [add_block]; exact Kd.own_blk (Kd.R_away HO_4.out (fun _ hk => hk.2.2))) | (show (Addr.add _ _).block ≠ _; rw [add_block]; exact Kd.own_blk (Kd.R_away HO_4.out (fun _ hk => hk.2.2))) | (dsimp only; exact Kd.own_blk (Kd.R_away HO_4.out (fun _ hk => hk.2.2)))) _).trans (((cell_far (p := ⟨gb437, _, none⟩) (by first | exact Kd.own_blk (Kd.R_away HO_4.out (fun _ hk => hk.2.2)) | (rw [add_block]; exact Kd.own_blk (Kd.R_away HO_4.out (fun _ hk => hk.2.2))) | (show (Addr.add _ _).block ≠ _; rw [add_block]; exact Kd.own_blk (Kd.R_away HO_4.out (fun _ hk => hk.2.2))) | (dsimp only; exact Kd.own_blk (Kd.R_away HO_4.out (fun _ hk => hk.2.2)))) _).trans (hHeld.1)))), ((cell_far (p := ⟨gb437, _, none⟩) (by first | exact Kd.own_blk (Kd.R_away HO_4.out (fun _ hk => hk.2.2)) | (rw [add_block]; exact Kd.own_blk (Kd.R_away HO_4.out (fun _ hk => hk.2.2))) | (show (Addr.add _ _).block ≠ _; rw [add_block]; exact Kd.own_blk (Kd.R_away HO_4.out (fun _ hk => hk.2.2))) | (dsimp only; exact Kd.own_blk (Kd.R_away HO_4.out (fun _ hk => hk.2.2)))) _).trans (((cell_far (p := ⟨gb437, _, none⟩) (by first | exact Kd.own_blk (Kd.R_away HO_4.out (fun _ hk => hk.2.2)) | (rw [add_block]; exact Kd.own_blk (Kd.R_away HO_4.out (fun _ hk => hk.2.2))) | (show (Addr.add _ _).block ≠ _; rw [add_block]; exact Kd.own_blk (Kd.R_away HO_4.out (fun _ hk => hk.2.2))) | (dsimp only; exact Kd.own_blk (Kd.R_away HO_4.out (fun _ hk => hk.2.2)))) _).trans (hHeld.2.1)))), ((cell_far (p := ⟨gb437, _, none⟩) (by first | exact Kd.own_blk (Kd.R_away HO_4.out (fun _ hk => hk.2.2)) | (rw [add_block]; exact Kd.own_blk (Kd.R_away HO_4.out (fun _ hk => hk.2.2))) | (show (Addr.add _ _).block ≠ _; rw [add_block]; exact Kd.own_blk (Kd.R_away HO_4.out (fun _ hk => hk.2.2))) | (dsimp only; exact Kd.own_blk (Kd.R_away HO_4.out (fun _ hk => hk.2.2)))) _).trans (((cell_far (p := ⟨gb437, _, none⟩) (by first | exact Kd.own_blk (Kd.R_away HO_4.out (fun _ hk => hk.2.2)) | (rw [add_block]; exact Kd.own_blk (Kd.R_away HO_4.out (fun _ hk => hk.2.2))) | (show (Addr.add _ _).block ≠ _; rw [add_block]; exact Kd.own_blk (Kd.R_away HO_4.out (fun _ hk => hk.2.2))) | (dsimp only; exact Kd.own_blk (Kd.R_away HO_4.out (fun _ hk => hk.2.2)))) _).trans (hHeld.2.2.1)))), ((cell_far (p := ⟨gb437, _, none⟩) (by first | exact Kd.own_blk (Kd.R_away HO_4.out (fun _ hk => hk.2.2)) | (rw [add_block]; exact Kd.own_blk (Kd.R_away HO_4.out (fun _ hk => hk.2.2))) | (show (Addr.add _ _).block ≠ _; rw [add_block]; exact Kd.own_blk (Kd.R_away HO_4.out (fun _ hk => hk.2.2))) | (dsimp only; exact Kd.own_blk (Kd.R_away HO_4.out (fun _ hk => hk.2.2)))) _).trans (((cell_far (p := ⟨gb437, _, none⟩) (by first | exact Kd.own_blk (Kd.R_away HO_4.out (fun _ hk => hk.2.2)) | (rw [add_block]; exact Kd.own_blk (Kd.R_away HO_4.out (fun _ hk => hk.2.2))) | (show (Addr.add _ _).block ≠ _; rw [add_block]; exact Kd.own_blk (Kd.R_away HO_4.out (fun _ hk => hk.2.2))) | (dsimp only; exact Kd.own_blk (Kd.R_away HO_4.out (fun _ hk => hk.2.2)))) _).trans (hHeld.2.2.2))))⟩ (fun hHeld => ?_)
              clear hK K
              refine done_ (done_of HT_.out (by kernel_rfl)) ?_
              go_upto_region 10 with (fail)
              go_cut [67] (fun v67 wc => ∃ (kq : Nat) (x67_19 : Bool), v67 = .bool x67_19 ∧ Aside0 (silversidelaw01_PlaneCorners.j3 kq t427 t430 (t430.length : Int) x7_2 x67_19 ((rd_T31 t430 x7_2).f0) ((rd_T31 t430 x7_2).f1) ((rd_T31 t430 (ji17)).f0) ((rd_T31 t430 (ji17)).f1) = some r) ∧ Aside0 (kq ≤ kj10) ∧ Aside0 (Kd.R k31 31 wc w.heap.size (fun k_ => some k_ ≠ ((.slice (some ad434) t430.length co8) : Value).ownBlock ∧ k_ ≠ gb436 ∧ k_ ≠ gb437) (.slice Ao6 t427.length co6) t427) ∧ Aside0 (Kd.R k31 31 wc w.heap.size (fun k_ => some k_ ≠ ((.slice Ao6 t427.length co6) : Value).ownBlock ∧ k_ ≠ gb436 ∧ k_ ≠ gb437) (.slice (some ad434) t430.length co8) t430) ∧ Aside0 (wc.heap[gb436]? = some (.cells #[.int .i64 ((rd_T31 t430 x7_2).f0), .int .i64 ((rd_T31 t430 x7_2).f1)] 31 (0, 0))) ∧ Aside0 (wc.heap[gb437]? = some (.cells #[.int .i64 ((rd_T31 t430 (ji17)).f0), .int .i64 ((rd_T31 t430 (ji17)).f1)] 31 (0, 0))) ∧ Aside0 (Below w.heap.size w wc))
              case first =>
               have H := HC20.out
               clear HC20
               by_cases c29 : (t430.length : Int) > 2
               ·rw [if_pos c29] at H
                have c29b0 : decide (2 < (t430.length : Int)) = true := decide_eq_true c29
                have c29b1 : decide (2 < t430.length) = true := decide_eq_true (by omega)
                clear c29
                (first | rw [c29b0] | (simp only [i64_w, i32_w]; rw [c29b0]) | skip)
                obtain ⟨ji30, hji30⟩ : ∃ j_ : Int, (Int.tmod (wrap64 (x7_2 + 2)) (t430.length : Int)) = j_ := ⟨_, rfl⟩
                replace H : (if 0 ≤ (ji30) then (if (ji30) < (t430.length : Int) then ((silversidelaw01_turn.f ((rd_T31 t430 x7_2).f0) ((rd_T31 t430 x7_2).f1) ((rd_T31 t430 (ji17)).f0) ((rd_T31 t430 (ji17)).f1) ((rd_T31 t430 (ji30)).f0) ((rd_T31 t430 (ji30)).f1)).bind fun t439 => (silversidelaw01_PlaneCorners.j3 kj10 t427 t430 (t430.length : Int) x7_2 (t439 != 1) ((rd_T31 t430 x7_2).f0) ((rd_T31 t430 x7_2).f1) ((rd_T31 t430 (ji17)).f0) ((rd_T31 t430 (ji17)).f1))) else (none)) else (none)) = some r := by first | (rw [hji30] at H; exact H) | (simp only [hji30] at H ⊢; exact H)
                by_cases c31 : 0 ≤ (ji30)
                ·rw [if_pos c31] at H
                 have c31b0 : decide (0 ≤ (ji30)) = true := decide_eq_true c31
                 clear c31
                 by_cases c32 : (ji30) < (t430.length : Int)
                 ·rw [if_pos c32] at H
                  have c32b0 : decide ((ji30) < (t430.length : Int)) = true := decide_eq_true c32
                  clear c32
                  replace H := Option.bind_eq_some_iff.mp H
                  obtain ⟨t439, A330, H⟩ := H
                  replace H : (silversidelaw01_PlaneCorners.j3 kj10 t427 t430 (t430.length : Int) x7_2 (t439 != 1) ((rd_T31 t430 x7_2).f0) ((rd_T31 t430 x7_2).f1) ((rd_T31 t430 (ji17)).f0) ((rd_T31 t430 (ji17)).f1)) = some r := H
                  have A33 := Aside0.mk A330
                  clear A330
                  have H' := Aside0.mk H
                  clear H
                  try go_wp2
                  have n0_ : Aside0 (Kd.R k31 31 ((((w24.setCell ⟨gb436, 0, none⟩ (.int .i64 ((rd_T31 t430 x7_2).f0))).setCell ⟨gb436, 1, none⟩ (.int .i64 ((rd_T31 t430 x7_2).f1))).setCell ⟨gb437, 0, none⟩ (.int .i64 ((rd_T31 t430 (ji17)).f0))).setCell ⟨gb437, 1, none⟩ (.int .i64 ((rd_T31 t430 (ji17)).f1))) w.heap.size (fun k_ => some k_ ≠ (.slice (some ad434) t430.length co8 : Value).ownBlock ∧ k_ ≠ gb436 ∧ k_ ≠ gb437) (.slice Ao6 t427.length co6) t427) := ⟨by (with_reducible repeat (first | apply Kd.R_alloc | apply Kd.R_drewN | apply Kd.R_drew)); exact Kd.R_mono (Kd.R_far (p := ⟨gb437, 1, none⟩) (Kd.R_far (p := ⟨gb437, 0, none⟩) (Kd.R_far (p := ⟨gb436, 1, none⟩) (Kd.R_far (p := ⟨gb436, 0, none⟩) (Kd.R_mono (Kd.R_mono HO_3.out (fun k_ hk => (⟨hk, hk.2.1⟩ : _ ∧ k_ ≠ gb436))) (fun k_ hk => (⟨hk, hk.1.2.2⟩ : _ ∧ k_ ≠ gb437))) (fun _ hk => hk.1.2) (.int .i64 ((rd_T31 t430 x7_2).f0))) (fun _ hk => hk.1.2) (.int .i64 ((rd_T31 t430 x7_2).f1))) (fun _ hk => hk.2) (.int .i64 ((rd_T31 t430 (ji17)).f0))) (fun _ hk => hk.2) (.int .i64 ((rd_T31 t430 (ji17)).f1))) (fun _ hk => ⟨hk.1.1.1, ⟨hk.1.1.2.1, hk.1.1.2.2⟩⟩)⟩
                  have n1_ : Aside0 (Kd.R k31 31 ((((w24.setCell ⟨gb436, 0, none⟩ (.int .i64 ((rd_T31 t430 x7_2).f0))).setCell ⟨gb436, 1, none⟩ (.int .i64 ((rd_T31 t430 x7_2).f1))).setCell ⟨gb437, 0, none⟩ (.int .i64 ((rd_T31 t430 (ji17)).f0))).setCell ⟨gb437, 1, none⟩ (.int .i64 ((rd_T31 t430 (ji17)).f1))) w.heap.size (fun k_ => some k_ ≠ (.slice Ao6 t427.length co6 : Value).ownBlock ∧ k_ ≠ gb436 ∧ k_ ≠ gb437) (.slice (some ad434) t430.length co8) t430) := ⟨by (with_reducible repeat (first | apply Kd.R_alloc | apply Kd.R_drewN | apply Kd.R_drew)); exact Kd.R_mono (Kd.R_far (p := ⟨gb437, 1, none⟩) (Kd.R_far (p := ⟨gb437, 0, none⟩) (Kd.R_far (p := ⟨gb436, 1, none⟩) (Kd.R_far (p := ⟨gb436, 0, none⟩) (Kd.R_mono (Kd.R_mono HO_4.out (fun k_ hk => (⟨hk, hk.2.1⟩ : _ ∧ k_ ≠ gb436))) (fun k_ hk => (⟨hk, hk.1.2.2⟩ : _ ∧ k_ ≠ gb437))) (fun _ hk => hk.1.2) (.int .i64 ((rd_T31 t430 x7_2).f0))) (fun _ hk => hk.1.2) (.int .i64 ((rd_T31 t430 x7_2).f1))) (fun _ hk => hk.2) (.int .i64 ((rd_T31 t430 (ji17)).f0))) (fun _ hk => hk.2) (.int .i64 ((rd_T31 t430 (ji17)).f1))) (fun _ hk => ⟨hk.1.1.1, ⟨hk.1.1.2.1, hk.1.1.2.2⟩⟩)⟩
                  have n2_ : Aside0 (((((w24.setCell ⟨gb436, 0, none⟩ (.int .i64 ((rd_T31 t430 x7_2).f0))).setCell ⟨gb436, 1, none⟩ (.int .i64 ((rd_T31 t430 x7_2).f1))).setCell ⟨gb437, 0, none⟩ (.int .i64 ((rd_T31 t430 (ji17)).f0))).setCell ⟨gb437, 1, none⟩ (.int .i64 ((rd_T31 t430 (ji17)).f1))).heap[gb436]? = some (.cells #[.int .i64 ((rd_T31 t430 x7_2).f0), .int .i64 ((rd_T31 t430 x7_2).f1)] 31 (0, 0))) := ⟨by (with_reducible repeat (first | refine kN ?_ _ | refine kD ?_ | refine kA ?_ _)); refine blk_far ?_ NB436_437.out _; (with_reducible repeat (first | refine kN ?_ _ | refine kD ?_ | refine kA ?_ _)); refine blk_far ?_ NB436_437.out _; (with_reducible repeat (first | refine kN ?_ _ | refine kD ?_ | refine kA ?_ _)); refine blk_put (cs := #[.int .i64 ((rd_T31 t430 x7_2).f0), .int .i64 0]) ?_ 1 _ rfl; (with_reducible repeat (first | refine kN ?_ _ | refine kD ?_ | refine kA ?_ _)); refine blk_put (cs := #[.int .i64 0, .int .i64 0]) ?_ 0 _ rfl; (with_reducible repeat (first | refine kN ?_ _ | refine kD ?_ | refine kA ?_ _)); exact BK436.out⟩
                  have n3_ : Aside0 (((((w24.setCell ⟨gb436, 0, none⟩ (.int .i64 ((rd_T31 t430 x7_2).f0))).setCell ⟨gb436, 1, none⟩ (.int .i64 ((rd_T31 t430 x7_2).f1))).setCell ⟨gb437, 0, none⟩ (.int .i64 ((rd_T31 t430 (ji17)).f0))).setCell ⟨gb437, 1, none⟩ (.int .i64 ((rd_T31 t430 (ji17)).f1))).heap[gb437]? = some (.cells #[.int .i64 ((rd_T31 t430 (ji17)).f0), .int .i64 ((rd_T31 t430 (ji17)).f1)] 31 (0, 0))) := ⟨by (with_reducible repeat (first | refine kN ?_ _ | refine kD ?_ | refine kA ?_ _)); refine blk_put (cs := #[.int .i64 ((rd_T31 t430 (ji17)).f0), .int .i64 0]) ?_ 1 _ rfl; (with_reducible repeat (first | refine kN ?_ _ | refine kD ?_ | refine kA ?_ _)); refine blk_put (cs := #[.int .i64 0, .int .i64 0]) ?_ 0 _ rfl; (with_reducible repeat (first | refine kN ?_ _ | refine kD ?_ | refine kA ?_ _)); refine blk_far ?_ NB437_436.out _; (with_reducible repeat (first | refine kN ?_ _ | refine kD ?_ | refine kA ?_ _)); refine blk_far ?_ NB437_436.out _; (with_reducible repeat (first | refine kN ?_ _ | refine kD ?_ | refine kA ?_ _)); exact BK437.out⟩
                  have n4_ : Aside0 (Below w.heap.size w ((((w24.setCell ⟨gb436, 0, none⟩ (.int .i64 ((rd_T31 t430 x7_2).f0))).setCell ⟨gb436, 1, none⟩ (.int .i64 ((rd_T31 t430 x7_2).f1))).setCell ⟨gb437, 0, none⟩ (.int .i64 ((rd_T31 t430 (ji17)).f0))).setCell ⟨gb437, 1, none⟩ (.int .i64 ((rd_T31 t430 (ji17)).f1)))) := ⟨by repeat (first | (with_reducible first | exact HB.out | apply lA | apply lN | apply lD | refine lS ?_ GE436.out | refine lS ?_ GE437.out) | exact HB.out)⟩
                  (try clear HO_3)
                  (try clear HO_4)
                  (try clear BK436)
                  (try clear BK437)
                  (try clear HB)
                  generalize ((((w24.setCell ⟨gb436, 0, none⟩ (.int .i64 ((rd_T31 t430 x7_2).f0))).setCell ⟨gb436, 1, none⟩ (.int .i64 ((rd_T31 t430 x7_2).f1))).setCell ⟨gb437, 0, none⟩ (.int .i64 ((rd_T31 t430 (ji17)).f0))).setCell ⟨gb437, 1, none⟩ (.int .i64 ((rd_T31 t430 (ji17)).f1))) = w34 at n0_ n1_ n2_ n3_ n4_ ⊢
                  have HO_3 := n0_
                  have HO_4 := n1_
                  have BK436 := n2_
                  have BK437 := n3_
                  have HB := n4_
                  clear n0_ n1_ n2_ n3_ n4_
                  have n0_ := Aside0.mk (Kd.R_drew HO_3.out)
                  have n1_ := Aside0.mk (Kd.R_drew HO_4.out)
                  have n2_ := Aside0.mk (kD BK436.out)
                  have n3_ := Aside0.mk (kD BK437.out)
                  have n4_ := Aside0.mk (lD HB.out)
                  clear HO_3
                  clear HO_4
                  clear BK436
                  clear BK437
                  clear HB
                  have HO_3 := n0_
                  have HO_4 := n1_
                  have BK436 := n2_
                  have BK437 := n3_
                  have HB := n4_
                  clear n0_ n1_ n2_ n3_ n4_
                  have p438 : 0 ≤ ((ji30) : Int) := of_decide_eq_true (by first | (with_reducible assumption) | assumption)
                  have q438 : (ji30) < (t430.length : Int) := of_decide_eq_true (by first | (with_reducible assumption) | assumption)
                  obtain ⟨ad438, e438, hx438_0, hx438_1⟩ := at_T31 (Kd.R_reads' HO_4.out).2.2 (ji30) p438 q438
                  obtain rfl : ad434 = ad438 := (by injection e438)
                  replace p438 := eq_true p438
                  replace q438 := eq_true q438
                  refine start_ (n := 15) (S := fun w' => w'.cell? ⟨gb436, 0, none⟩ = some (.int .i64 ((rd_T31 t430 x7_2).f0)) ∧ w'.cell? ⟨gb436, 1, none⟩ = some (.int .i64 ((rd_T31 t430 x7_2).f1)) ∧ w'.cell? ⟨gb437, 0, none⟩ = some (.int .i64 ((rd_T31 t430 (ji17)).f0)) ∧ w'.cell? ⟨gb437, 1, none⟩ = some (.int .i64 ((rd_T31 t430 (ji17)).f1)) ∧ w'.cell? (ad434.add (((ji30)).toNat * 2)) = some (.int .i64 ((rd_T31 t430 (ji30)).f0)) ∧ w'.cell? ⟨(ad434.add (((ji30)).toNat * 2)).block, (ad434.add (((ji30)).toNat * 2)).off + 1, none⟩ = some (.int .i64 ((rd_T31 t430 (ji30)).f1))) (ds := []) (Bs 0 15) (by kernel_rfl) rfl rfl ⟨(blk_cell BK436.out 0).trans rfl, (blk_cell BK436.out 1).trans rfl, (blk_cell BK437.out 0).trans rfl, (blk_cell BK437.out 1).trans rfl, hx438_0, hx438_1⟩ (fun hHeld => ?_); refine with_tabW silversidelaw01_PlaneCorners.tab10 silversidelaw01_PlaneCorners.bits10 (fun HT_ HW_ => ?_)
                  generalize w34.drew = w35 at HO_3 HO_4 BK436 BK437 HB hx438_0 hx438_1 hHeld ⊢
                  refine pure_ (i := 0) (N := some 53) (v := ?_) (a' := ?_) (Bs 1 15) rfl rfl (any_of HT_.out (by kernel_rfl)) (fun _ _ _ h => h) (Or.inl ⟨by rfl, ?_⟩) ?_ ?_; rotate_left
                  ·intro w'; go_simp; with_reducible rfl
                  rotate_left
                  ·simp only [Act.put, sA, sB, sC, i64_w, i32_w]; rfl
                  refine pure_ (i := 1) (N := some 54) (v := ?_) (a' := ?_) (Bs 2 15) rfl rfl (any_of HT_.out (by kernel_rfl)) (fun _ _ _ h => h) (Or.inl ⟨by rfl, ?_⟩) ?_ ?_; rotate_left
                  ·intro w'; go_simp; with_reducible rfl
                  rotate_left
                  ·simp only [Act.put, sA, sB, sC, i64_w, i32_w]; rfl
                  refine pure_ (i := 2) (N := some 55) (v := ?_) (a' := ?_) (Bs 3 15) rfl rfl (any_of HT_.out (by kernel_rfl)) (fun _ _ _ h => h) (Or.inl ⟨by rfl, ?_⟩) ?_ ?_; rotate_left
                  ·intro w'; go_simp; with_reducible rfl
                  rotate_left
                  ·simp only [Act.put, sA, sB, sC, i64_w, i32_w]; rfl
                  refine pure_ (i := 5) (N := some 58) (v := ?_) (a' := ?_) (Br [3,2,1,9]) rfl rfl (any_of HT_.out (by kernel_rfl)) (fun _ _ _ h => h) (Or.inl ⟨by rfl, ?_⟩) ?_ ?_; rotate_left
                  ·intro w'; go_simp; with_reducible rfl
                  rotate_left
                  ·simp only [Act.put, sA, sB, sC, i64_w, i32_w]; rfl
                  refine pure_ (i := 6) (N := some 59) (v := ?_) (a' := ?_) (Br [3,2,2,8]) rfl rfl (any_of HT_.out (by kernel_rfl)) (fun _ _ _ h => h) (Or.inl ⟨by rfl, ?_⟩) ?_ ?_; rotate_left
                  ·intro w'; go_simp; with_reducible rfl
                  rotate_left
                  ·simp only [Act.put, sA, sB, sC, i64_w, i32_w]; rfl
                  refine pure_ (i := 7) (N := some 60) (v := ?_) (a' := ?_) (Br [3,2,3,7]) rfl rfl (any_of HT_.out (by kernel_rfl)) (fun _ _ _ h => h) (Or.inl ⟨by rfl, ?_⟩) ?_ ?_; rotate_left
                  ·intro w'; go_simp; with_reducible rfl
                  rotate_left
                  ·simp only [Act.put, sA, sB, sC, i64_w, i32_w]; rfl
                  refine pure_ (i := 8) (N := some 61) (v := ?_) (a' := ?_) (Br [3,2,4,6]) rfl rfl (any_of HT_.out (by kernel_rfl)) (fun _ _ _ h => h) (Or.inl ⟨by rfl, ?_⟩) ?_ ?_; rotate_left
                  ·intro w'; go_simp; with_reducible rfl
                  rotate_left
                  ·simp only [Act.put, sA, sB, sC, i64_w, i32_w]; rfl
                  refine pure_ (i := 9) (N := some 62) (v := ?_) (a' := ?_) (Br [3,2,5,5]) rfl rfl (any_of HT_.out (by kernel_rfl)) (fun _ _ _ h => h) (Or.inl ⟨by rfl, ?_⟩) ?_ ?_; rotate_left
                  ·intro w'; go_simp; with_reducible rfl
                  rotate_left
                  ·simp only [Act.put, sA, sB, sC, i64_w, i32_w]; rfl
                  refine pure_ (i := 10) (N := some 63) (v := ?_) (a' := ?_) (Br [3,2,6,4]) rfl rfl (any_of HT_.out (by kernel_rfl)) (fun _ _ _ h => h) (Or.inl ⟨by rfl, ?_⟩) ?_ ?_; rotate_left
                  ·intro w'; go_simp; with_reducible rfl
                  rotate_left
                  ·simp only [Act.put, sA, sB, sC, i64_w, i32_w]; rfl
                  refine take_ (i := 3) (N := some 56) (v := ?_) (a' := ?_) (Br [4,1,6,4]) rfl rfl (take_ofW HT_.out HW_.out (by kernel_rfl)) (fun _ _ _ h => h) (Or.inl ⟨by rfl, ?_⟩) hHeld ?_ ?_; rotate_left
                  ·rintro w' ⟨s0, s1, s2, s3, s4, s5⟩; go_simp; with_reducible rfl
                  rotate_left
                  ·simp only [Act.put, sA, sB, sC, i64_w, i32_w]; rfl
                  refine take_ (i := 4) (N := some 57) (v := ?_) (a' := ?_) (Bs 11 15) rfl rfl (take_ofW HT_.out HW_.out (by kernel_rfl)) (fun _ _ _ h => h) (Or.inl ⟨by rfl, ?_⟩) hHeld ?_ ?_; rotate_left
                  ·rintro w' ⟨s0, s1, s2, s3, s4, s5⟩; go_simp; with_reducible rfl
                  rotate_left
                  ·simp only [Act.put, sA, sB, sC, i64_w, i32_w]; rfl
                  refine take_ (i := 11) (N := some 64) (v := ?_) (a' := ?_) (Bs 12 15) rfl rfl (take_ofW HT_.out HW_.out (by kernel_rfl)) (fun _ _ _ h => h) (Or.inl ⟨by rfl, ?_⟩) hHeld ?_ ?_; rotate_left
                  ·rintro w' ⟨s0, s1, s2, s3, s4, s5⟩; go_simp; with_reducible rfl
                  rotate_left
                  ·simp only [Act.put, sA, sB, sC, i64_w, i32_w]; rfl
                  refine one_ (i := 12) (N := some 65) (Bs 13 15) rfl rfl (one_of HT_.out (by kernel_rfl)) (by decide) (fun K hK => ?_)
                  refine goes_ Try.func38 (by kernel_rfl) rfl #[.agg #[.int .i64 ((rd_T31 t430 x7_2).f0), .int .i64 ((rd_T31 t430 x7_2).f1)], .agg #[.int .i64 ((rd_T31 t430 (ji17)).f0), .int .i64 ((rd_T31 t430 (ji17)).f1)], .agg #[.int .i64 ((rd_T31 t430 (ji30)).f0), .int .i64 ((rd_T31 t430 (ji30)).f1)]] (by rfl) rfl rfl (by (try simp only [List.map_toArray, List.map_cons, List.map_nil]); first | done | (simp only [hji17, hji30]; rfl) | rfl | (simp only [List.length_drop, List.length_take]; rfl)) ?_
                  with_reducible refine (silversidelaw01_turn.calls ((rd_T31 t430 x7_2).f0) ((rd_T31 t430 x7_2).f1) ((rd_T31 t430 (ji17)).f0) ((rd_T31 t430 (ji17)).f1) ((rd_T31 t430 (ji30)).f0) ((rd_T31 t430 (ji30)).f1) t439 _ A33.out).mono ?_
                  rintro e w36 ⟨rfl, hb⟩
                  have HS4_ := (hb.cell (World.block_lt_of_cell? _ _ (hHeld.2.2.2.2.1))).trans (hHeld.2.2.2.2.1)
                  have HS5_ := (hb.cell (World.block_lt_of_cell? _ _ (hHeld.2.2.2.2.2))).trans (hHeld.2.2.2.2.2)
                  refine ⟨_, rfl, ?_⟩
                  have n0_ := Aside0.mk (Kd.R_below (by (with_reducible repeat (first | apply Kd.R_alloc | apply Kd.R_drewN | apply Kd.R_drew)); exact HO_3.out) hb)
                  have n1_ := Aside0.mk (Kd.R_below (by (with_reducible repeat (first | apply Kd.R_alloc | apply Kd.R_drewN | apply Kd.R_drew)); exact HO_4.out) hb)
                  have n2_ := Aside0.mk (blk_below (g := gb436) (o := .cells #[.int .i64 ((rd_T31 t430 x7_2).f0), .int .i64 ((rd_T31 t430 x7_2).f1)] 31 (0, 0)) (kX BK436.out) hb)
                  have n3_ := Aside0.mk (blk_below (g := gb437) (o := .cells #[.int .i64 ((rd_T31 t430 (ji17)).f0), .int .i64 ((rd_T31 t430 (ji17)).f1)] 31 (0, 0)) (kX BK437.out) hb)
                  have n4_ := Aside0.mk (below_step (by repeat (first | (with_reducible first | exact HB.out | apply lA | apply lN | apply lD | refine lS ?_ GE436.out | refine lS ?_ GE437.out) | exact HB.out)) hb)
                  clear HO_3
                  clear HO_4
                  clear BK436
                  clear BK437
                  clear HB
                  have HO_3 := n0_
                  have HO_4 := n1_
                  have BK436 := n2_
                  have BK437 := n3_
                  have HB := n4_
                  clear n0_ n1_ n2_ n3_ n4_
                  (try clear hb)
                  (try clear hb2)
                  (try clear hk)
                  (try clear hi)
                  refine hK.out _ _ ⟨(blk_cell BK436.out 0).trans rfl, (blk_cell BK436.out 1).trans rfl, (blk_cell BK437.out 0).trans rfl, (blk_cell BK437.out 1).trans rfl, HS4_, HS5_⟩ (fun hHeld => ?_)
                  clear hK K
                  refine norm_ (a' := ?_) ?_ ?_
                  rotate_left
                  ·show Act.put _ (some 65) _ = _
                   simp only [Act.put, sA, sB, sC, i64_w, i32_w]
                   rfl
                  refine pure_ (i := 13) (N := some 66) (v := ?_) (a' := ?_) (Bs 14 15) rfl rfl (any_of HT_.out (by kernel_rfl)) (fun _ _ _ h => h) (Or.inl ⟨by rfl, ?_⟩) ?_ ?_; rotate_left
                  ·intro w'; go_simp; with_reducible rfl
                  rotate_left
                  ·simp only [Act.put, sA, sB, sC, i64_w, i32_w]; rfl
                  refine pure_ (i := 14) (N := some 67) (v := ?_) (a' := ?_) (Bs 15 15) rfl rfl (any_of HT_.out (by kernel_rfl)) (fun _ _ _ h => h) (Or.inl ⟨by rfl, ?_⟩) ?_ ?_; rotate_left
                  ·intro w'; go_simp; with_reducible rfl
                  rotate_left
                  ·simp only [Act.put, sA, sB, sC, i64_w, i32_w]; rfl
                  refine done_ (done_of HT_.out (by kernel_rfl)) ?_
                  try go_wp2
                  go_meet
                  case rel => exact ⟨_, ((t439 != 1)), (by first | rfl | (simp; done) | (simp [*]; done)), H', ⟨by have := HJ3.out; have := HK2.out; have := HJ10.out; first | omega | exact Nat.le_refl _⟩, ⟨by (with_reducible repeat (first | apply Kd.R_alloc | apply Kd.R_drewN | apply Kd.R_drew)); exact HO_3.out⟩, ⟨by (with_reducible repeat (first | apply Kd.R_alloc | apply Kd.R_drewN | apply Kd.R_drew)); exact HO_4.out⟩, ⟨by (with_reducible repeat (first | refine kN ?_ _ | refine kD ?_ | refine kA ?_ _)); exact BK436.out⟩, ⟨by (with_reducible repeat (first | refine kN ?_ _ | refine kD ?_ | refine kA ?_ _)); exact BK437.out⟩, ⟨by repeat (first | (with_reducible first | exact HB.out | apply lA | apply lN | apply lD | refine lS ?_ GE436.out | refine lS ?_ GE437.out) | exact HB.out)⟩⟩
                 ·rw [if_neg c32] at H
                  exact absurd H (by simp)
                ·rw [if_neg c31] at H
                 exact absurd H (by simp)
               ·rw [if_neg c29] at H
                have c29b0 : decide (2 < (t430.length : Int)) = false := decide_eq_false c29
                have c29b1 : decide (2 < t430.length) = false := decide_eq_false (by omega)
                clear c29
                (first | rw [c29b0] | (simp only [i64_w, i32_w]; rw [c29b0]) | skip)
                have H' := Aside0.mk H
                clear H
                try go_wp2
                have n0_ : Aside0 (Kd.R k31 31 ((((w24.setCell ⟨gb436, 0, none⟩ (.int .i64 ((rd_T31 t430 x7_2).f0))).setCell ⟨gb436, 1, none⟩ (.int .i64 ((rd_T31 t430 x7_2).f1))).setCell ⟨gb437, 0, none⟩ (.int .i64 ((rd_T31 t430 (ji17)).f0))).setCell ⟨gb437, 1, none⟩ (.int .i64 ((rd_T31 t430 (ji17)).f1))) w.heap.size (fun k_ => some k_ ≠ (.slice (some ad434) t430.length co8 : Value).ownBlock ∧ k_ ≠ gb436 ∧ k_ ≠ gb437) (.slice Ao6 t427.length co6) t427) := ⟨by (with_reducible repeat (first | apply Kd.R_alloc | apply Kd.R_drewN | apply Kd.R_drew)); exact Kd.R_mono (Kd.R_far (p := ⟨gb437, 1, none⟩) (Kd.R_far (p := ⟨gb437, 0, none⟩) (Kd.R_far (p := ⟨gb436, 1, none⟩) (Kd.R_far (p := ⟨gb436, 0, none⟩) (Kd.R_mono (Kd.R_mono HO_3.out (fun k_ hk => (⟨hk, hk.2.1⟩ : _ ∧ k_ ≠ gb436))) (fun k_ hk => (⟨hk, hk.1.2.2⟩ : _ ∧ k_ ≠ gb437))) (fun _ hk => hk.1.2) (.int .i64 ((rd_T31 t430 x7_2).f0))) (fun _ hk => hk.1.2) (.int .i64 ((rd_T31 t430 x7_2).f1))) (fun _ hk => hk.2) (.int .i64 ((rd_T31 t430 (ji17)).f0))) (fun _ hk => hk.2) (.int .i64 ((rd_T31 t430 (ji17)).f1))) (fun _ hk => ⟨hk.1.1.1, ⟨hk.1.1.2.1, hk.1.1.2.2⟩⟩)⟩
                have n1_ : Aside0 (Kd.R k31 31 ((((w24.setCell ⟨gb436, 0, none⟩ (.int .i64 ((rd_T31 t430 x7_2).f0))).setCell ⟨gb436, 1, none⟩ (.int .i64 ((rd_T31 t430 x7_2).f1))).setCell ⟨gb437, 0, none⟩ (.int .i64 ((rd_T31 t430 (ji17)).f0))).setCell ⟨gb437, 1, none⟩ (.int .i64 ((rd_T31 t430 (ji17)).f1))) w.heap.size (fun k_ => some k_ ≠ (.slice Ao6 t427.length co6 : Value).ownBlock ∧ k_ ≠ gb436 ∧ k_ ≠ gb437) (.slice (some ad434) t430.length co8) t430) := ⟨by (with_reducible repeat (first | apply Kd.R_alloc | apply Kd.R_drewN | apply Kd.R_drew)); exact Kd.R_mono (Kd.R_far (p := ⟨gb437, 1, none⟩) (Kd.R_far (p := ⟨gb437, 0, none⟩) (Kd.R_far (p := ⟨gb436, 1, none⟩) (Kd.R_far (p := ⟨gb436, 0, none⟩) (Kd.R_mono (Kd.R_mono HO_4.out (fun k_ hk => (⟨hk, hk.2.1⟩ : _ ∧ k_ ≠ gb436))) (fun k_ hk => (⟨hk, hk.1.2.2⟩ : _ ∧ k_ ≠ gb437))) (fun _ hk => hk.1.2) (.int .i64 ((rd_T31 t430 x7_2).f0))) (fun _ hk => hk.1.2) (.int .i64 ((rd_T31 t430 x7_2).f1))) (fun _ hk => hk.2) (.int .i64 ((rd_T31 t430 (ji17)).f0))) (fun _ hk => hk.2) (.int .i64 ((rd_T31 t430 (ji17)).f1))) (fun _ hk => ⟨hk.1.1.1, ⟨hk.1.1.2.1, hk.1.1.2.2⟩⟩)⟩
                have n2_ : Aside0 (((((w24.setCell ⟨gb436, 0, none⟩ (.int .i64 ((rd_T31 t430 x7_2).f0))).setCell ⟨gb436, 1, none⟩ (.int .i64 ((rd_T31 t430 x7_2).f1))).setCell ⟨gb437, 0, none⟩ (.int .i64 ((rd_T31 t430 (ji17)).f0))).setCell ⟨gb437, 1, none⟩ (.int .i64 ((rd_T31 t430 (ji17)).f1))).heap[gb436]? = some (.cells #[.int .i64 ((rd_T31 t430 x7_2).f0), .int .i64 ((rd_T31 t430 x7_2).f1)] 31 (0, 0))) := ⟨by (with_reducible repeat (first | refine kN ?_ _ | refine kD ?_ | refine kA ?_ _)); refine blk_far ?_ NB436_437.out _; (with_reducible repeat (first | refine kN ?_ _ | refine kD ?_ | refine kA ?_ _)); refine blk_far ?_ NB436_437.out _; (with_reducible repeat (first | refine kN ?_ _ | refine kD ?_ | refine kA ?_ _)); refine blk_put (cs := #[.int .i64 ((rd_T31 t430 x7_2).f0), .int .i64 0]) ?_ 1 _ rfl; (with_reducible repeat (first | refine kN ?_ _ | refine kD ?_ | refine kA ?_ _)); refine blk_put (cs := #[.int .i64 0, .int .i64 0]) ?_ 0 _ rfl; (with_reducible repeat (first | refine kN ?_ _ | refine kD ?_ | refine kA ?_ _)); exact BK436.out⟩
                have n3_ : Aside0 (((((w24.setCell ⟨gb436, 0, none⟩ (.int .i64 ((rd_T31 t430 x7_2).f0))).setCell ⟨gb436, 1, none⟩ (.int .i64 ((rd_T31 t430 x7_2).f1))).setCell ⟨gb437, 0, none⟩ (.int .i64 ((rd_T31 t430 (ji17)).f0))).setCell ⟨gb437, 1, none⟩ (.int .i64 ((rd_T31 t430 (ji17)).f1))).heap[gb437]? = some (.cells #[.int .i64 ((rd_T31 t430 (ji17)).f0), .int .i64 ((rd_T31 t430 (ji17)).f1)] 31 (0, 0))) := ⟨by (with_reducible repeat (first | refine kN ?_ _ | refine kD ?_ | refine kA ?_ _)); refine blk_put (cs := #[.int .i64 ((rd_T31 t430 (ji17)).f0), .int .i64 0]) ?_ 1 _ rfl; (with_reducible repeat (first | refine kN ?_ _ | refine kD ?_ | refine kA ?_ _)); refine blk_put (cs := #[.int .i64 0, .int .i64 0]) ?_ 0 _ rfl; (with_reducible repeat (first | refine kN ?_ _ | refine kD ?_ | refine kA ?_ _)); refine blk_far ?_ NB437_436.out _; (with_reducible repeat (first | refine kN ?_ _ | refine kD ?_ | refine kA ?_ _)); refine blk_far ?_ NB437_436.out _; (with_reducible repeat (first | refine kN ?_ _ | refine kD ?_ | refine kA ?_ _)); exact BK437.out⟩
                have n4_ : Aside0 (Below w.heap.size w ((((w24.setCell ⟨gb436, 0, none⟩ (.int .i64 ((rd_T31 t430 x7_2).f0))).setCell ⟨gb436, 1, none⟩ (.int .i64 ((rd_T31 t430 x7_2).f1))).setCell ⟨gb437, 0, none⟩ (.int .i64 ((rd_T31 t430 (ji17)).f0))).setCell ⟨gb437, 1, none⟩ (.int .i64 ((rd_T31 t430 (ji17)).f1)))) := ⟨by repeat (first | (with_reducible first | exact HB.out | apply lA | apply lN | apply lD | refine lS ?_ GE436.out | refine lS ?_ GE437.out) | exact HB.out)⟩
                (try clear HO_3)
                (try clear HO_4)
                (try clear BK436)
                (try clear BK437)
                (try clear HB)
                generalize ((((w24.setCell ⟨gb436, 0, none⟩ (.int .i64 ((rd_T31 t430 x7_2).f0))).setCell ⟨gb436, 1, none⟩ (.int .i64 ((rd_T31 t430 x7_2).f1))).setCell ⟨gb437, 0, none⟩ (.int .i64 ((rd_T31 t430 (ji17)).f0))).setCell ⟨gb437, 1, none⟩ (.int .i64 ((rd_T31 t430 (ji17)).f1))) = w37 at n0_ n1_ n2_ n3_ n4_ ⊢
                have HO_3 := n0_
                have HO_4 := n1_
                have BK436 := n2_
                have BK437 := n3_
                have HB := n4_
                clear n0_ n1_ n2_ n3_ n4_
                have n0_ := Aside0.mk (Kd.R_drew HO_3.out)
                have n1_ := Aside0.mk (Kd.R_drew HO_4.out)
                have n2_ := Aside0.mk (kD BK436.out)
                have n3_ := Aside0.mk (kD BK437.out)
                have n4_ := Aside0.mk (lD HB.out)
                clear HO_3
                clear HO_4
                clear BK436
                clear BK437
                clear HB
                have HO_3 := n0_
                have HO_4 := n1_
                have BK436 := n2_
                have BK437 := n3_
                have HB := n4_
                clear n0_ n1_ n2_ n3_ n4_
                refine start_ (n := 15) (S := fun w' => True) (ds := []) (Bs 0 15) (by kernel_rfl) rfl rfl trivial (fun hHeld => ?_); refine with_tabW silversidelaw01_PlaneCorners.tab10 silversidelaw01_PlaneCorners.bits10 (fun HT_ HW_ => ?_)
                generalize w37.drew = w38 at HO_3 HO_4 BK436 BK437 HB hHeld ⊢
                refine pure_ (i := 0) (N := some 53) (v := ?_) (a' := ?_) (Bs 1 15) rfl rfl (any_of HT_.out (by kernel_rfl)) (fun _ _ _ h => h) (Or.inl ⟨by rfl, ?_⟩) ?_ ?_; rotate_left
                ·intro w'; go_simp; with_reducible rfl
                rotate_left
                ·simp only [Act.put, sA, sB, sC, i64_w, i32_w]; rfl
                refine pure_ (i := 1) (N := some 54) (v := ?_) (a' := ?_) (Bs 2 15) rfl rfl (any_of HT_.out (by kernel_rfl)) (fun _ _ _ h => h) (Or.inl ⟨by rfl, ?_⟩) ?_ ?_; rotate_left
                ·intro w'; go_simp; with_reducible rfl
                rotate_left
                ·simp only [Act.put, sA, sB, sC, i64_w, i32_w]; rfl
                refine pure_ (i := 2) (N := some 55) (v := ?_) (a' := ?_) (Bs 3 15) rfl rfl (any_of HT_.out (by kernel_rfl)) (fun _ _ _ h => h) (Or.inl ⟨by rfl, ?_⟩) ?_ ?_; rotate_left
                ·intro w'; go_simp; with_reducible rfl
                rotate_left
                ·simp only [Act.put, sA, sB, sC, i64_w, i32_w]; rfl
                refine pure_ (i := 3) (N := some 56) (v := undef) (a' := ?_) (Bs 4 15) rfl rfl (any_of HT_.out (by kernel_rfl)) (fun _ _ _ h => h) (Or.inr ⟨by rfl, rfl⟩) ?_ ?_; rotate_left
                ·simp only [Act.put, sA, sB, sC, i64_w, i32_w]; rfl
                refine pure_ (i := 4) (N := some 57) (v := undef) (a' := ?_) (Bs 5 15) rfl rfl (any_of HT_.out (by kernel_rfl)) (fun _ _ _ h => h) (Or.inr ⟨by rfl, rfl⟩) ?_ ?_; rotate_left
                ·simp only [Act.put, sA, sB, sC, i64_w, i32_w]; rfl
                refine pure_ (i := 5) (N := some 58) (v := undef) (a' := ?_) (Bs 6 15) rfl rfl (any_of HT_.out (by kernel_rfl)) (fun _ _ _ h => h) (Or.inr ⟨by rfl, rfl⟩) ?_ ?_; rotate_left
                ·simp only [Act.put, sA, sB, sC, i64_w, i32_w]; rfl
                refine pure_ (i := 6) (N := some 59) (v := undef) (a' := ?_) (Bs 7 15) rfl rfl (any_of HT_.out (by kernel_rfl)) (fun _ _ _ h => h) (Or.inr ⟨by rfl, rfl⟩) ?_ ?_; rotate_left
                ·simp only [Act.put, sA, sB, sC, i64_w, i32_w]; rfl
                refine pure_ (i := 7) (N := some 60) (v := undef) (a' := ?_) (Bs 8 15) rfl rfl (any_of HT_.out (by kernel_rfl)) (fun _ _ _ h => h) (Or.inr ⟨by rfl, rfl⟩) ?_ ?_; rotate_left
                ·simp only [Act.put, sA, sB, sC, i64_w, i32_w]; rfl
                refine pure_ (i := 8) (N := some 61) (v := undef) (a' := ?_) (Bs 9 15) rfl rfl (any_of HT_.out (by kernel_rfl)) (fun _ _ _ h => h) (Or.inr ⟨by rfl, rfl⟩) ?_ ?_; rotate_left
                ·simp only [Act.put, sA, sB, sC, i64_w, i32_w]; rfl
                refine pure_ (i := 9) (N := some 62) (v := undef) (a' := ?_) (Bs 10 15) rfl rfl (any_of HT_.out (by kernel_rfl)) (fun _ _ _ h => h) (Or.inr ⟨by rfl, rfl⟩) ?_ ?_; rotate_left
                ·simp only [Act.put, sA, sB, sC, i64_w, i32_w]; rfl
                refine pure_ (i := 10) (N := some 63) (v := undef) (a' := ?_) (Bs 11 15) rfl rfl (any_of HT_.out (by kernel_rfl)) (fun _ _ _ h => h) (Or.inr ⟨by rfl, rfl⟩) ?_ ?_; rotate_left
                ·simp only [Act.put, sA, sB, sC, i64_w, i32_w]; rfl
                refine pure_ (i := 11) (N := some 64) (v := undef) (a' := ?_) (Bs 12 15) rfl rfl (any_of HT_.out (by kernel_rfl)) (fun _ _ _ h => h) (Or.inr ⟨by rfl, rfl⟩) ?_ ?_; rotate_left
                ·simp only [Act.put, sA, sB, sC, i64_w, i32_w]; rfl
                refine pure_ (i := 12) (N := some 65) (v := undef) (a' := ?_) (Bs 13 15) rfl rfl (any_of HT_.out (by kernel_rfl)) (fun _ _ _ h => h) (Or.inr ⟨by rfl, rfl⟩) ?_ ?_; rotate_left
                ·simp only [Act.put, sA, sB, sC, i64_w, i32_w]; rfl
                refine pure_ (i := 13) (N := some 66) (v := undef) (a' := ?_) (Bs 14 15) rfl rfl (any_of HT_.out (by kernel_rfl)) (fun _ _ _ h => h) (Or.inr ⟨by rfl, rfl⟩) ?_ ?_; rotate_left
                ·simp only [Act.put, sA, sB, sC, i64_w, i32_w]; rfl
                refine pure_ (i := 14) (N := some 67) (v := ?_) (a' := ?_) (Bs 15 15) rfl rfl (any_of HT_.out (by kernel_rfl)) (fun _ _ _ h => h) (Or.inl ⟨by rfl, ?_⟩) ?_ ?_; rotate_left
                ·intro w'; go_simp; with_reducible rfl
                rotate_left
                ·simp only [Act.put, sA, sB, sC, i64_w, i32_w]; rfl
                refine done_ (done_of HT_.out (by kernel_rfl)) ?_
                try go_wp2
                go_meet
                case rel => exact ⟨_, (false), (by first | rfl | (simp; done) | (simp [*]; done)), H', ⟨by have := HJ3.out; have := HK2.out; have := HJ10.out; first | omega | exact Nat.le_refl _⟩, ⟨by (with_reducible repeat (first | apply Kd.R_alloc | apply Kd.R_drewN | apply Kd.R_drew)); exact HO_3.out⟩, ⟨by (with_reducible repeat (first | apply Kd.R_alloc | apply Kd.R_drewN | apply Kd.R_drew)); exact HO_4.out⟩, ⟨by (with_reducible repeat (first | refine kN ?_ _ | refine kD ?_ | refine kA ?_ _)); exact BK436.out⟩, ⟨by (with_reducible repeat (first | refine kN ?_ _ | refine kD ?_ | refine kA ?_ _)); exact BK437.out⟩, ⟨by repeat (first | (with_reducible first | exact HB.out | apply lA | apply lN | apply lD | refine lS ?_ GE436.out | refine lS ?_ GE437.out) | exact HB.out)⟩⟩
              case rest =>
               clear HC20
               try clear c2
               try clear p2
               try clear c3
               try clear p4
               try clear q4
               try clear hx4
               try clear p6
               try clear c29
               try clear c29b0
               try clear c29b1
               try clear c31
               try clear c31b0
               try clear c32
               try clear c32b0
               try clear c38
               try clear hx438_0
               try clear hx438_1
               try clear p438
               try clear q438
               obtain ⟨kq, x67_19, rfl, HA, HJ19, HO_3, HO_4, BK436, BK437, HB⟩ := hcut
               cases kq with
               | zero => exact absurd HA.out (by simp [silversidelaw01_PlaneCorners.j3])
               | succ kj19 =>
                have H := HA.out
                clear HA
                simp only [silversidelaw01_PlaneCorners.j3] at H
                by_cases c39 : x67_19 = true
                ·subst c39
                 have H1 : (some false) = some r := by rw [if_pos rfl] at H; exact H
                 clear H
                 have H := H1
                 clear H1
                 obtain rfl := Option.some.inj H
                 go_wp2
                 go_ret
                 exact ⟨by first | rfl | (simp [errW_none, errW_some] <;> rfl) | (simp only [← hji17]; first | rfl | (simp [errW_none, errW_some] <;> rfl)) | (simp [*, errW_none, errW_some] <;> rfl), by repeat (first | (with_reducible first | exact HB.out | apply lA | apply lN | apply lD | refine lS ?_ GE436.out | refine lS ?_ GE437.out) | exact HB.out)⟩
                ·replace c39 := Bool.eq_false_iff.mpr c39
                 subst c39
                 have H1 : (silversidelaw01_PlaneCorners.l1 kj19 t427 t430 (t430.length : Int) x7_2 0 ((rd_T31 t430 x7_2).f0) ((rd_T31 t430 x7_2).f1) ((rd_T31 t430 (ji17)).f0) ((rd_T31 t430 (ji17)).f1)) = some r := by rw [if_neg (show ¬ (false = true) by decide)] at H; exact H
                 clear H
                 have H := H1
                 clear H1
                 have H' := Aside0.mk H
                 clear H
                 go_wp2
                 go_loopg [10] kj19 (fun kq v10 w' => ∃ (x10_5 : Int), v10 = .int .i64 x10_5 ∧ Aside0 (silversidelaw01_PlaneCorners.l1 kq t427 t430 (t430.length : Int) x7_2 x10_5 ((rd_T31 t430 x7_2).f0) ((rd_T31 t430 x7_2).f1) ((rd_T31 t430 (ji17)).f0) ((rd_T31 t430 (ji17)).f1) = some r) ∧ Aside0 (kq ≤ kj19) ∧ Aside0 (Kd.R k31 31 w' w.heap.size (fun k_ => some k_ ≠ ((.slice (some ad434) t430.length co8) : Value).ownBlock ∧ k_ ≠ gb436 ∧ k_ ≠ gb437) (.slice Ao6 t427.length co6) t427) ∧ Aside0 (Kd.R k31 31 w' w.heap.size (fun k_ => some k_ ≠ ((.slice Ao6 t427.length co6) : Value).ownBlock ∧ k_ ≠ gb436 ∧ k_ ≠ gb437) (.slice (some ad434) t430.length co8) t430) ∧ Aside0 (w'.heap[gb436]? = some (.cells #[.int .i64 ((rd_T31 t430 x7_2).f0), .int .i64 ((rd_T31 t430 x7_2).f1)] 31 (0, 0))) ∧ Aside0 (w'.heap[gb437]? = some (.cells #[.int .i64 ((rd_T31 t430 (ji17)).f0), .int .i64 ((rd_T31 t430 (ji17)).f1)] 31 (0, 0))) ∧ Aside0 (Below w.heap.size w w'))
                 case atStart => exact ⟨(0), (by first | rfl | (simp; done) | (simp [*]; done)), H', ⟨Nat.le_refl _⟩, ⟨by (with_reducible repeat (first | apply Kd.R_alloc | apply Kd.R_drewN | apply Kd.R_drew)); exact HO_3.out⟩, ⟨by (with_reducible repeat (first | apply Kd.R_alloc | apply Kd.R_drewN | apply Kd.R_drew)); exact HO_4.out⟩, ⟨by (with_reducible repeat (first | refine kN ?_ _ | refine kD ?_ | refine kA ?_ _)); exact BK436.out⟩, ⟨by (with_reducible repeat (first | refine kN ?_ _ | refine kD ?_ | refine kA ?_ _)); exact BK437.out⟩, ⟨by repeat (first | (with_reducible first | exact HB.out | apply lA | apply lN | apply lD | refine lS ?_ GE436.out | refine lS ?_ GE437.out) | exact HB.out)⟩⟩
                 case round =>
                  clear H'
                  try clear c2
                  try clear p2
                  try clear c3
                  try clear p4
                  try clear q4
                  try clear hx4
                  try clear p6
                  try clear c29
                  try clear c29b0
                  try clear c29b1
                  try clear c31
                  try clear c31b0
                  try clear c32
                  try clear c32b0
                  try clear c38
                  try clear c39
                  try clear hx438_0
                  try clear hx438_1
                  try clear p2
                  try clear p4
                  try clear p438
                  try clear p6
                  try clear q4
                  try clear q438
                  obtain ⟨x10_5, rfl, HA, HK5, HO_3, HO_4, BK436, BK437, HB⟩ := hrel
                  cases gk with
                  | zero => exact absurd HA.out (by simp [silversidelaw01_PlaneCorners.l1])
                  | succ k5 =>
                   have H := HA.out
                   clear HA
                   simp only [silversidelaw01_PlaneCorners.l1] at H
                   by_cases c40 : x10_5 < (t427.length : Int)
                   ·rw [if_pos c40] at H
                    have c40b0 : decide (x10_5 < (t427.length : Int)) = true := decide_eq_true c40
                    clear c40
                    by_cases c41 : 0 ≤ x10_5
                    ·rw [if_pos c41] at H
                     have c41b0 : decide (0 ≤ x10_5) = true := decide_eq_true c41
                     clear c41
                     replace H := Option.bind_eq_some_iff.mp H
                     obtain ⟨t441, A420, H⟩ := H
                     replace H : (if t441 = 0 then (silversidelaw01_PlaneCorners.l1 k5 t427 t430 (t430.length : Int) x7_2 (wrap64 (x10_5 + 1)) ((rd_T31 t430 x7_2).f0) ((rd_T31 t430 x7_2).f1) ((rd_T31 t430 (ji17)).f0) ((rd_T31 t430 (ji17)).f1)) else (if t441 = 1 then (silversidelaw01_PlaneCorners.l1 k5 t427 t430 (t430.length : Int) x7_2 (wrap64 (x10_5 + 1)) ((rd_T31 t430 x7_2).f0) ((rd_T31 t430 x7_2).f1) ((rd_T31 t430 (ji17)).f0) ((rd_T31 t430 (ji17)).f1)) else (some false))) = some r := H
                     have A42 := Aside0.mk A420
                     clear A420
                     by_cases c43 : t441 = 0
                     ·rw [if_pos c43] at H
                      have c43b0 : (t441 == 0) = true := beq_iff_eq.mpr c43
                      have c43b1 : (t441 != 0) = false := bne_eq_false_iff_eq.mpr c43
                      clear c43
                      have H' := Aside0.mk H
                      clear H
                      try go_wp2
                      have n0_ := Aside0.mk (Kd.R_drew HO_3.out)
                      have n1_ := Aside0.mk (Kd.R_drew HO_4.out)
                      have n2_ := Aside0.mk (kD BK436.out)
                      have n3_ := Aside0.mk (kD BK437.out)
                      have n4_ := Aside0.mk (lD HB.out)
                      clear HO_3
                      clear HO_4
                      clear BK436
                      clear BK437
                      clear HB
                      have HO_3 := n0_
                      have HO_4 := n1_
                      have BK436 := n2_
                      have BK437 := n3_
                      have HB := n4_
                      clear n0_ n1_ n2_ n3_ n4_
                      have p440 : 0 ≤ (x10_5 : Int) := of_decide_eq_true (by first | (with_reducible assumption) | assumption)
                      have q440 : x10_5 < (t427.length : Int) := of_decide_eq_true (by first | (with_reducible assumption) | assumption)
                      obtain ⟨ad440, e440, hx440_0, hx440_1⟩ := at_T31 (Kd.R_reads' HO_3.out).2.2 x10_5 p440 q440
                      cases e440
                      replace p440 := eq_true p440
                      replace q440 := eq_true q440
                      refine start_ (n := 8) (S := fun w' => w'.cell? ⟨gb436, 0, none⟩ = some (.int .i64 ((rd_T31 t430 x7_2).f0)) ∧ w'.cell? ⟨gb436, 1, none⟩ = some (.int .i64 ((rd_T31 t430 x7_2).f1)) ∧ w'.cell? ⟨gb437, 0, none⟩ = some (.int .i64 ((rd_T31 t430 (ji17)).f0)) ∧ w'.cell? ⟨gb437, 1, none⟩ = some (.int .i64 ((rd_T31 t430 (ji17)).f1)) ∧ w'.cell? (ad440.add ((x10_5).toNat * 2)) = some (.int .i64 ((rd_T31 t427 x10_5).f0)) ∧ w'.cell? ⟨(ad440.add ((x10_5).toNat * 2)).block, (ad440.add ((x10_5).toNat * 2)).off + 1, none⟩ = some (.int .i64 ((rd_T31 t427 x10_5).f1))) (ds := []) (Bs 0 8) (by kernel_rfl) rfl rfl ⟨(blk_cell BK436.out 0).trans rfl, (blk_cell BK436.out 1).trans rfl, (blk_cell BK437.out 0).trans rfl, (blk_cell BK437.out 1).trans rfl, hx440_0, hx440_1⟩ (fun hHeld => ?_); refine with_tabW silversidelaw01_PlaneCorners.tab15 silversidelaw01_PlaneCorners.bits15 (fun HT_ HW_ => ?_)
                      generalize wr.drew = w44 at HO_3 HO_4 BK436 BK437 HB hx440_0 hx440_1 hHeld ⊢
                      refine pure_ (i := 2) (N := some 76) (v := ?_) (a' := ?_) #[φ,φ,τ,φ,φ,φ,φ,φ] rfl rfl (any_of HT_.out (by kernel_rfl)) (fun _ _ _ h => h) (Or.inl ⟨by rfl, ?_⟩) ?_ ?_; rotate_left
                      ·intro w'; go_simp; with_reducible rfl
                      rotate_left
                      ·simp only [Act.put, sA, sB, sC, i64_w, i32_w]; rfl
                      refine pure_ (i := 3) (N := some 77) (v := ?_) (a' := ?_) #[φ,φ,τ,τ,φ,φ,φ,φ] rfl rfl (any_of HT_.out (by kernel_rfl)) (fun _ _ _ h => h) (Or.inl ⟨by rfl, ?_⟩) ?_ ?_; rotate_left
                      ·intro w'; go_simp; with_reducible rfl
                      rotate_left
                      ·simp only [Act.put, sA, sB, sC, i64_w, i32_w]; rfl
                      refine pure_ (i := 4) (N := some 78) (v := ?_) (a' := ?_) #[φ,φ,τ,τ,τ,φ,φ,φ] rfl rfl (any_of HT_.out (by kernel_rfl)) (fun _ _ _ h => h) (Or.inl ⟨by rfl, ?_⟩) ?_ ?_; rotate_left
                      ·intro w'; go_simp; with_reducible rfl
                      rotate_left
                      ·simp only [Act.put, sA, sB, sC, i64_w, i32_w]; rfl
                      refine take_ (i := 0) (N := some 74) (v := ?_) (a' := ?_) #[τ,φ,τ,τ,τ,φ,φ,φ] rfl rfl (take_ofW HT_.out HW_.out (by kernel_rfl)) (fun _ _ _ h => h) (Or.inl ⟨by rfl, ?_⟩) hHeld ?_ ?_; rotate_left
                      ·rintro w' ⟨s0, s1, s2, s3, s4, s5⟩; go_simp; with_reducible rfl
                      rotate_left
                      ·simp only [Act.put, sA, sB, sC, i64_w, i32_w]; rfl
                      refine take_ (i := 1) (N := some 75) (v := ?_) (a' := ?_) (Bs 5 8) rfl rfl (take_ofW HT_.out HW_.out (by kernel_rfl)) (fun _ _ _ h => h) (Or.inl ⟨by rfl, ?_⟩) hHeld ?_ ?_; rotate_left
                      ·rintro w' ⟨s0, s1, s2, s3, s4, s5⟩; go_simp; with_reducible rfl
                      rotate_left
                      ·simp only [Act.put, sA, sB, sC, i64_w, i32_w]; rfl
                      refine take_ (i := 5) (N := some 79) (v := ?_) (a' := ?_) (Bs 6 8) rfl rfl (take_ofW HT_.out HW_.out (by kernel_rfl)) (fun _ _ _ h => h) (Or.inl ⟨by rfl, ?_⟩) hHeld ?_ ?_; rotate_left
                      ·rintro w' ⟨s0, s1, s2, s3, s4, s5⟩; go_simp; with_reducible rfl
                      rotate_left
                      ·simp only [Act.put, sA, sB, sC, i64_w, i32_w]; rfl
                      refine one_ (i := 6) (N := some 80) (Bs 7 8) rfl rfl (one_of HT_.out (by kernel_rfl)) (by decide) (fun K hK => ?_)
                      refine goes_ Try.func38 (by kernel_rfl) rfl #[.agg #[.int .i64 ((rd_T31 t430 x7_2).f0), .int .i64 ((rd_T31 t430 x7_2).f1)], .agg #[.int .i64 ((rd_T31 t430 (ji17)).f0), .int .i64 ((rd_T31 t430 (ji17)).f1)], .agg #[.int .i64 ((rd_T31 t427 x10_5).f0), .int .i64 ((rd_T31 t427 x10_5).f1)]] (by rfl) rfl rfl (by (try simp only [List.map_toArray, List.map_cons, List.map_nil]); first | done | (simp only [hji17]; rfl) | rfl | (simp only [List.length_drop, List.length_take]; rfl)) ?_
                      with_reducible refine (silversidelaw01_turn.calls ((rd_T31 t430 x7_2).f0) ((rd_T31 t430 x7_2).f1) ((rd_T31 t430 (ji17)).f0) ((rd_T31 t430 (ji17)).f1) ((rd_T31 t427 x10_5).f0) ((rd_T31 t427 x10_5).f1) t441 _ A42.out).mono ?_
                      rintro e w45 ⟨rfl, hb⟩
                      have HS4_ := (hb.cell (World.block_lt_of_cell? _ _ (hHeld.2.2.2.2.1))).trans (hHeld.2.2.2.2.1)
                      have HS5_ := (hb.cell (World.block_lt_of_cell? _ _ (hHeld.2.2.2.2.2))).trans (hHeld.2.2.2.2.2)
                      refine ⟨_, rfl, ?_⟩
                      have n0_ := Aside0.mk (Kd.R_below (by (with_reducible repeat (first | apply Kd.R_alloc | apply Kd.R_drewN | apply Kd.R_drew)); exact HO_3.out) hb)
                      have n1_ := Aside0.mk (Kd.R_below (by (with_reducible repeat (first | apply Kd.R_alloc | apply Kd.R_drewN | apply Kd.R_drew)); exact HO_4.out) hb)
                      have n2_ := Aside0.mk (blk_below (g := gb436) (o := .cells #[.int .i64 ((rd_T31 t430 x7_2).f0), .int .i64 ((rd_T31 t430 x7_2).f1)] 31 (0, 0)) (kX BK436.out) hb)
                      have n3_ := Aside0.mk (blk_below (g := gb437) (o := .cells #[.int .i64 ((rd_T31 t430 (ji17)).f0), .int .i64 ((rd_T31 t430 (ji17)).f1)] 31 (0, 0)) (kX BK437.out) hb)
                      have n4_ := Aside0.mk (below_step (by repeat (first | (with_reducible first | exact HB.out | apply lA | apply lN | apply lD | refine lS ?_ GE436.out | refine lS ?_ GE437.out) | exact HB.out)) hb)
                      clear HO_3
                      clear HO_4
                      clear BK436
                      clear BK437
                      clear HB
                      have HO_3 := n0_
                      have HO_4 := n1_
                      have BK436 := n2_
                      have BK437 := n3_
                      have HB := n4_
                      clear n0_ n1_ n2_ n3_ n4_
                      (try clear hb)
                      (try clear hb2)
                      (try clear hk)
                      (try clear hi)
                      refine hK.out _ _ ⟨(blk_cell BK436.out 0).trans rfl, (blk_cell BK436.out 1).trans rfl, (blk_cell BK437.out 0).trans rfl, (blk_cell BK437.out 1).trans rfl, HS4_, HS5_⟩ (fun hHeld => ?_)
                      clear hK K
                      refine norm_ (a' := ?_) ?_ ?_
                      rotate_left
                      ·show Act.put _ (some 80) _ = _
                       simp only [Act.put, sA, sB, sC, i64_w, i32_w]
                       rfl
                      refine pure_ (i := 7) (N := some 11) (v := ?_) (a' := ?_) (Bs 8 8) rfl rfl (any_of HT_.out (by kernel_rfl)) (fun _ _ _ h => h) (Or.inl ⟨by rfl, ?_⟩) ?_ ?_; rotate_left
                      ·intro w'; go_simp; with_reducible rfl
                      rotate_left
                      ·simp only [Act.put, sA, sB, sC, i64_w, i32_w]; rfl
                      refine done_ (done_of HT_.out (by kernel_rfl)) ?_
                      try go_wp2
                      go_roundg k5
                      case measure => have := HJ3.out; have := HK2.out; have := HJ10.out; have := HJ19.out; have := HK5.out; omega
                      case rel => exact ⟨(wrap64 (x10_5 + 1)), (by first | rfl | (simp; done) | (simp [*]; done)), H', ⟨by have := HJ3.out; have := HK2.out; have := HJ10.out; have := HJ19.out; have := HK5.out; omega⟩, ⟨by (with_reducible repeat (first | apply Kd.R_alloc | apply Kd.R_drewN | apply Kd.R_drew)); exact HO_3.out⟩, ⟨by (with_reducible repeat (first | apply Kd.R_alloc | apply Kd.R_drewN | apply Kd.R_drew)); exact HO_4.out⟩, ⟨by (with_reducible repeat (first | refine kN ?_ _ | refine kD ?_ | refine kA ?_ _)); exact BK436.out⟩, ⟨by (with_reducible repeat (first | refine kN ?_ _ | refine kD ?_ | refine kA ?_ _)); exact BK437.out⟩, ⟨by repeat (first | (with_reducible first | exact HB.out | apply lA | apply lN | apply lD | refine lS ?_ GE436.out | refine lS ?_ GE437.out) | exact HB.out)⟩⟩
                     ·rw [if_neg c43] at H
                      have c43b0 : (t441 == 0) = false := beq_eq_false_iff_ne.mpr c43
                      have c43b1 : (t441 != 0) = true := bne_iff_ne.mpr c43
                      by_cases c46 : t441 = 1
                      ·rw [if_pos c46] at H
                       have c46b0 : (t441 == 1) = true := beq_iff_eq.mpr c46
                       have c46b1 : (t441 != 1) = false := bne_eq_false_iff_eq.mpr c46
                       clear c46
                       have H' := Aside0.mk H
                       clear H
                       try go_wp2
                       have n0_ := Aside0.mk (Kd.R_drew HO_3.out)
                       have n1_ := Aside0.mk (Kd.R_drew HO_4.out)
                       have n2_ := Aside0.mk (kD BK436.out)
                       have n3_ := Aside0.mk (kD BK437.out)
                       have n4_ := Aside0.mk (lD HB.out)
                       clear HO_3
                       clear HO_4
                       clear BK436
                       clear BK437
                       clear HB
                       have HO_3 := n0_
                       have HO_4 := n1_
                       have BK436 := n2_
                       have BK437 := n3_
                       have HB := n4_
                       clear n0_ n1_ n2_ n3_ n4_
                       have p440 : 0 ≤ (x10_5 : Int) := of_decide_eq_true (by first | (with_reducible assumption) | assumption)
                       have q440 : x10_5 < (t427.length : Int) := of_decide_eq_true (by first | (with_reducible assumption) | assumption)
                       obtain ⟨ad440, e440, hx440_0, hx440_1⟩ := at_T31 (Kd.R_reads' HO_3.out).2.2 x10_5 p440 q440
                       cases e440
                       replace p440 := eq_true p440
                       replace q440 := eq_true q440
                       refine start_ (n := 8) (S := fun w' => w'.cell? ⟨gb436, 0, none⟩ = some (.int .i64 ((rd_T31 t430 x7_2).f0)) ∧ w'.cell? ⟨gb436, 1, none⟩ = some (.int .i64 ((rd_T31 t430 x7_2).f1)) ∧ w'.cell? ⟨gb437, 0, none⟩ = some (.int .i64 ((rd_T31 t430 (ji17)).f0)) ∧ w'.cell? ⟨gb437, 1, none⟩ = some (.int .i64 ((rd_T31 t430 (ji17)).f1)) ∧ w'.cell? (ad440.add ((x10_5).toNat * 2)) = some (.int .i64 ((rd_T31 t427 x10_5).f0)) ∧ w'.cell? ⟨(ad440.add ((x10_5).toNat * 2)).block, (ad440.add ((x10_5).toNat * 2)).off + 1, none⟩ = some (.int .i64 ((rd_T31 t427 x10_5).f1))) (ds := []) (Bs 0 8) (by kernel_rfl) rfl rfl ⟨(blk_cell BK436.out 0).trans rfl, (blk_cell BK436.out 1).trans rfl, (blk_cell BK437.out 0).trans rfl, (blk_cell BK437.out 1).trans rfl, hx440_0, hx440_1⟩ (fun hHeld => ?_); refine with_tabW silversidelaw01_PlaneCorners.tab15 silversidelaw01_PlaneCorners.bits15 (fun HT_ HW_ => ?_)
                       generalize wr.drew = w47 at HO_3 HO_4 BK436 BK437 HB hx440_0 hx440_1 hHeld ⊢
                       refine pure_ (i := 2) (N := some 76) (v := ?_) (a' := ?_) #[φ,φ,τ,φ,φ,φ,φ,φ] rfl rfl (any_of HT_.out (by kernel_rfl)) (fun _ _ _ h => h) (Or.inl ⟨by rfl, ?_⟩) ?_ ?_; rotate_left
                       ·intro w'; go_simp; with_reducible rfl
                       rotate_left
                       ·simp only [Act.put, sA, sB, sC, i64_w, i32_w]; rfl
                       refine pure_ (i := 3) (N := some 77) (v := ?_) (a' := ?_) #[φ,φ,τ,τ,φ,φ,φ,φ] rfl rfl (any_of HT_.out (by kernel_rfl)) (fun _ _ _ h => h) (Or.inl ⟨by rfl, ?_⟩) ?_ ?_; rotate_left
                       ·intro w'; go_simp; with_reducible rfl
                       rotate_left
                       ·simp only [Act.put, sA, sB, sC, i64_w, i32_w]; rfl
                       refine pure_ (i := 4) (N := some 78) (v := ?_) (a' := ?_) #[φ,φ,τ,τ,τ,φ,φ,φ] rfl rfl (any_of HT_.out (by kernel_rfl)) (fun _ _ _ h => h) (Or.inl ⟨by rfl, ?_⟩) ?_ ?_; rotate_left
                       ·intro w'; go_simp; with_reducible rfl
                       rotate_left
                       ·simp only [Act.put, sA, sB, sC, i64_w, i32_w]; rfl
                       refine take_ (i := 0) (N := some 74) (v := ?_) (a' := ?_) #[τ,φ,τ,τ,τ,φ,φ,φ] rfl rfl (take_ofW HT_.out HW_.out (by kernel_rfl)) (fun _ _ _ h => h) (Or.inl ⟨by rfl, ?_⟩) hHeld ?_ ?_; rotate_left
                       ·rintro w' ⟨s0, s1, s2, s3, s4, s5⟩; go_simp; with_reducible rfl
                       rotate_left
                       ·simp only [Act.put, sA, sB, sC, i64_w, i32_w]; rfl
                       refine take_ (i := 1) (N := some 75) (v := ?_) (a' := ?_) (Bs 5 8) rfl rfl (take_ofW HT_.out HW_.out (by kernel_rfl)) (fun _ _ _ h => h) (Or.inl ⟨by rfl, ?_⟩) hHeld ?_ ?_; rotate_left
                       ·rintro w' ⟨s0, s1, s2, s3, s4, s5⟩; go_simp; with_reducible rfl
                       rotate_left
                       ·simp only [Act.put, sA, sB, sC, i64_w, i32_w]; rfl
                       refine take_ (i := 5) (N := some 79) (v := ?_) (a' := ?_) (Bs 6 8) rfl rfl (take_ofW HT_.out HW_.out (by kernel_rfl)) (fun _ _ _ h => h) (Or.inl ⟨by rfl, ?_⟩) hHeld ?_ ?_; rotate_left
                       ·rintro w' ⟨s0, s1, s2, s3, s4, s5⟩; go_simp; with_reducible rfl
                       rotate_left
                       ·simp only [Act.put, sA, sB, sC, i64_w, i32_w]; rfl
                       refine one_ (i := 6) (N := some 80) (Bs 7 8) rfl rfl (one_of HT_.out (by kernel_rfl)) (by decide) (fun K hK => ?_)
                       refine goes_ Try.func38 (by kernel_rfl) rfl #[.agg #[.int .i64 ((rd_T31 t430 x7_2).f0), .int .i64 ((rd_T31 t430 x7_2).f1)], .agg #[.int .i64 ((rd_T31 t430 (ji17)).f0), .int .i64 ((rd_T31 t430 (ji17)).f1)], .agg #[.int .i64 ((rd_T31 t427 x10_5).f0), .int .i64 ((rd_T31 t427 x10_5).f1)]] (by rfl) rfl rfl (by (try simp only [List.map_toArray, List.map_cons, List.map_nil]); first | done | (simp only [hji17]; rfl) | rfl | (simp only [List.length_drop, List.length_take]; rfl)) ?_
                       with_reducible refine (silversidelaw01_turn.calls ((rd_T31 t430 x7_2).f0) ((rd_T31 t430 x7_2).f1) ((rd_T31 t430 (ji17)).f0) ((rd_T31 t430 (ji17)).f1) ((rd_T31 t427 x10_5).f0) ((rd_T31 t427 x10_5).f1) t441 _ A42.out).mono ?_
                       rintro e w48 ⟨rfl, hb⟩
                       have HS4_ := (hb.cell (World.block_lt_of_cell? _ _ (hHeld.2.2.2.2.1))).trans (hHeld.2.2.2.2.1)
                       have HS5_ := (hb.cell (World.block_lt_of_cell? _ _ (hHeld.2.2.2.2.2))).trans (hHeld.2.2.2.2.2)
                       refine ⟨_, rfl, ?_⟩
                       have n0_ := Aside0.mk (Kd.R_below (by (with_reducible repeat (first | apply Kd.R_alloc | apply Kd.R_drewN | apply Kd.R_drew)); exact HO_3.out) hb)
                       have n1_ := Aside0.mk (Kd.R_below (by (with_reducible repeat (first | apply Kd.R_alloc | apply Kd.R_drewN | apply Kd.R_drew)); exact HO_4.out) hb)
                       have n2_ := Aside0.mk (blk_below (g := gb436) (o := .cells #[.int .i64 ((rd_T31 t430 x7_2).f0), .int .i64 ((rd_T31 t430 x7_2).f1)] 31 (0, 0)) (kX BK436.out) hb)
                       have n3_ := Aside0.mk (blk_below (g := gb437) (o := .cells #[.int .i64 ((rd_T31 t430 (ji17)).f0), .int .i64 ((rd_T31 t430 (ji17)).f1)] 31 (0, 0)) (kX BK437.out) hb)
                       have n4_ := Aside0.mk (below_step (by repeat (first | (with_reducible first | exact HB.out | apply lA | apply lN | apply lD | refine lS ?_ GE436.out | refine lS ?_ GE437.out) | exact HB.out)) hb)
                       clear HO_3
                       clear HO_4
                       clear BK436
                       clear BK437
                       clear HB
                       have HO_3 := n0_
                       have HO_4 := n1_
                       have BK436 := n2_
                       have BK437 := n3_
                       have HB := n4_
                       clear n0_ n1_ n2_ n3_ n4_
                       (try clear hb)
                       (try clear hb2)
                       (try clear hk)
                       (try clear hi)
                       refine hK.out _ _ ⟨(blk_cell BK436.out 0).trans rfl, (blk_cell BK436.out 1).trans rfl, (blk_cell BK437.out 0).trans rfl, (blk_cell BK437.out 1).trans rfl, HS4_, HS5_⟩ (fun hHeld => ?_)
                       clear hK K
                       refine norm_ (a' := ?_) ?_ ?_
                       rotate_left
                       ·show Act.put _ (some 80) _ = _
                        simp only [Act.put, sA, sB, sC, i64_w, i32_w]
                        rfl
                       refine pure_ (i := 7) (N := some 11) (v := ?_) (a' := ?_) (Bs 8 8) rfl rfl (any_of HT_.out (by kernel_rfl)) (fun _ _ _ h => h) (Or.inl ⟨by rfl, ?_⟩) ?_ ?_; rotate_left
                       ·intro w'; go_simp; with_reducible rfl
                       rotate_left
                       ·simp only [Act.put, sA, sB, sC, i64_w, i32_w]; rfl
                       refine done_ (done_of HT_.out (by kernel_rfl)) ?_
                       try go_wp2
                       go_roundg k5
                       case measure => have := HJ3.out; have := HK2.out; have := HJ10.out; have := HJ19.out; have := HK5.out; omega
                       case rel => exact ⟨(wrap64 (x10_5 + 1)), (by first | rfl | (simp; done) | (simp [*]; done)), H', ⟨by have := HJ3.out; have := HK2.out; have := HJ10.out; have := HJ19.out; have := HK5.out; omega⟩, ⟨by (with_reducible repeat (first | apply Kd.R_alloc | apply Kd.R_drewN | apply Kd.R_drew)); exact HO_3.out⟩, ⟨by (with_reducible repeat (first | apply Kd.R_alloc | apply Kd.R_drewN | apply Kd.R_drew)); exact HO_4.out⟩, ⟨by (with_reducible repeat (first | refine kN ?_ _ | refine kD ?_ | refine kA ?_ _)); exact BK436.out⟩, ⟨by (with_reducible repeat (first | refine kN ?_ _ | refine kD ?_ | refine kA ?_ _)); exact BK437.out⟩, ⟨by repeat (first | (with_reducible first | exact HB.out | apply lA | apply lN | apply lD | refine lS ?_ GE436.out | refine lS ?_ GE437.out) | exact HB.out)⟩⟩
                      ·rw [if_neg c46] at H
                       have c46b0 : (t441 == 1) = false := beq_eq_false_iff_ne.mpr c46
                       have c46b1 : (t441 != 1) = true := bne_iff_ne.mpr c46
                       obtain rfl := Option.some.inj H
                       try go_wp2
                       have n0_ := Aside0.mk (Kd.R_drew HO_3.out)
                       have n1_ := Aside0.mk (Kd.R_drew HO_4.out)
                       have n2_ := Aside0.mk (kD BK436.out)
                       have n3_ := Aside0.mk (kD BK437.out)
                       have n4_ := Aside0.mk (lD HB.out)
                       clear HO_3
                       clear HO_4
                       clear BK436
                       clear BK437
                       clear HB
                       have HO_3 := n0_
                       have HO_4 := n1_
                       have BK436 := n2_
                       have BK437 := n3_
                       have HB := n4_
                       clear n0_ n1_ n2_ n3_ n4_
                       have p440 : 0 ≤ (x10_5 : Int) := of_decide_eq_true (by first | (with_reducible assumption) | assumption)
                       have q440 : x10_5 < (t427.length : Int) := of_decide_eq_true (by first | (with_reducible assumption) | assumption)
                       obtain ⟨ad440, e440, hx440_0, hx440_1⟩ := at_T31 (Kd.R_reads' HO_3.out).2.2 x10_5 p440 q440
                       cases e440
                       replace p440 := eq_true p440
                       replace q440 := eq_true q440
                       refine start_ (n := 8) (S := fun w' => w'.cell? ⟨gb436, 0, none⟩ = some (.int .i64 ((rd_T31 t430 x7_2).f0)) ∧ w'.cell? ⟨gb436, 1, none⟩ = some (.int .i64 ((rd_T31 t430 x7_2).f1)) ∧ w'.cell? ⟨gb437, 0, none⟩ = some (.int .i64 ((rd_T31 t430 (ji17)).f0)) ∧ w'.cell? ⟨gb437, 1, none⟩ = some (.int .i64 ((rd_T31 t430 (ji17)).f1)) ∧ w'.cell? (ad440.add ((x10_5).toNat * 2)) = some (.int .i64 ((rd_T31 t427 x10_5).f0)) ∧ w'.cell? ⟨(ad440.add ((x10_5).toNat * 2)).block, (ad440.add ((x10_5).toNat * 2)).off + 1, none⟩ = some (.int .i64 ((rd_T31 t427 x10_5).f1))) (ds := []) (Bs 0 8) (by kernel_rfl) rfl rfl ⟨(blk_cell BK436.out 0).trans rfl, (blk_cell BK436.out 1).trans rfl, (blk_cell BK437.out 0).trans rfl, (blk_cell BK437.out 1).trans rfl, hx440_0, hx440_1⟩ (fun hHeld => ?_); refine with_tabW silversidelaw01_PlaneCorners.tab15 silversidelaw01_PlaneCorners.bits15 (fun HT_ HW_ => ?_)
                       generalize wr.drew = w49 at HO_3 HO_4 BK436 BK437 HB hx440_0 hx440_1 hHeld ⊢
                       refine pure_ (i := 2) (N := some 76) (v := ?_) (a' := ?_) #[φ,φ,τ,φ,φ,φ,φ,φ] rfl rfl (any_of HT_.out (by kernel_rfl)) (fun _ _ _ h => h) (Or.inl ⟨by rfl, ?_⟩) ?_ ?_; rotate_left
                       ·intro w'; go_simp; with_reducible rfl
                       rotate_left
                       ·simp only [Act.put, sA, sB, sC, i64_w, i32_w]; rfl
                       refine pure_ (i := 3) (N := some 77) (v := ?_) (a' := ?_) #[φ,φ,τ,τ,φ,φ,φ,φ] rfl rfl (any_of HT_.out (by kernel_rfl)) (fun _ _ _ h => h) (Or.inl ⟨by rfl, ?_⟩) ?_ ?_; rotate_left
                       ·intro w'; go_simp; with_reducible rfl
                       rotate_left
                       ·simp only [Act.put, sA, sB, sC, i64_w, i32_w]; rfl
                       refine pure_ (i := 4) (N := some 78) (v := ?_) (a' := ?_) #[φ,φ,τ,τ,τ,φ,φ,φ] rfl rfl (any_of HT_.out (by kernel_rfl)) (fun _ _ _ h => h) (Or.inl ⟨by rfl, ?_⟩) ?_ ?_; rotate_left
                       ·intro w'; go_simp; with_reducible rfl
                       rotate_left
                       ·simp only [Act.put, sA, sB, sC, i64_w, i32_w]; rfl
                       refine take_ (i := 0) (N := some 74) (v := ?_) (a' := ?_) #[τ,φ,τ,τ,τ,φ,φ,φ] rfl rfl (take_ofW HT_.out HW_.out (by kernel_rfl)) (fun _ _ _ h => h) (Or.inl ⟨by rfl, ?_⟩) hHeld ?_ ?_; rotate_left
                       ·rintro w' ⟨s0, s1, s2, s3, s4, s5⟩; go_simp; with_reducible rfl
                       rotate_left
                       ·simp only [Act.put, sA, sB, sC, i64_w, i32_w]; rfl
                       refine take_ (i := 1) (N := some 75) (v := ?_) (a' := ?_) (Bs 5 8) rfl rfl (take_ofW HT_.out HW_.out (by kernel_rfl)) (fun _ _ _ h => h) (Or.inl ⟨by rfl, ?_⟩) hHeld ?_ ?_; rotate_left
                       ·rintro w' ⟨s0, s1, s2, s3, s4, s5⟩; go_simp; with_reducible rfl
                       rotate_left
                       ·simp only [Act.put, sA, sB, sC, i64_w, i32_w]; rfl
                       refine take_ (i := 5) (N := some 79) (v := ?_) (a' := ?_) (Bs 6 8) rfl rfl (take_ofW HT_.out HW_.out (by kernel_rfl)) (fun _ _ _ h => h) (Or.inl ⟨by rfl, ?_⟩) hHeld ?_ ?_; rotate_left
                       ·rintro w' ⟨s0, s1, s2, s3, s4, s5⟩; go_simp; with_reducible rfl
                       rotate_left
                       ·simp only [Act.put, sA, sB, sC, i64_w, i32_w]; rfl
                       refine one_ (i := 6) (N := some 80) (Bs 7 8) rfl rfl (one_of HT_.out (by kernel_rfl)) (by decide) (fun K hK => ?_)
                       refine goes_ Try.func38 (by kernel_rfl) rfl #[.agg #[.int .i64 ((rd_T31 t430 x7_2).f0), .int .i64 ((rd_T31 t430 x7_2).f1)], .agg #[.int .i64 ((rd_T31 t430 (ji17)).f0), .int .i64 ((rd_T31 t430 (ji17)).f1)], .agg #[.int .i64 ((rd_T31 t427 x10_5).f0), .int .i64 ((rd_T31 t427 x10_5).f1)]] (by rfl) rfl rfl (by (try simp only [List.map_toArray, List.map_cons, List.map_nil]); first | done | (simp only [hji17]; rfl) | rfl | (simp only [List.length_drop, List.length_take]; rfl)) ?_
                       with_reducible refine (silversidelaw01_turn.calls ((rd_T31 t430 x7_2).f0) ((rd_T31 t430 x7_2).f1) ((rd_T31 t430 (ji17)).f0) ((rd_T31 t430 (ji17)).f1) ((rd_T31 t427 x10_5).f0) ((rd_T31 t427 x10_5).f1) t441 _ A42.out).mono ?_
                       rintro e w50 ⟨rfl, hb⟩
                       have HS4_ := (hb.cell (World.block_lt_of_cell? _ _ (hHeld.2.2.2.2.1))).trans (hHeld.2.2.2.2.1)
                       have HS5_ := (hb.cell (World.block_lt_of_cell? _ _ (hHeld.2.2.2.2.2))).trans (hHeld.2.2.2.2.2)
                       refine ⟨_, rfl, ?_⟩
                       have n0_ := Aside0.mk (Kd.R_below (by (with_reducible repeat (first | apply Kd.R_alloc | apply Kd.R_drewN | apply Kd.R_drew)); exact HO_3.out) hb)
                       have n1_ := Aside0.mk (Kd.R_below (by (with_reducible repeat (first | apply Kd.R_alloc | apply Kd.R_drewN | apply Kd.R_drew)); exact HO_4.out) hb)
                       have n2_ := Aside0.mk (blk_below (g := gb436) (o := .cells #[.int .i64 ((rd_T31 t430 x7_2).f0), .int .i64 ((rd_T31 t430 x7_2).f1)] 31 (0, 0)) (kX BK436.out) hb)
                       have n3_ := Aside0.mk (blk_below (g := gb437) (o := .cells #[.int .i64 ((rd_T31 t430 (ji17)).f0), .int .i64 ((rd_T31 t430 (ji17)).f1)] 31 (0, 0)) (kX BK437.out) hb)
                       have n4_ := Aside0.mk (below_step (by repeat (first | (with_reducible first | exact HB.out | apply lA | apply lN | apply lD | refine lS ?_ GE436.out | refine lS ?_ GE437.out) | exact HB.out)) hb)
                       clear HO_3
                       clear HO_4
                       clear BK436
                       clear BK437
                       clear HB
                       have HO_3 := n0_
                       have HO_4 := n1_
                       have BK436 := n2_
                       have BK437 := n3_
                       have HB := n4_
                       clear n0_ n1_ n2_ n3_ n4_
                       (try clear hb)
                       (try clear hb2)
                       (try clear hk)
                       (try clear hi)
                       refine hK.out _ _ ⟨(blk_cell BK436.out 0).trans rfl, (blk_cell BK436.out 1).trans rfl, (blk_cell BK437.out 0).trans rfl, (blk_cell BK437.out 1).trans rfl, HS4_, HS5_⟩ (fun hHeld => ?_)
                       clear hK K
                       refine norm_ (a' := ?_) ?_ ?_
                       rotate_left
                       ·show Act.put _ (some 80) _ = _
                        simp only [Act.put, sA, sB, sC, i64_w, i32_w]
                        rfl
                       refine pure_ (i := 7) (N := some 11) (v := ?_) (a' := ?_) (Bs 8 8) rfl rfl (any_of HT_.out (by kernel_rfl)) (fun _ _ _ h => h) (Or.inl ⟨by rfl, ?_⟩) ?_ ?_; rotate_left
                       ·intro w'; go_simp; with_reducible rfl
                       rotate_left
                       ·simp only [Act.put, sA, sB, sC, i64_w, i32_w]; rfl
                       refine done_ (done_of HT_.out (by kernel_rfl)) ?_
                       try go_wp2
                       go_ret
                       exact ⟨by first | rfl | (simp [errW_none, errW_some] <;> rfl) | (simp only [← hji17]; first | rfl | (simp [errW_none, errW_some] <;> rfl)) | (simp [*, errW_none, errW_some] <;> rfl), by repeat (first | (with_reducible first | exact HB.out | apply lA | apply lN | apply lD | refine lS ?_ GE436.out | refine lS ?_ GE437.out) | exact HB.out)⟩
                    ·rw [if_neg c41] at H
                     exact absurd H (by simp)
                   ·rw [if_neg c40] at H
                    have c40b0 : decide (x10_5 < (t427.length : Int)) = false := decide_eq_false c40
                    clear c40
                    have H' := Aside0.mk H
                    clear H
                    go_wp2
                    go_roundg k5
                    case measure => have := HJ3.out; have := HK2.out; have := HJ10.out; have := HJ19.out; have := HK5.out; omega
                    case rel => exact ⟨(wrap64 (x7_2 + 1)), (by first | rfl | (simp; done) | (simp [*]; done)), H', ⟨by have := HJ3.out; have := HK2.out; have := HJ10.out; have := HJ19.out; have := HK5.out; omega⟩, ⟨by (with_reducible repeat (first | apply Kd.R_alloc | apply Kd.R_drewN | apply Kd.R_drew)); exact Kd.R_mono HO_3.out (fun _ hk => hk.1)⟩, ⟨by (with_reducible repeat (first | apply Kd.R_alloc | apply Kd.R_drewN | apply Kd.R_drew)); exact Kd.R_mono HO_4.out (fun _ hk => hk.1)⟩, ⟨by repeat (first | (with_reducible first | exact HB.out | apply lA | apply lN | apply lD | refine lS ?_ GE436.out | refine lS ?_ GE437.out) | exact HB.out)⟩⟩
             ·rw [if_neg c19] at H
              exact absurd H (by simp)
            ·rw [if_neg c18] at H
             exact absurd H (by simp)
          ·rw [if_neg c15] at H
           exact absurd H (by simp)
         ·rw [if_neg c14] at H
          exact absurd H (by simp)
        ·replace c13 := Bool.eq_false_iff.mpr c13
         subst c13
         have H1 : (silversidelaw01_PlaneCorners.l2 kj10 t427 t430 ([] : List (S31)) (wrap64 ((t427.length : Int) - 1))) = some r := by rw [if_neg (show ¬ (false = true) by decide)] at H; exact H
         clear H
         have H := H1
         clear H1
         have H' := Aside0.mk H
         clear H
         go_wp2
         go_loopg [12, 13] kj10 (fun kq v12 v13 w' => ∃ (x12_4 : List (S31)) (x13_4 : Int), v13 = .int .i64 x13_4 ∧ Aside0 (silversidelaw01_PlaneCorners.l2 kq t427 t430 x12_4 x13_4 = some r) ∧ Aside0 (kq ≤ kj10) ∧ Aside0 (Kd.R k31 31 w' w.heap.size (fun k_ => some k_ ≠ ((.slice Ao8 t430.length co8) : Value).ownBlock ∧ some k_ ≠ (v12 : Value).ownBlock) (.slice Ao6 t427.length co6) t427) ∧ Aside0 (Kd.R k31 31 w' w.heap.size (fun k_ => some k_ ≠ ((.slice Ao6 t427.length co6) : Value).ownBlock ∧ some k_ ≠ (v12 : Value).ownBlock) (.slice Ao8 t430.length co8) t430) ∧ Aside0 (Kd.R k31 31 w' w.heap.size (fun k_ => some k_ ≠ ((.slice Ao6 t427.length co6) : Value).ownBlock ∧ some k_ ≠ ((.slice Ao8 t430.length co8) : Value).ownBlock) v12 x12_4) ∧ Aside0 (Below w.heap.size w w'))
         case atStart => exact ⟨(([] : List (S31))), (wrap64 ((t427.length : Int) - 1)), (by first | rfl | (simp; done) | (simp [*]; done)), H', ⟨Nat.le_refl _⟩, ⟨by (with_reducible repeat (first | apply Kd.R_alloc | apply Kd.R_drewN | apply Kd.R_drew)); exact Kd.R_mono HO_3.out (fun _ hk => ⟨hk, (by simp [Value.ownBlock])⟩)⟩, ⟨by (with_reducible repeat (first | apply Kd.R_alloc | apply Kd.R_drewN | apply Kd.R_drew)); exact Kd.R_mono HO_4.out (fun _ hk => ⟨hk, (by simp [Value.ownBlock])⟩)⟩, ⟨by first | exact Kd.R_nil _ _ _ _ _ | exact Kd.N_nil _ _ _ _ _ | exact Kd.V_nil _ _ _ _ _ | exact Kd.Q_nil _ _ _ _ _ | exact Kd.S_nil _ _ _ _ _⟩, ⟨by repeat (first | (with_reducible first | exact HB.out | apply lA | apply lN | apply lD) | exact HB.out)⟩⟩
         case round =>
          clear H'
          try clear c1
          try clear c2
          try clear p2
          try clear c3
          try clear c4
          try clear p4
          try clear q4
          try clear hx4
          try clear p6
          try clear c13
          try clear c14
          try clear c15
          try clear c18
          try clear c19
          try clear c29
          try clear c29b0
          try clear c29b1
          try clear c31
          try clear c31b0
          try clear c32
          try clear c32b0
          try clear c38
          try clear c39
          try clear c40
          try clear c40b0
          try clear c41
          try clear c41b0
          try clear c43
          try clear c43b0
          try clear c43b1
          try clear p43
          try clear q43
          try clear hx43
          try clear p44
          try clear q44
          try clear hx44
          try clear c46
          try clear c46b0
          try clear c46b1
          try clear hx438_0
          try clear hx438_1
          try clear hx440_0
          try clear hx440_1
          try clear p2
          try clear p4
          try clear p438
          try clear p440
          try clear p6
          try clear q4
          try clear q438
          try clear q440
          obtain ⟨x12_4, x13_4, rfl, HA, HK4, HO_3, HO_4, HO_12, HB⟩ := hrel
          cases gk with
          | zero => exact absurd HA.out (by simp [silversidelaw01_PlaneCorners.l2])
          | succ k4 =>
           have H := HA.out
           clear HA
           simp only [silversidelaw01_PlaneCorners.l2] at H
           by_cases c51 : x13_4 ≥ 0
           ·rw [if_pos c51] at H
            have c51b0 : decide (0 ≤ x13_4) = true := decide_eq_true c51
            clear c51
            by_cases c52 : 0 ≤ x13_4
            ·rw [if_pos c52] at H
             have c52b0 : decide (0 ≤ x13_4) = true := decide_eq_true c52
             clear c52
             by_cases c53 : x13_4 < (t427.length : Int)
             ·rw [if_pos c53] at H
              have c53b0 : decide (x13_4 < (t427.length : Int)) = true := decide_eq_true c53
              clear c53
              by_cases c54 : x12_4.length < 8796093022208
              ·rw [if_pos c54] at H
               have LMc54 := Aside0.mk c54
               clear c54
               obtain ⟨y443, hy443⟩ : ∃ y_ : List (S31), y_ = (x12_4 ++ [(⟨(rd_T31 t427 x13_4).f0, (rd_T31 t427 x13_4).f1⟩ : S31)]) := ⟨_, rfl⟩
               replace H : (silversidelaw01_PlaneCorners.l2 k4 t427 t430 y443 (wrap64 (x13_4 - 1))) = some r := by first | (rw [hy443]; with_reducible exact H) | (have H2_ := (Option.bind_some _ _).symm.trans H; rw [hy443]; with_reducible exact H2_) | (have H2_ := (Option.bind_some _ _).symm.trans H; with_reducible exact H2_) | with_reducible exact H | (rw [hy443]; exact H) | exact H
               have Ny443 := Aside0.mk hy443
               clear hy443
               have H' := Aside0.mk H
               clear H
               have p442 : 0 ≤ (x13_4 : Int) := of_decide_eq_true (by first | (with_reducible assumption) | assumption)
               have q442 : x13_4 < (t427.length : Int) := of_decide_eq_true (by first | (with_reducible assumption) | assumption)
               obtain ⟨ad442, e442, hx442_0, hx442_1⟩ := at_T31 (Kd.R_reads' HO_3.out).2.2 x13_4 p442 q442
               cases e442
               replace p442 := eq_true p442
               replace q442 := eq_true q442
               go_wp2_with (first | ((with_reducible refine gate_builtin (b := .append) (xs := #[.tmp 94, .tmp 99]) rfl ?_); at_builtin; refine Kd.R_append k31 (w0 := w) w.heap.size rfl (.tmp 94) (.tmp 99) 22 31 (.agg #[(.int .i64 0), (.int .i64 0)]) 16 rfl Try.underlying22 info31 rfl (by decide) (by omega) u12 x12_4 (⟨(rd_T31 t427 x13_4).f0, (rd_T31 t427 x13_4).f1⟩ : S31) [.int .i64 ((rd_T31 t427 x13_4).f0), .int .i64 ((rd_T31 t427 x13_4).f1)] (fun k_ => some k_ ≠ (.slice (some ad442) t427.length co6 : Value).ownBlock ∧ some k_ ≠ (.slice Ao8 t430.length co8 : Value).ownBlock) (fun _ => False) rfl rfl ?aP (fun _ hk => hk.elim) ?aF ?aO ?aB ?aS ?aL ?_; (case aP => exact k31_mkM _ _ _ (⟨(rd_T31 t427 x13_4).f0, (rd_T31 t427 x13_4).f1⟩ : S31)); (case aB => exact (by repeat (first | (with_reducible first | exact HB.out | apply lA | apply lN | apply lD) | exact HB.out))); (case aF => exact (fun k_ hk => ⟨Kd.fresh' (Kd.R_lt (by (with_reducible repeat (first | apply Kd.R_alloc | apply Kd.R_drewN | apply Kd.R_drew)); exact HO_3.out)) k_ hk, Kd.fresh' (Kd.R_lt (by (with_reducible repeat (first | apply Kd.R_alloc | apply Kd.R_drewN | apply Kd.R_drew)); exact HO_4.out)) k_ hk⟩)); (case aO => exact (by (with_reducible repeat (first | apply Kd.R_alloc | apply Kd.R_drewN | apply Kd.R_drew)); exact HO_12.out)); (case aS => exact (below_size (by repeat (first | (with_reducible first | exact HB.out | apply lA | apply lN | apply lD) | exact HB.out)))); (case aL => have := LMc54.out; omega); intro v444 w55 ho hb hg hat; rw [← Ny443.out] at ho; have n0_ := Aside0.mk (Kd.R_after (ok := (fun k_ => some k_ ≠ (.slice Ao8 t430.length co8 : Value).ownBlock)) (by (with_reducible repeat (first | apply Kd.R_alloc | apply Kd.R_drewN | apply Kd.R_drew)); exact HO_3.out) hg hat); have n1_ := Aside0.mk (Kd.R_after (ok := (fun k_ => some k_ ≠ (.slice (some ad442) t427.length co6 : Value).ownBlock)) (by (with_reducible repeat (first | apply Kd.R_alloc | apply Kd.R_drewN | apply Kd.R_drew)); exact HO_4.out) hg hat); have n2_ := Aside0.mk (hb); have n3_ := Aside0.mk (ho); clear HO_3; clear HO_4; clear HB; clear HO_12; have HO_3 := n0_; have HO_4 := n1_; have HB := n2_; have HO445 := n3_; clear n0_ n1_ n2_ n3_; clear ho hb hg hat))
               go_roundg k4
               case measure => have := HJ3.out; have := HK2.out; have := HJ10.out; have := HK4.out; omega
               case rel => exact ⟨(y443), (wrap64 (x13_4 - 1)), (by first | rfl | (simp; done) | (simp [*]; done)), H', ⟨by have := HJ3.out; have := HK2.out; have := HJ10.out; have := HK4.out; omega⟩, ⟨by (with_reducible repeat (first | apply Kd.R_alloc | apply Kd.R_drewN | apply Kd.R_drew)); exact HO_3.out⟩, ⟨by (with_reducible repeat (first | apply Kd.R_alloc | apply Kd.R_drewN | apply Kd.R_drew)); exact HO_4.out⟩, ⟨by (with_reducible repeat (first | apply Kd.R_alloc | apply Kd.R_drewN | apply Kd.R_drew)); exact HO445.out⟩, ⟨by repeat (first | (with_reducible first | exact HB.out | apply lA | apply lN | apply lD) | exact HB.out)⟩⟩
              ·rw [if_neg c54] at H
               exact absurd H (by simp)
             ·rw [if_neg c53] at H
              exact absurd H (by simp)
            ·rw [if_neg c52] at H
             exact absurd H (by simp)
           ·rw [if_neg c51] at H
            have c51b0 : decide (0 ≤ x13_4) = false := decide_eq_false c51
            clear c51
            replace H := Option.bind_eq_some_iff.mp H
            obtain ⟨⟨t446, t447⟩, A560, H⟩ := H
            replace H : ((plane_Hull.f x12_4).bind fun bt450 => (if t447 = 0 then (if bt450.2 = 0 then ((silversidelaw01_same.f k4 t446 t430).bind fun t454 => (if t454 = true then ((silversidelaw01_same.f k4 bt450.1 t430).bind fun t455 => (if t455 = true then ((silversidelaw01_awake.f k4).bind fun t456 => (some t456)) else (some false))) else (some false))) else (some false)) else (some false))) = some r := H
            have A56 := Aside0.mk A560
            clear A560
            replace H := Option.bind_eq_some_iff.mp H
            obtain ⟨⟨t450, t451⟩, A570, H⟩ := H
            replace H : (if t447 = 0 then (if t451 = 0 then ((silversidelaw01_same.f k4 t446 t430).bind fun t454 => (if t454 = true then ((silversidelaw01_same.f k4 t450 t430).bind fun t455 => (if t455 = true then ((silversidelaw01_awake.f k4).bind fun t456 => (some t456)) else (some false))) else (some false))) else (some false)) else (some false)) = some r := H
            have A57 := Aside0.mk A570
            clear A570
            by_cases c58 : t447 = 0
            ·rw [if_pos c58] at H
             have c58b0 : (t447 == 0) = true := beq_iff_eq.mpr c58
             have c58b1 : (t447 != 0) = false := bne_eq_false_iff_eq.mpr c58
             clear c58
             by_cases c59 : t451 = 0
             ·rw [if_pos c59] at H
              have c59b0 : (t451 == 0) = true := beq_iff_eq.mpr c59
              have c59b1 : (t451 != 0) = false := bne_eq_false_iff_eq.mpr c59
              clear c59
              replace H := Option.bind_eq_some_iff.mp H
              obtain ⟨t454, A600, H⟩ := H
              replace H : (if t454 = true then ((silversidelaw01_same.f k4 t450 t430).bind fun t455 => (if t455 = true then ((silversidelaw01_awake.f k4).bind fun t456 => (some t456)) else (some false))) else (some false)) = some r := H
              have A60 := Aside0.mk A600
              clear A600
              by_cases c61 : t454 = true
              ·subst c61
               have H1 : ((silversidelaw01_same.f k4 t450 t430).bind fun t455 => (if t455 = true then ((silversidelaw01_awake.f k4).bind fun t456 => (some t456)) else (some false))) = some r := by rw [if_pos rfl] at H; exact H
               clear H
               have H := H1
               clear H1
               replace H := Option.bind_eq_some_iff.mp H
               obtain ⟨t455, A620, H⟩ := H
               replace H : (if t455 = true then ((silversidelaw01_awake.f k4).bind fun t456 => (some t456)) else (some false)) = some r := H
               have A62 := Aside0.mk A620
               clear A620
               by_cases c63 : t455 = true
               ·subst c63
                have H1 : ((silversidelaw01_awake.f k4).bind fun t456 => (some t456)) = some r := by rw [if_pos rfl] at H; exact H
                clear H
                have H := H1
                clear H1
                replace H := Option.bind_eq_some_iff.mp H
                obtain ⟨t456, A640, H⟩ := H
                replace H : (some t456) = some r := H
                have A64 := Aside0.mk A640
                clear A640
                obtain rfl := Option.some.inj H
                go_wp2_with (first | ((with_reducible refine gate_callee (f := 32) rfl ?_); refine goesL_ (some 103) rfl rfl Try.func32 (by kernel_rfl) rfl #[.slice Ao8 t430.length co8] rfl (by (try simp only [List.map_toArray, List.map_cons, List.map_nil]); first | done | rfl | (simp only [List.length_drop, List.length_take]; rfl)) ?_; (with_reducible refine (plane_Hull.calls _ _ t430 t446 t447 _ ?side1 ?side2 A56.out).mono ?_); (case side1 => repeat (first | exact (Kd.R_reads' HO_4.out).2.2 | (with_reducible refine Kd.C_alloc ?_ _) | (with_reducible refine Kd.C_drewN ?_ _) | (with_reducible refine Kd.C_drew ?_))); (case side2 => exact (Kd.R_reads' HO_4.out).2.1); rintro e w65 ⟨v448, rfl, ho0, hb⟩; refine ⟨_, rfl, ?_⟩; have n0_ := Aside0.mk (Kd.R_elder' (by (with_reducible repeat (first | apply Kd.R_alloc | apply Kd.R_drewN | apply Kd.R_drew)); exact HO_3.out) (Kd.R_base ho0) hb); have n1_ := Aside0.mk (Kd.R_elder' (by (with_reducible repeat (first | apply Kd.R_alloc | apply Kd.R_drewN | apply Kd.R_drew)); exact HO_4.out) (Kd.R_base ho0) hb); have n2_ := Aside0.mk (Kd.R_elder' (by (with_reducible repeat (first | apply Kd.R_alloc | apply Kd.R_drewN | apply Kd.R_drew)); exact HO_12.out) (Kd.R_base ho0) hb); have n3_ := Aside0.mk (Kd.R_lower (Kd.R_new' (Kd.R_new' (Kd.R_new' ho0 (Kd.R_lt (by (with_reducible repeat (first | apply Kd.R_alloc | apply Kd.R_drewN | apply Kd.R_drew)); exact HO_3.out))) (Kd.R_lt (by (with_reducible repeat (first | apply Kd.R_alloc | apply Kd.R_drewN | apply Kd.R_drew)); exact HO_4.out))) (Kd.R_lt (by (with_reducible repeat (first | apply Kd.R_alloc | apply Kd.R_drewN | apply Kd.R_drew)); exact HO_12.out))) (below_size (by repeat (first | (with_reducible first | exact HB.out | apply lA | apply lN | apply lD) | exact HB.out)))); have n4_ := Aside0.mk (below_step (by repeat (first | (with_reducible first | exact HB.out | apply lA | apply lN | apply lD) | exact HB.out)) hb); clear HO_3; clear HO_4; clear HO_12; clear HB; have HO_3 := n0_; have HO_4 := n1_; have HO_12 := n2_; have HO449 := n3_; have HB := n4_; clear n0_ n1_ n2_ n3_ n4_; (try clear hb); (try clear hb2); (try clear hk); (try clear hi); (try clear ho0); obtain ⟨Ao66, co66, eo66⟩ := Kd.R_slice HO_12.out; subst eo66) | ((with_reducible refine gate_callee (f := 32) rfl ?_); refine goesL_ (some 108) rfl rfl Try.func32 (by kernel_rfl) rfl #[.slice Ao66 x12_4.length co66] rfl (by (try simp only [List.map_toArray, List.map_cons, List.map_nil]); first | done | rfl | (simp only [List.length_drop, List.length_take]; rfl)) ?_; (with_reducible refine (plane_Hull.calls _ _ x12_4 t450 t451 _ ?side1 ?side2 A57.out).mono ?_); (case side1 => repeat (first | exact (Kd.R_reads' HO_12.out).2.2 | (with_reducible refine Kd.C_alloc ?_ _) | (with_reducible refine Kd.C_drewN ?_ _) | (with_reducible refine Kd.C_drew ?_))); (case side2 => exact (Kd.R_reads' HO_12.out).2.1); rintro e w67 ⟨v452, rfl, ho0, hb⟩; refine ⟨_, rfl, ?_⟩; have n0_ := Aside0.mk (Kd.R_elder' (by (with_reducible repeat (first | apply Kd.R_alloc | apply Kd.R_drewN | apply Kd.R_drew)); exact HO_3.out) (Kd.R_base ho0) hb); have n1_ := Aside0.mk (Kd.R_elder' (by (with_reducible repeat (first | apply Kd.R_alloc | apply Kd.R_drewN | apply Kd.R_drew)); exact HO_4.out) (Kd.R_base ho0) hb); have n2_ := Aside0.mk (Kd.R_elder' (by (with_reducible repeat (first | apply Kd.R_alloc | apply Kd.R_drewN | apply Kd.R_drew)); exact HO_12.out) (Kd.R_base ho0) hb); have n3_ := Aside0.mk (Kd.R_elder' (by (with_reducible repeat (first | apply Kd.R_alloc | apply Kd.R_drewN | apply Kd.R_drew)); exact HO449.out) (Kd.R_base ho0) hb); have n4_ := Aside0.mk (Kd.R_lower (Kd.R_new' (Kd.R_new' (Kd.R_new' (Kd.R_new' ho0 (Kd.R_lt (by (with_reducible repeat (first | apply Kd.R_alloc | apply Kd.R_drewN | apply Kd.R_drew)); exact HO_3.out))) (Kd.R_lt (by (with_reducible repeat (first | apply Kd.R_alloc | apply Kd.R_drewN | apply Kd.R_drew)); exact HO_4.out))) (Kd.R_lt (by (with_reducible repeat (first | apply Kd.R_alloc | apply Kd.R_drewN | apply Kd.R_drew)); exact HO_12.out))) (Kd.R_lt (by (with_reducible repeat (first | apply Kd.R_alloc | apply Kd.R_drewN | apply Kd.R_drew)); exact HO449.out))) (below_size (by repeat (first | (with_reducible first | exact HB.out | apply lA | apply lN | apply lD) | exact HB.out)))); have n5_ := Aside0.mk (below_step (by repeat (first | (with_reducible first | exact HB.out | apply lA | apply lN | apply lD) | exact HB.out)) hb); clear HO_3; clear HO_4; clear HO_12; clear HO449; clear HB; have HO_3 := n0_; have HO_4 := n1_; have HO_12 := n2_; have HO449 := n3_; have HO453 := n4_; have HB := n5_; clear n0_ n1_ n2_ n3_ n4_ n5_; (try clear hb); (try clear hb2); (try clear hk); (try clear hi); (try clear ho0); obtain ⟨Ao68, co68, eo68⟩ := Kd.R_slice HO449.out; subst eo68) | (go_at_call 34; (with_reducible refine (silversidelaw01_same.calls k4 _ _ t446 _ _ t430 true _ ?side1 ?side2 ?side3 ?side4 A60.out).mono ?_); (case side1 => repeat (first | exact (Kd.R_reads' HO449.out).2.2 | (with_reducible refine Kd.C_alloc ?_ _) | (with_reducible refine Kd.C_drewN ?_ _) | (with_reducible refine Kd.C_drew ?_))); (case side2 => exact (Kd.R_reads' HO449.out).2.1); (case side3 => repeat (first | exact (Kd.R_reads' HO_4.out).2.2 | (with_reducible refine Kd.C_alloc ?_ _) | (with_reducible refine Kd.C_drewN ?_ _) | (with_reducible refine Kd.C_drew ?_))); (case side4 => exact (Kd.R_reads' HO_4.out).2.1); rintro e w' ⟨rfl, ⟨nd, rfl⟩⟩; obtain ⟨Ao69, co69, eo69⟩ := Kd.R_slice HO453.out; subst eo69) | (go_at_call 34; (with_reducible refine (silversidelaw01_same.calls k4 _ _ t450 _ _ t430 true _ ?side1 ?side2 ?side3 ?side4 A62.out).mono ?_); (case side1 => repeat (first | exact (Kd.R_reads' HO453.out).2.2 | (with_reducible refine Kd.C_alloc ?_ _) | (with_reducible refine Kd.C_drewN ?_ _) | (with_reducible refine Kd.C_drew ?_))); (case side2 => exact (Kd.R_reads' HO453.out).2.1); (case side3 => repeat (first | exact (Kd.R_reads' HO_4.out).2.2 | (with_reducible refine Kd.C_alloc ?_ _) | (with_reducible refine Kd.C_drewN ?_ _) | (with_reducible refine Kd.C_drew ?_))); (case side4 => exact (Kd.R_reads' HO_4.out).2.1); rintro e w' ⟨rfl, ⟨nd, rfl⟩⟩) | (go_at_call 23; (with_reducible refine (silversidelaw01_awake.calls k4  t456 _ A64.out).mono ?_); rintro e w70 ⟨rfl, hb⟩; have n0_ := Aside0.mk (Kd.R_below (by (with_reducible repeat (first | apply Kd.R_alloc | apply Kd.R_drewN | apply Kd.R_drew)); exact HO_3.out) hb); have n1_ := Aside0.mk (Kd.R_below (by (with_reducible repeat (first | apply Kd.R_alloc | apply Kd.R_drewN | apply Kd.R_drew)); exact HO_4.out) hb); have n2_ := Aside0.mk (Kd.R_below (by (with_reducible repeat (first | apply Kd.R_alloc | apply Kd.R_drewN | apply Kd.R_drew)); exact HO_12.out) hb); have n3_ := Aside0.mk (Kd.R_below (by (with_reducible repeat (first | apply Kd.R_alloc | apply Kd.R_drewN | apply Kd.R_drew)); exact HO449.out) hb); have n4_ := Aside0.mk (Kd.R_below (by (with_reducible repeat (first | apply Kd.R_alloc | apply Kd.R_drewN | apply Kd.R_drew)); exact HO453.out) hb); have n5_ := Aside0.mk (below_step (by repeat (first | (with_reducible first | exact HB.out | apply lA | apply lN | apply lD) | exact HB.out)) hb); clear HO_3; clear HO_4; clear HO_12; clear HO449; clear HO453; clear HB; have HO_3 := n0_; have HO_4 := n1_; have HO_12 := n2_; have HO449 := n3_; have HO453 := n4_; have HB := n5_; clear n0_ n1_ n2_ n3_ n4_ n5_; (try clear hb); (try clear hb2); (try clear hk); (try clear hi)))
                go_ret
                exact ⟨by first | rfl | (simp [errW_none, errW_some] <;> rfl) | (simp [*, errW_none, errW_some] <;> rfl), by repeat (first | (with_reducible first | exact HB.out | apply lA | apply lN | apply lD) | exact HB.out)⟩
               ·replace c63 := Bool.eq_false_iff.mpr c63
                subst c63
                have H1 : (some false) = some r := by rw [if_neg (show ¬ (false = true) by decide)] at H; exact H
                clear H
                have H := H1
                clear H1
                obtain rfl := Option.some.inj H
                go_wp2_with (first | ((with_reducible refine gate_callee (f := 32) rfl ?_); refine goesL_ (some 103) rfl rfl Try.func32 (by kernel_rfl) rfl #[.slice Ao8 t430.length co8] rfl (by (try simp only [List.map_toArray, List.map_cons, List.map_nil]); first | done | rfl | (simp only [List.length_drop, List.length_take]; rfl)) ?_; (with_reducible refine (plane_Hull.calls _ _ t430 t446 t447 _ ?side1 ?side2 A56.out).mono ?_); (case side1 => repeat (first | exact (Kd.R_reads' HO_4.out).2.2 | (with_reducible refine Kd.C_alloc ?_ _) | (with_reducible refine Kd.C_drewN ?_ _) | (with_reducible refine Kd.C_drew ?_))); (case side2 => exact (Kd.R_reads' HO_4.out).2.1); rintro e w71 ⟨v448, rfl, ho0, hb⟩; refine ⟨_, rfl, ?_⟩; have n0_ := Aside0.mk (Kd.R_elder' (by (with_reducible repeat (first | apply Kd.R_alloc | apply Kd.R_drewN | apply Kd.R_drew)); exact HO_3.out) (Kd.R_base ho0) hb); have n1_ := Aside0.mk (Kd.R_elder' (by (with_reducible repeat (first | apply Kd.R_alloc | apply Kd.R_drewN | apply Kd.R_drew)); exact HO_4.out) (Kd.R_base ho0) hb); have n2_ := Aside0.mk (Kd.R_elder' (by (with_reducible repeat (first | apply Kd.R_alloc | apply Kd.R_drewN | apply Kd.R_drew)); exact HO_12.out) (Kd.R_base ho0) hb); have n3_ := Aside0.mk (Kd.R_lower (Kd.R_new' (Kd.R_new' (Kd.R_new' ho0 (Kd.R_lt (by (with_reducible repeat (first | apply Kd.R_alloc | apply Kd.R_drewN | apply Kd.R_drew)); exact HO_3.out))) (Kd.R_lt (by (with_reducible repeat (first | apply Kd.R_alloc | apply Kd.R_drewN | apply Kd.R_drew)); exact HO_4.out))) (Kd.R_lt (by (with_reducible repeat (first | apply Kd.R_alloc | apply Kd.R_drewN | apply Kd.R_drew)); exact HO_12.out))) (below_size (by repeat (first | (with_reducible first | exact HB.out | apply lA | apply lN | apply lD) | exact HB.out)))); have n4_ := Aside0.mk (below_step (by repeat (first | (with_reducible first | exact HB.out | apply lA | apply lN | apply lD) | exact HB.out)) hb); clear HO_3; clear HO_4; clear HO_12; clear HB; have HO_3 := n0_; have HO_4 := n1_; have HO_12 := n2_; have HO449 := n3_; have HB := n4_; clear n0_ n1_ n2_ n3_ n4_; (try clear hb); (try clear hb2); (try clear hk); (try clear hi); (try clear ho0); obtain ⟨Ao72, co72, eo72⟩ := Kd.R_slice HO_12.out; subst eo72) | ((with_reducible refine gate_callee (f := 32) rfl ?_); refine goesL_ (some 108) rfl rfl Try.func32 (by kernel_rfl) rfl #[.slice Ao72 x12_4.length co72] rfl (by (try simp only [List.map_toArray, List.map_cons, List.map_nil]); first | done | rfl | (simp only [List.length_drop, List.length_take]; rfl)) ?_; (with_reducible refine (plane_Hull.calls _ _ x12_4 t450 t451 _ ?side1 ?side2 A57.out).mono ?_); (case side1 => repeat (first | exact (Kd.R_reads' HO_12.out).2.2 | (with_reducible refine Kd.C_alloc ?_ _) | (with_reducible refine Kd.C_drewN ?_ _) | (with_reducible refine Kd.C_drew ?_))); (case side2 => exact (Kd.R_reads' HO_12.out).2.1); rintro e w73 ⟨v452, rfl, ho0, hb⟩; refine ⟨_, rfl, ?_⟩; have n0_ := Aside0.mk (Kd.R_elder' (by (with_reducible repeat (first | apply Kd.R_alloc | apply Kd.R_drewN | apply Kd.R_drew)); exact HO_3.out) (Kd.R_base ho0) hb); have n1_ := Aside0.mk (Kd.R_elder' (by (with_reducible repeat (first | apply Kd.R_alloc | apply Kd.R_drewN | apply Kd.R_drew)); exact HO_4.out) (Kd.R_base ho0) hb); have n2_ := Aside0.mk (Kd.R_elder' (by (with_reducible repeat (first | apply Kd.R_alloc | apply Kd.R_drewN | apply Kd.R_drew)); exact HO_12.out) (Kd.R_base ho0) hb); have n3_ := Aside0.mk (Kd.R_elder' (by (with_reducible repeat (first | apply Kd.R_alloc | apply Kd.R_drewN | apply Kd.R_drew)); exact HO449.out) (Kd.R_base ho0) hb); have n4_ := Aside0.mk (Kd.R_lower (Kd.R_new' (Kd.R_new' (Kd.R_new' (Kd.R_new' ho0 (Kd.R_lt (by (with_reducible repeat (first | apply Kd.R_alloc | apply Kd.R_drewN | apply Kd.R_drew)); exact HO_3.out))) (Kd.R_lt (by (with_reducible repeat (first | apply Kd.R_alloc | apply Kd.R_drewN | apply Kd.R_drew)); exact HO_4.out))) (Kd.R_lt (by (with_reducible repeat (first | apply Kd.R_alloc | apply Kd.R_drewN | apply Kd.R_drew)); exact HO_12.out))) (Kd.R_lt (by (with_reducible repeat (first | apply Kd.R_alloc | apply Kd.R_drewN | apply Kd.R_drew)); exact HO449.out))) (below_size (by repeat (first | (with_reducible first | exact HB.out | apply lA | apply lN | apply lD) | exact HB.out)))); have n5_ := Aside0.mk (below_step (by repeat (first | (with_reducible first | exact HB.out | apply lA | apply lN | apply lD) | exact HB.out)) hb); clear HO_3; clear HO_4; clear HO_12; clear HO449; clear HB; have HO_3 := n0_; have HO_4 := n1_; have HO_12 := n2_; have HO449 := n3_; have HO453 := n4_; have HB := n5_; clear n0_ n1_ n2_ n3_ n4_ n5_; (try clear hb); (try clear hb2); (try clear hk); (try clear hi); (try clear ho0); obtain ⟨Ao74, co74, eo74⟩ := Kd.R_slice HO449.out; subst eo74) | (go_at_call 34; (with_reducible refine (silversidelaw01_same.calls k4 _ _ t446 _ _ t430 true _ ?side1 ?side2 ?side3 ?side4 A60.out).mono ?_); (case side1 => repeat (first | exact (Kd.R_reads' HO449.out).2.2 | (with_reducible refine Kd.C_alloc ?_ _) | (with_reducible refine Kd.C_drewN ?_ _) | (with_reducible refine Kd.C_drew ?_))); (case side2 => exact (Kd.R_reads' HO449.out).2.1); (case side3 => repeat (first | exact (Kd.R_reads' HO_4.out).2.2 | (with_reducible refine Kd.C_alloc ?_ _) | (with_reducible refine Kd.C_drewN ?_ _) | (with_reducible refine Kd.C_drew ?_))); (case side4 => exact (Kd.R_reads' HO_4.out).2.1); rintro e w' ⟨rfl, ⟨nd, rfl⟩⟩; obtain ⟨Ao75, co75, eo75⟩ := Kd.R_slice HO453.out; subst eo75) | (go_at_call 34; (with_reducible refine (silversidelaw01_same.calls k4 _ _ t450 _ _ t430 false _ ?side1 ?side2 ?side3 ?side4 A62.out).mono ?_); (case side1 => repeat (first | exact (Kd.R_reads' HO453.out).2.2 | (with_reducible refine Kd.C_alloc ?_ _) | (with_reducible refine Kd.C_drewN ?_ _) | (with_reducible refine Kd.C_drew ?_))); (case side2 => exact (Kd.R_reads' HO453.out).2.1); (case side3 => repeat (first | exact (Kd.R_reads' HO_4.out).2.2 | (with_reducible refine Kd.C_alloc ?_ _) | (with_reducible refine Kd.C_drewN ?_ _) | (with_reducible refine Kd.C_drew ?_))); (case side4 => exact (Kd.R_reads' HO_4.out).2.1); rintro e w' ⟨rfl, ⟨nd, rfl⟩⟩))
                go_ret
                exact ⟨by first | rfl | (simp [errW_none, errW_some] <;> rfl) | (simp [*, errW_none, errW_some] <;> rfl), by repeat (first | (with_reducible first | exact HB.out | apply lA | apply lN | apply lD) | exact HB.out)⟩
              ·replace c61 := Bool.eq_false_iff.mpr c61
               subst c61
               have H1 : (some false) = some r := by rw [if_neg (show ¬ (false = true) by decide)] at H; exact H
               clear H
               have H := H1
               clear H1
               obtain rfl := Option.some.inj H
               go_wp2_with (first | ((with_reducible refine gate_callee (f := 32) rfl ?_); refine goesL_ (some 103) rfl rfl Try.func32 (by kernel_rfl) rfl #[.slice Ao8 t430.length co8] rfl (by (try simp only [List.map_toArray, List.map_cons, List.map_nil]); first | done | rfl | (simp only [List.length_drop, List.length_take]; rfl)) ?_; (with_reducible refine (plane_Hull.calls _ _ t430 t446 t447 _ ?side1 ?side2 A56.out).mono ?_); (case side1 => repeat (first | exact (Kd.R_reads' HO_4.out).2.2 | (with_reducible refine Kd.C_alloc ?_ _) | (with_reducible refine Kd.C_drewN ?_ _) | (with_reducible refine Kd.C_drew ?_))); (case side2 => exact (Kd.R_reads' HO_4.out).2.1); rintro e w76 ⟨v448, rfl, ho0, hb⟩; refine ⟨_, rfl, ?_⟩; have n0_ := Aside0.mk (Kd.R_elder' (by (with_reducible repeat (first | apply Kd.R_alloc | apply Kd.R_drewN | apply Kd.R_drew)); exact HO_3.out) (Kd.R_base ho0) hb); have n1_ := Aside0.mk (Kd.R_elder' (by (with_reducible repeat (first | apply Kd.R_alloc | apply Kd.R_drewN | apply Kd.R_drew)); exact HO_4.out) (Kd.R_base ho0) hb); have n2_ := Aside0.mk (Kd.R_elder' (by (with_reducible repeat (first | apply Kd.R_alloc | apply Kd.R_drewN | apply Kd.R_drew)); exact HO_12.out) (Kd.R_base ho0) hb); have n3_ := Aside0.mk (Kd.R_lower (Kd.R_new' (Kd.R_new' (Kd.R_new' ho0 (Kd.R_lt (by (with_reducible repeat (first | apply Kd.R_alloc | apply Kd.R_drewN | apply Kd.R_drew)); exact HO_3.out))) (Kd.R_lt (by (with_reducible repeat (first | apply Kd.R_alloc | apply Kd.R_drewN | apply Kd.R_drew)); exact HO_4.out))) (Kd.R_lt (by (with_reducible repeat (first | apply Kd.R_alloc | apply Kd.R_drewN | apply Kd.R_drew)); exact HO_12.out))) (below_size (by repeat (first | (with_reducible first | exact HB.out | apply lA | apply lN | apply lD) | exact HB.out)))); have n4_ := Aside0.mk (below_step (by repeat (first | (with_reducible first | exact HB.out | apply lA | apply lN | apply lD) | exact HB.out)) hb); clear HO_3; clear HO_4; clear HO_12; clear HB; have HO_3 := n0_; have HO_4 := n1_; have HO_12 := n2_; have HO449 := n3_; have HB := n4_; clear n0_ n1_ n2_ n3_ n4_; (try clear hb); (try clear hb2); (try clear hk); (try clear hi); (try clear ho0); obtain ⟨Ao77, co77, eo77⟩ := Kd.R_slice HO_12.out; subst eo77) | ((with_reducible refine gate_callee (f := 32) rfl ?_); refine goesL_ (some 108) rfl rfl Try.func32 (by kernel_rfl) rfl #[.slice Ao77 x12_4.length co77] rfl (by (try simp only [List.map_toArray, List.map_cons, List.map_nil]); first | done | rfl | (simp only [List.length_drop, List.length_take]; rfl)) ?_; (with_reducible refine (plane_Hull.calls _ _ x12_4 t450 t451 _ ?side1 ?side2 A57.out).mono ?_); (case side1 => repeat (first | exact (Kd.R_reads' HO_12.out).2.2 | (with_reducible refine Kd.C_alloc ?_ _) | (with_reducible refine Kd.C_drewN ?_ _) | (with_reducible refine Kd.C_drew ?_))); (case side2 => exact (Kd.R_reads' HO_12.out).2.1); rintro e w78 ⟨v452, rfl, ho0, hb⟩; refine ⟨_, rfl, ?_⟩; have n0_ := Aside0.mk (Kd.R_elder' (by (with_reducible repeat (first | apply Kd.R_alloc | apply Kd.R_drewN | apply Kd.R_drew)); exact HO_3.out) (Kd.R_base ho0) hb); have n1_ := Aside0.mk (Kd.R_elder' (by (with_reducible repeat (first | apply Kd.R_alloc | apply Kd.R_drewN | apply Kd.R_drew)); exact HO_4.out) (Kd.R_base ho0) hb); have n2_ := Aside0.mk (Kd.R_elder' (by (with_reducible repeat (first | apply Kd.R_alloc | apply Kd.R_drewN | apply Kd.R_drew)); exact HO_12.out) (Kd.R_base ho0) hb); have n3_ := Aside0.mk (Kd.R_elder' (by (with_reducible repeat (first | apply Kd.R_alloc | apply Kd.R_drewN | apply Kd.R_drew)); exact HO449.out) (Kd.R_base ho0) hb); have n4_ := Aside0.mk (Kd.R_lower (Kd.R_new' (Kd.R_new' (Kd.R_new' (Kd.R_new' ho0 (Kd.R_lt (by (with_reducible repeat (first | apply Kd.R_alloc | apply Kd.R_drewN | apply Kd.R_drew)); exact HO_3.out))) (Kd.R_lt (by (with_reducible repeat (first | apply Kd.R_alloc | apply Kd.R_drewN | apply Kd.R_drew)); exact HO_4.out))) (Kd.R_lt (by (with_reducible repeat (first | apply Kd.R_alloc | apply Kd.R_drewN | apply Kd.R_drew)); exact HO_12.out))) (Kd.R_lt (by (with_reducible repeat (first | apply Kd.R_alloc | apply Kd.R_drewN | apply Kd.R_drew)); exact HO449.out))) (below_size (by repeat (first | (with_reducible first | exact HB.out | apply lA | apply lN | apply lD) | exact HB.out)))); have n5_ := Aside0.mk (below_step (by repeat (first | (with_reducible first | exact HB.out | apply lA | apply lN | apply lD) | exact HB.out)) hb); clear HO_3; clear HO_4; clear HO_12; clear HO449; clear HB; have HO_3 := n0_; have HO_4 := n1_; have HO_12 := n2_; have HO449 := n3_; have HO453 := n4_; have HB := n5_; clear n0_ n1_ n2_ n3_ n4_ n5_; (try clear hb); (try clear hb2); (try clear hk); (try clear hi); (try clear ho0); obtain ⟨Ao79, co79, eo79⟩ := Kd.R_slice HO449.out; subst eo79) | (go_at_call 34; (with_reducible refine (silversidelaw01_same.calls k4 _ _ t446 _ _ t430 false _ ?side1 ?side2 ?side3 ?side4 A60.out).mono ?_); (case side1 => repeat (first | exact (Kd.R_reads' HO449.out).2.2 | (with_reducible refine Kd.C_alloc ?_ _) | (with_reducible refine Kd.C_drewN ?_ _) | (with_reducible refine Kd.C_drew ?_))); (case side2 => exact (Kd.R_reads' HO449.out).2.1); (case side3 => repeat (first | exact (Kd.R_reads' HO_4.out).2.2 | (with_reducible refine Kd.C_alloc ?_ _) | (with_reducible refine Kd.C_drewN ?_ _) | (with_reducible refine Kd.C_drew ?_))); (case side4 => exact (Kd.R_reads' HO_4.out).2.1); rintro e w' ⟨rfl, ⟨nd, rfl⟩⟩))
               go_ret
               exact ⟨by first | rfl | (simp [errW_none, errW_some] <;> rfl) | (simp [*, errW_none, errW_some] <;> rfl), by repeat (first | (with_reducible first | exact HB.out | apply lA | apply lN | apply lD) | exact HB.out)⟩
             ·rw [if_neg c59] at H
              have c59b0 : (t451 == 0) = false := beq_eq_false_iff_ne.mpr c59
              have c59b1 : (t451 != 0) = true := bne_iff_ne.mpr c59
              obtain rfl := Option.some.inj H
              go_wp2_with (first | ((with_reducible refine gate_callee (f := 32) rfl ?_); refine goesL_ (some 103) rfl rfl Try.func32 (by kernel_rfl) rfl #[.slice Ao8 t430.length co8] rfl (by (try simp only [List.map_toArray, List.map_cons, List.map_nil]); first | done | rfl | (simp only [List.length_drop, List.length_take]; rfl)) ?_; (with_reducible refine (plane_Hull.calls _ _ t430 t446 t447 _ ?side1 ?side2 A56.out).mono ?_); (case side1 => repeat (first | exact (Kd.R_reads' HO_4.out).2.2 | (with_reducible refine Kd.C_alloc ?_ _) | (with_reducible refine Kd.C_drewN ?_ _) | (with_reducible refine Kd.C_drew ?_))); (case side2 => exact (Kd.R_reads' HO_4.out).2.1); rintro e w80 ⟨v448, rfl, ho0, hb⟩; refine ⟨_, rfl, ?_⟩; have n0_ := Aside0.mk (Kd.R_elder' (by (with_reducible repeat (first | apply Kd.R_alloc | apply Kd.R_drewN | apply Kd.R_drew)); exact HO_3.out) (Kd.R_base ho0) hb); have n1_ := Aside0.mk (Kd.R_elder' (by (with_reducible repeat (first | apply Kd.R_alloc | apply Kd.R_drewN | apply Kd.R_drew)); exact HO_4.out) (Kd.R_base ho0) hb); have n2_ := Aside0.mk (Kd.R_elder' (by (with_reducible repeat (first | apply Kd.R_alloc | apply Kd.R_drewN | apply Kd.R_drew)); exact HO_12.out) (Kd.R_base ho0) hb); have n3_ := Aside0.mk (Kd.R_lower (Kd.R_new' (Kd.R_new' (Kd.R_new' ho0 (Kd.R_lt (by (with_reducible repeat (first | apply Kd.R_alloc | apply Kd.R_drewN | apply Kd.R_drew)); exact HO_3.out))) (Kd.R_lt (by (with_reducible repeat (first | apply Kd.R_alloc | apply Kd.R_drewN | apply Kd.R_drew)); exact HO_4.out))) (Kd.R_lt (by (with_reducible repeat (first | apply Kd.R_alloc | apply Kd.R_drewN | apply Kd.R_drew)); exact HO_12.out))) (below_size (by repeat (first | (with_reducible first | exact HB.out | apply lA | apply lN | apply lD) | exact HB.out)))); have n4_ := Aside0.mk (below_step (by repeat (first | (with_reducible first | exact HB.out | apply lA | apply lN | apply lD) | exact HB.out)) hb); clear HO_3; clear HO_4; clear HO_12; clear HB; have HO_3 := n0_; have HO_4 := n1_; have HO_12 := n2_; have HO449 := n3_; have HB := n4_; clear n0_ n1_ n2_ n3_ n4_; (try clear hb); (try clear hb2); (try clear hk); (try clear hi); (try clear ho0); obtain ⟨Ao81, co81, eo81⟩ := Kd.R_slice HO_12.out; subst eo81) | ((with_reducible refine gate_callee (f := 32) rfl ?_); refine goesL_ (some 108) rfl rfl Try.func32 (by kernel_rfl) rfl #[.slice Ao81 x12_4.length co81] rfl (by (try simp only [List.map_toArray, List.map_cons, List.map_nil]); first | done | rfl | (simp only [List.length_drop, List.length_take]; rfl)) ?_; (with_reducible refine (plane_Hull.calls _ _ x12_4 t450 t451 _ ?side1 ?side2 A57.out).mono ?_); (case side1 => repeat (first | exact (Kd.R_reads' HO_12.out).2.2 | (with_reducible refine Kd.C_alloc ?_ _) | (with_reducible refine Kd.C_drewN ?_ _) | (with_reducible refine Kd.C_drew ?_))); (case side2 => exact (Kd.R_reads' HO_12.out).2.1); rintro e w82 ⟨v452, rfl, ho0, hb⟩; refine ⟨_, rfl, ?_⟩; have n0_ := Aside0.mk (Kd.R_elder' (by (with_reducible repeat (first | apply Kd.R_alloc | apply Kd.R_drewN | apply Kd.R_drew)); exact HO_3.out) (Kd.R_base ho0) hb); have n1_ := Aside0.mk (Kd.R_elder' (by (with_reducible repeat (first | apply Kd.R_alloc | apply Kd.R_drewN | apply Kd.R_drew)); exact HO_4.out) (Kd.R_base ho0) hb); have n2_ := Aside0.mk (Kd.R_elder' (by (with_reducible repeat (first | apply Kd.R_alloc | apply Kd.R_drewN | apply Kd.R_drew)); exact HO_12.out) (Kd.R_base ho0) hb); have n3_ := Aside0.mk (Kd.R_elder' (by (with_reducible repeat (first | apply Kd.R_alloc | apply Kd.R_drewN | apply Kd.R_drew)); exact HO449.out) (Kd.R_base ho0) hb); have n4_ := Aside0.mk (Kd.R_lower (Kd.R_new' (Kd.R_new' (Kd.R_new' (Kd.R_new' ho0 (Kd.R_lt (by (with_reducible repeat (first | apply Kd.R_alloc | apply Kd.R_drewN | apply Kd.R_drew)); exact HO_3.out))) (Kd.R_lt (by (with_reducible repeat (first | apply Kd.R_alloc | apply Kd.R_drewN | apply Kd.R_drew)); exact HO_4.out))) (Kd.R_lt (by (with_reducible repeat (first | apply Kd.R_alloc | apply Kd.R_drewN | apply Kd.R_drew)); exact HO_12.out))) (Kd.R_lt (by (with_reducible repeat (first | apply Kd.R_alloc | apply Kd.R_drewN | apply Kd.R_drew)); exact HO449.out))) (below_size (by repeat (first | (with_reducible first | exact HB.out | apply lA | apply lN | apply lD) | exact HB.out)))); have n5_ := Aside0.mk (below_step (by repeat (first | (with_reducible first | exact HB.out | apply lA | apply lN | apply lD) | exact HB.out)) hb); clear HO_3; clear HO_4; clear HO_12; clear HO449; clear HB; have HO_3 := n0_; have HO_4 := n1_; have HO_12 := n2_; have HO449 := n3_; have HO453 := n4_; have HB := n5_; clear n0_ n1_ n2_ n3_ n4_ n5_; (try clear hb); (try clear hb2); (try clear hk); (try clear hi); (try clear ho0)))
              go_ret
              exact ⟨by first | rfl | (simp [errW_none, errW_some] <;> rfl) | (simp [*, errW_none, errW_some] <;> rfl), by repeat (first | (with_reducible first | exact HB.out | apply lA | apply lN | apply lD) | exact HB.out)⟩
            ·rw [if_neg c58] at H
             have c58b0 : (t447 == 0) = false := beq_eq_false_iff_ne.mpr c58
             have c58b1 : (t447 != 0) = true := bne_iff_ne.mpr c58
             obtain rfl := Option.some.inj H
             go_wp2_with (first | ((with_reducible refine gate_callee (f := 32) rfl ?_); refine goesL_ (some 103) rfl rfl Try.func32 (by kernel_rfl) rfl #[.slice Ao8 t430.length co8] rfl (by (try simp only [List.map_toArray, List.map_cons, List.map_nil]); first | done | rfl | (simp only [List.length_drop, List.length_take]; rfl)) ?_; (with_reducible refine (plane_Hull.calls _ _ t430 t446 t447 _ ?side1 ?side2 A56.out).mono ?_); (case side1 => repeat (first | exact (Kd.R_reads' HO_4.out).2.2 | (with_reducible refine Kd.C_alloc ?_ _) | (with_reducible refine Kd.C_drewN ?_ _) | (with_reducible refine Kd.C_drew ?_))); (case side2 => exact (Kd.R_reads' HO_4.out).2.1); rintro e w83 ⟨v448, rfl, ho0, hb⟩; refine ⟨_, rfl, ?_⟩; have n0_ := Aside0.mk (Kd.R_elder' (by (with_reducible repeat (first | apply Kd.R_alloc | apply Kd.R_drewN | apply Kd.R_drew)); exact HO_3.out) (Kd.R_base ho0) hb); have n1_ := Aside0.mk (Kd.R_elder' (by (with_reducible repeat (first | apply Kd.R_alloc | apply Kd.R_drewN | apply Kd.R_drew)); exact HO_4.out) (Kd.R_base ho0) hb); have n2_ := Aside0.mk (Kd.R_elder' (by (with_reducible repeat (first | apply Kd.R_alloc | apply Kd.R_drewN | apply Kd.R_drew)); exact HO_12.out) (Kd.R_base ho0) hb); have n3_ := Aside0.mk (Kd.R_lower (Kd.R_new' (Kd.R_new' (Kd.R_new' ho0 (Kd.R_lt (by (with_reducible repeat (first | apply Kd.R_alloc | apply Kd.R_drewN | apply Kd.R_drew)); exact HO_3.out))) (Kd.R_lt (by (with_reducible repeat (first | apply Kd.R_alloc | apply Kd.R_drewN | apply Kd.R_drew)); exact HO_4.out))) (Kd.R_lt (by (with_reducible repeat (first | apply Kd.R_alloc | apply Kd.R_drewN | apply Kd.R_drew)); exact HO_12.out))) (below_size (by repeat (first | (with_reducible first | exact HB.out | apply lA | apply lN | apply lD) | exact HB.out)))); have n4_ := Aside0.mk (below_step (by repeat (first | (with_reducible first | exact HB.out | apply lA | apply lN | apply lD) | exact HB.out)) hb); clear HO_3; clear HO_4; clear HO_12; clear HB; have HO_3 := n0_; have HO_4 := n1_; have HO_12 := n2_; have HO449 := n3_; have HB := n4_; clear n0_ n1_ n2_ n3_ n4_; (try clear hb); (try clear hb2); (try clear hk); (try clear hi); (try clear ho0); obtain ⟨Ao84, co84, eo84⟩ := Kd.R_slice HO_12.out; subst eo84) | ((with_reducible refine gate_callee (f := 32) rfl ?_); refine goesL_ (some 108) rfl rfl Try.func32 (by kernel_rfl) rfl #[.slice Ao84 x12_4.length co84] rfl (by (try simp only [List.map_toArray, List.map_cons, List.map_nil]); first | done | rfl | (simp only [List.length_drop, List.length_take]; rfl)) ?_; (with_reducible refine (plane_Hull.calls _ _ x12_4 t450 t451 _ ?side1 ?side2 A57.out).mono ?_); (case side1 => repeat (first | exact (Kd.R_reads' HO_12.out).2.2 | (with_reducible refine Kd.C_alloc ?_ _) | (with_reducible refine Kd.C_drewN ?_ _) | (with_reducible refine Kd.C_drew ?_))); (case side2 => exact (Kd.R_reads' HO_12.out).2.1); rintro e w85 ⟨v452, rfl, ho0, hb⟩; refine ⟨_, rfl, ?_⟩; have n0_ := Aside0.mk (Kd.R_elder' (by (with_reducible repeat (first | apply Kd.R_alloc | apply Kd.R_drewN | apply Kd.R_drew)); exact HO_3.out) (Kd.R_base ho0) hb); have n1_ := Aside0.mk (Kd.R_elder' (by (with_reducible repeat (first | apply Kd.R_alloc | apply Kd.R_drewN | apply Kd.R_drew)); exact HO_4.out) (Kd.R_base ho0) hb); have n2_ := Aside0.mk (Kd.R_elder' (by (with_reducible repeat (first | apply Kd.R_alloc | apply Kd.R_drewN | apply Kd.R_drew)); exact HO_12.out) (Kd.R_base ho0) hb); have n3_ := Aside0.mk (Kd.R_elder' (by (with_reducible repeat (first | apply Kd.R_alloc | apply Kd.R_drewN | apply Kd.R_drew)); exact HO449.out) (Kd.R_base ho0) hb); have n4_ := Aside0.mk (Kd.R_lower (Kd.R_new' (Kd.R_new' (Kd.R_new' (Kd.R_new' ho0 (Kd.R_lt (by (with_reducible repeat (first | apply Kd.R_alloc | apply Kd.R_drewN | apply Kd.R_drew)); exact HO_3.out))) (Kd.R_lt (by (with_reducible repeat (first | apply Kd.R_alloc | apply Kd.R_drewN | apply Kd.R_drew)); exact HO_4.out))) (Kd.R_lt (by (with_reducible repeat (first | apply Kd.R_alloc | apply Kd.R_drewN | apply Kd.R_drew)); exact HO_12.out))) (Kd.R_lt (by (with_reducible repeat (first | apply Kd.R_alloc | apply Kd.R_drewN | apply Kd.R_drew)); exact HO449.out))) (below_size (by repeat (first | (with_reducible first | exact HB.out | apply lA | apply lN | apply lD) | exact HB.out)))); have n5_ := Aside0.mk (below_step (by repeat (first | (with_reducible first | exact HB.out | apply lA | apply lN | apply lD) | exact HB.out)) hb); clear HO_3; clear HO_4; clear HO_12; clear HO449; clear HB; have HO_3 := n0_; have HO_4 := n1_; have HO_12 := n2_; have HO449 := n3_; have HO453 := n4_; have HB := n5_; clear n0_ n1_ n2_ n3_ n4_ n5_; (try clear hb); (try clear hb2); (try clear hk); (try clear hi); (try clear ho0)))
             go_ret
             exact ⟨by first | rfl | (simp [errW_none, errW_some] <;> rfl) | (simp [*, errW_none, errW_some] <;> rfl), by repeat (first | (with_reducible first | exact HB.out | apply lA | apply lN | apply lD) | exact HB.out)⟩

end Go.Proofs.Ythaklbjcjoolcaa.P
namespace Go.Proofs.Ythaklbjcjoolcaa.P
open Go.RowKit Go.Proofs.YthaklbjcjoolcaaW.PrintWords Go.Proofs.YthaklbjcjoolcaaW.PrintLast Go.Proofs.YthaklbjcjoolcaaW.PrintMore
attribute [local go_sem] max2_int min2_int max_two min_two max_three min_three max_four min_four   -- for this text's walks alone
set_option linter.unusedVariables false
set_option linter.unusedSimpArgs false

/-! ### silversideref01_Set: function 33 -/
def silversideref01_Set.f (k : Nat) (l0 : List (S31)) : Option (Bool) := if (l0.length : Int) ≥ 1 then (if (l0.length : Int) ≤ 512 then ((silversideref01_Valids.f k l0).bind fun t315 => (some t315)) else (some false)) else (some false)
theorem silversideref01_Set.mono : ∀ a0 k, LeO (silversideref01_Set.f k a0) (silversideref01_Set.f (k + 1) a0) := by
 intro a0 k
 unfold silversideref01_Set.f
 repeat' first
   | (with_reducible exact silversideref01_Valids.mono _ _)
   | (with_reducible exact LeO.refl _)
   | (with_reducible exact LeO.none _)
   | (with_reducible refine LeO.ite ?_ ?_)
   | (with_reducible refine LeO.bind ?_ (fun _ => ?_))
   | exact silversideref01_Valids.mono _ _
   | exact LeO.none _
   | refine LeO.ite ?_ ?_
   | refine LeO.bind ?_ (fun _ => ?_)
set_option maxHeartbeats 8000000 in
set_option maxRecDepth 100000 in
theorem silversideref01_Set.calls (k : Nat) (A0 : Option Addr) (c0 : Nat) (l0 : List (S31)) (r : Bool) (w : World) (hr0 : Kd.C k31 w A0 l0.length l0) (hc0 : l0.length ≤ c0) (h : silversideref01_Set.f k l0 = some r) :
  Calls Try.prog 33 #[.slice A0 l0.length c0] w fun e w' => e = .returned (.bool r) ∧ Below w.heap.size w w' := by
 have HR0 := Aside0.mk hr0
 have HC0 := Aside0.mk hc0
 clear hr0 hc0
 have HB := Aside0.mk (Below.refl w.heap.size w)
 have H : (if (l0.length : Int) ≥ 1 then (if (l0.length : Int) ≤ 512 then ((silversideref01_Valids.f k l0).bind fun t315 => (some t315)) else (some false)) else (some false)) = some r := h
 clear h
 by_cases c2 : (l0.length : Int) ≥ 1
 ·rw [if_pos c2] at H
  have c2b0 : decide (1 ≤ (l0.length : Int)) = true := decide_eq_true c2
  have c2b1 : decide (1 ≤ l0.length) = true := decide_eq_true (by omega)
  clear c2
  by_cases c3 : (l0.length : Int) ≤ 512
  ·rw [if_pos c3] at H
   have c3b0 : decide ((l0.length : Int) ≤ 512) = true := decide_eq_true c3
   have c3b1 : decide (l0.length ≤ 512) = true := decide_eq_true (by omega)
   clear c3
   replace H := Option.bind_eq_some_iff.mp H
   obtain ⟨t315, A40, H⟩ := H
   replace H : (some t315) = some r := H
   have A4 := Aside0.mk A40
   clear A40
   obtain rfl := Option.some.inj H
   go_enter Try.func33, Try.ntmps33
   go_wp2_with (first | (go_at_call 22; (with_reducible refine (silversideref01_Valids.calls k _ _ l0 t315 _ ?side1 ?side2 A4.out).mono ?_); (case side1 => repeat (first | exact HR0.out | (with_reducible refine Kd.C_alloc ?_ _) | (with_reducible refine Kd.C_drewN ?_ _) | (with_reducible refine Kd.C_drew ?_))); (case side2 => exact HC0.out); rintro e w5 ⟨rfl, hb⟩; have n0_ := Aside0.mk (below_step (by repeat (first | (with_reducible first | exact HB.out | apply lA | apply lN | apply lD) | exact HB.out)) hb); clear HB; have HB := n0_; clear n0_; (try clear hb); (try clear hb2); (try clear hk); (try clear hi)))
   go_ret
   exact ⟨by first | rfl | (simp [errW_none, errW_some] <;> rfl) | (simp [*, errW_none, errW_some] <;> rfl), by repeat (first | (with_reducible first | exact HB.out | apply lA | apply lN | apply lD) | exact HB.out)⟩
  rw [if_neg c3] at H
  have c3b0 : decide ((l0.length : Int) ≤ 512) = false := decide_eq_false c3
  have c3b1 : decide (l0.length ≤ 512) = false := decide_eq_false (by omega)
  clear c3
  obtain rfl := Option.some.inj H
  go_enter Try.func33, Try.ntmps33
  go_wp2
  go_ret
  exact ⟨by first | rfl | (simp [errW_none, errW_some] <;> rfl) | (simp [*, errW_none, errW_some] <;> rfl), by repeat (first | (with_reducible first | exact HB.out | apply lA | apply lN | apply lD) | exact HB.out)⟩
 rw [if_neg c2] at H
 have c2b0 : decide (1 ≤ (l0.length : Int)) = false := decide_eq_false c2
 have c2b1 : decide (1 ≤ l0.length) = false := decide_eq_false (by omega)
 clear c2
 obtain rfl := Option.some.inj H
 go_enter Try.func33, Try.ntmps33
 go_wp2
 go_ret
 exact ⟨by first | rfl | (simp [errW_none, errW_some] <;> rfl) | (simp [*, errW_none, errW_some] <;> rfl), by repeat (first | (with_reducible first | exact HB.out | apply lA | apply lN | apply lD) | exact HB.out)⟩

end Go.Proofs.Ythaklbjcjoolcaa.P
namespace Go.Proofs.Ythaklbjcjoolcaa.P
open Go.RowKit Go.Proofs.YthaklbjcjoolcaaW.PrintWords Go.Proofs.YthaklbjcjoolcaaW.PrintLast Go.Proofs.YthaklbjcjoolcaaW.PrintMore
set_option linter.unusedVariables false
set_option linter.unusedSimpArgs false
theorem set_ev (l : List S31) (hl : l.length < 9223372036854775807) : Ev (fun k => silversideref01_Set.f k l) (isSetB l) := by
  unfold silversideref01_Set.f isSetB
  by_cases h1 : (l.length : Int) ≥ 1
  · refine ev_pos h1 ?_
    by_cases h2 : (l.length : Int) ≤ 512
    · refine ev_pos h2 ?_
      rw [decide_eq_true (show 1 ≤ l.length ∧ l.length ≤ 512 from ⟨by omega, by omega⟩), Bool.true_and]
      exact Ev.bind (valids_ev l hl) (Ev.now _)
    · refine ev_neg h2 ?_
      rw [decide_eq_false (show ¬ (1 ≤ l.length ∧ l.length ≤ 512) by omega), Bool.false_and]
      exact Ev.now _
  · refine ev_neg h1 ?_
    rw [decide_eq_false (show ¬ (1 ≤ l.length ∧ l.length ≤ 512) by omega), Bool.false_and]
    exact Ev.now _
theorem same_from (l : List S31) (hl : l.length < 9223372036854775807) : ∀ n i : Nat, l.length - i = n → i ≤ l.length → Ev (fun k => silversidelaw01_same.l0 k l l (i : Int)) true
  | 0, i, hn, hi => by
    refine Ev.step (f := fun _ => some true) (fun k => ?_) (Ev.now _)
    unfold silversidelaw01_same.l0
    rw [if_neg (by omega)]
  | n + 1, i, hn, hi => by
    refine Ev.step (fun k => ?_) (same_from l hl n (i + 1) (by omega) (by omega))
    conv => lhs; unfold silversidelaw01_same.l0
    rw [if_pos (by omega), if_pos (by omega), if_pos (by omega), if_neg (by simp), w64i (x := (i : Int) + 1) (by omega) (by omega)]
    rfl
theorem same_ev (l : List S31) (hl : l.length < 9223372036854775807) : Ev (fun k => silversidelaw01_same.f k l l) true := by
  unfold silversidelaw01_same.f
  exact ev_pos rfl (same_from l hl (l.length - 0) 0 rfl (by omega))
end Go.Proofs.Ythaklbjcjoolcaa.P
namespace Go.Proofs.Ythaklbjcjoolcaa.P
open Go.RowKit Go.Shelf Go.Sort Go.Proofs.YthaklbjcjoolcaaW.PrintWords Go.Proofs.YthaklbjcjoolcaaW.PrintLast Go.Proofs.YthaklbjcjoolcaaW.PrintMore
set_option linter.unusedVariables false
set_option linter.unusedSimpArgs false
/-- a point is on a segment -/
def onB (a b p : S31) : Bool := decide (crs a b p = 0) && (decide (mn a.f0 b.f0 ≤ p.f0) && (decide (p.f0 ≤ mx a.f0 b.f0) && (decide (mn a.f1 b.f1 ≤ p.f1) && decide (p.f1 ≤ mx a.f1 b.f1))))
end Go.Proofs.Ythaklbjcjoolcaa.P
namespace Go.Proofs.Ythaklbjcjoolcaa.P
open Go.RowKit Go.Shelf Go.Sort Go.Proofs.YthaklbjcjoolcaaW.PrintWords Go.Proofs.YthaklbjcjoolcaaW.PrintLast Go.Proofs.YthaklbjcjoolcaaW.PrintMore
set_option linter.unusedVariables false
set_option linter.unusedSimpArgs false
/-- a vector points into the right half plane (or straight up) -/
def rgt (x y : Int) : Prop := 0 < x ∨ x = 0 ∧ 0 < y
/-- the order of two vectors by their directions -/
def cr (ax ay bx b_y : Int) : Int := ax * b_y - ay * bx
theorem cr_key (ax ay bx b_y cx cy : Int) : bx * cr ax ay cx cy = ax * cr bx b_y cx cy + cx * cr ax ay bx b_y := by unfold cr; grind
theorem cr_swap (ax ay bx b_y : Int) : cr bx b_y ax ay = - cr ax ay bx b_y := by unfold cr; grind
theorem nn_of {b t : Int} (hb : 0 < b) (h : 0 ≤ b * t) : 0 ≤ t := by
  rcases Int.lt_or_le t 0 with h1 | h1
  · have := Int.mul_neg_of_pos_of_neg hb h1; omega
  · exact h1
theorem pos_of {b t : Int} (hb : 0 < b) (h : 0 < b * t) : 0 < t := by
  rcases Int.lt_or_le 0 t with h1 | h1
  · exact h1
  · have := Int.mul_le_mul_of_nonneg_left h1 (Int.le_of_lt hb); omega
theorem nn_mul {a b : Int} (ha : 0 ≤ a) (hb : 0 ≤ b) : 0 ≤ a * b := Int.mul_nonneg ha hb
theorem ps_mul {a b : Int} (ha : 0 < a) (hb : 0 < b) : 0 < a * b := Int.mul_pos ha hb
theorem cr_trans {ax ay bx b_y cx cy : Int} (ha : rgt ax ay) (hb : rgt bx b_y) (hc : rgt cx cy) (h1 : 0 ≤ cr ax ay bx b_y) (h2 : 0 ≤ cr bx b_y cx cy) : 0 ≤ cr ax ay cx cy := by
  have hax : 0 ≤ ax := by unfold rgt at ha; omega
  have hcx : 0 ≤ cx := by unfold rgt at hc; omega
  rcases hb with hb | ⟨rfl, hb⟩
  · refine nn_of hb ?_
    rw [cr_key ax ay bx b_y cx cy]
    have := nn_mul hax h2; have := nn_mul hcx h1; omega
  · unfold cr at h1 h2
    have h3 : 0 ≤ ax * b_y := by grind
    have h4 : 0 ≤ -(b_y * cx) := by grind
    have hcx0 : cx = 0 := by
      rcases Int.lt_or_le 0 cx with h | h
      · have := ps_mul hb h; omega
      · omega
    subst hcx0
    have hcy : 0 < cy := by unfold rgt at hc; omega
    unfold cr
    have := nn_mul hax (Int.le_of_lt hcy)
    grind
theorem cr_trans_lt {ax ay bx b_y cx cy : Int} (ha : rgt ax ay) (hb : rgt bx b_y) (hc : rgt cx cy) (h1 : 0 ≤ cr ax ay bx b_y) (h2 : 0 ≤ cr bx b_y cx cy) (h3 : 0 < cr ax ay bx b_y ∨ 0 < cr bx b_y cx cy) : 0 < cr ax ay cx cy := by
  have hax : 0 ≤ ax := by unfold rgt at ha; omega
  have hcx : 0 ≤ cx := by unfold rgt at hc; omega
  rcases hb with hb | ⟨rfl, hb⟩
  · refine pos_of hb ?_
    rw [cr_key ax ay bx b_y cx cy]
    have m1 := nn_mul hax h2; have m2 := nn_mul hcx h1
    rcases h3 with h3 | h3
    · rcases Int.lt_or_le 0 cx with h | h
      · have := ps_mul h h3; omega
      · have hcx0 : cx = 0 := by omega
        subst hcx0
        have hcy : 0 < cy := by unfold rgt at hc; omega
        have h4 : 0 < cr bx b_y 0 cy := by unfold cr; have := ps_mul hb hcy; grind
        rcases Int.lt_or_le 0 ax with h5 | h5
        · have := ps_mul h5 h4; omega
        · have hax0 : ax = 0 := by omega
          subst hax0
          have hay : 0 < ay := by unfold rgt at ha; omega
          unfold cr at h3
          have := ps_mul hay hb
          grind
    · rcases Int.lt_or_le 0 ax with h | h
      · have := ps_mul h h3; omega
      · have hax0 : ax = 0 := by omega
        subst hax0
        have hay : 0 < ay := by unfold rgt at ha; omega
        unfold cr at h1
        have := ps_mul hay hb
        grind
  · unfold cr at h1 h2 h3
    have h4 : 0 ≤ -(b_y * cx) := by grind
    have hcx0 : cx = 0 := by
      rcases Int.lt_or_le 0 cx with h | h
      · have := ps_mul hb h; omega
      · omega
    subst hcx0
    have hcy : 0 < cy := by unfold rgt at hc; omega
    have hax1 : 0 < ax := by
      rcases h3 with h3 | h3
      · rcases Int.lt_or_le 0 ax with h | h
        · exact h
        · have : ax = 0 := by omega
          subst this; grind
      · grind
    unfold cr
    have := ps_mul hax1 hcy
    grind
theorem crs_cr (a b c : S31) : crs a b c = cr (b.f0 - a.f0) (b.f1 - a.f1) (c.f0 - a.f0) (c.f1 - a.f1) := rfl
theorem ltP_rgt {a b : S31} : ltP a b = true ↔ rgt (b.f0 - a.f0) (b.f1 - a.f1) := by unfold ltP rgt; rw [decide_eq_true_eq]; omega
theorem crs_turn (a b c : S31) : crs a b c = cr (b.f0 - a.f0) (b.f1 - a.f1) (c.f0 - b.f0) (c.f1 - b.f1) := by unfold crs cr; grind
theorem crs_rot (a b c : S31) : crs b c a = crs a b c := by unfold crs; grind
theorem crs_swap (a b c : S31) : crs a c b = - crs a b c := by unfold crs; grind
theorem ltP_trans {a b c : S31} (h1 : ltP a b = true) (h2 : ltP b c = true) : ltP a c = true := by unfold ltP at *; rw [decide_eq_true_eq] at *; omega
theorem ltP_irr (a : S31) : ¬ ltP a a = true := by unfold ltP; rw [decide_eq_true_eq]; omega
theorem ltP_tot (a b : S31) : ltP a b = true ∨ a = b ∨ ltP b a = true := by
  unfold ltP; rw [decide_eq_true_eq, decide_eq_true_eq]
  by_cases h : a = b
  · exact Or.inr (Or.inl h)
  · have : a.f0 ≠ b.f0 ∨ a.f1 ≠ b.f1 := by
      by_cases h0 : a.f0 = b.f0
      · exact Or.inr (fun h1 => h (S31.ext' h0 h1))
      · exact Or.inl h0
    omega
/-- three turns: two left turns on the way to the right make the whole way turn left -/
theorem turn_far {a b c q : S31} (h1 : ltP a b = true) (h2 : ltP b c = true) (h3 : ltP c q = true) (ht1 : 0 < crs a b c) (ht2 : 0 < crs b c q) : 0 < crs a b q := by
  have ha := ltP_rgt.1 h1; have hb := ltP_rgt.1 h2; have hc := ltP_rgt.1 h3
  rw [crs_turn] at ht1 ht2
  have := cr_trans_lt ha hb hc (Int.le_of_lt ht1) (Int.le_of_lt ht2) (Or.inl ht1)
  have e : crs a b q = cr (b.f0 - a.f0) (b.f1 - a.f1) (c.f0 - b.f0) (c.f1 - b.f1) + cr (b.f0 - a.f0) (b.f1 - a.f1) (q.f0 - c.f0) (q.f1 - c.f1) := by unfold crs cr; grind
  omega
/-- what lies to the left of an edge lies to the left of the next one if it is further back -/
theorem turn_back_pt {w u p r : S31} (h1 : ltP w u = true) (h2 : ltP u p = true) (h3 : ltP r u = true) (ht1 : 0 ≤ crs w u r) (ht2 : 0 < crs w u p) : 0 < crs u p r := by
  have ha := ltP_rgt.1 h1; have hb := ltP_rgt.1 h2; have hc := ltP_rgt.1 h3
  rw [crs_turn] at ht2
  have e : cr (u.f0 - r.f0) (u.f1 - r.f1) (u.f0 - w.f0) (u.f1 - w.f1) = crs w u r := by unfold crs cr; grind
  have := cr_trans_lt hc ha hb (by rw [e]; exact ht1) (Int.le_of_lt ht2) (Or.inr ht2)
  have e2 : crs u p r = cr (u.f0 - r.f0) (u.f1 - r.f1) (p.f0 - u.f0) (p.f1 - u.f1) := by unfold crs cr; grind
  omega
/-- what lies to the left of a way lies to the left of a way further right -/
theorem turn_on {u v p r : S31} (h1 : ltP u v = true) (h2 : ltP u p = true) (h3 : ltP u r = true) (ht1 : 0 ≤ crs u v r) (ht2 : crs u v p ≤ 0) : 0 ≤ crs u p r := by
  have ha := ltP_rgt.1 h1; have hb := ltP_rgt.1 h2; have hc := ltP_rgt.1 h3
  rw [crs_cr] at *
  exact cr_trans hb ha hc (by rw [cr_swap]; omega) ht1
theorem pt_app_l (A B : List S31) (i : Nat) (h : i < A.length) : pt (A ++ B) i = pt A i := by
  unfold pt; rw [List.getD_eq_getElem?_getD, List.getD_eq_getElem?_getD, List.getElem?_append_left h]
theorem pt_app_r (A B : List S31) (i : Nat) (h : A.length ≤ i) : pt (A ++ B) i = pt B (i - A.length) := by
  unfold pt; rw [List.getD_eq_getElem?_getD, List.getD_eq_getElem?_getD, List.getElem?_append_right h]
theorem pt_take (A : List S31) (n i : Nat) (h : i < n) : pt (A.take n) i = pt A i := by
  unfold pt; rw [List.getD_eq_getElem?_getD, List.getD_eq_getElem?_getD, List.getElem?_take, if_pos h]
theorem pt_mem (A : List S31) (i : Nat) (h : i < A.length) : pt A i ∈ A := by rw [pt_eq A i h]; exact List.getElem_mem _
theorem mem_pt {A : List S31} {p : S31} (h : p ∈ A) : ∃ i, i < A.length ∧ pt A i = p := by
  obtain ⟨i, hi, e⟩ := List.mem_iff_getElem.1 h
  exact ⟨i, hi, by rw [pt_eq A i hi, e]⟩
/-- a point is to the left of a way to the right, or between its ends -/
def Up (a b r : S31) : Prop := 0 ≤ crs a b r ∧ (crs a b r = 0 → ¬ ltP r a = true ∧ ¬ ltP b r = true)
/-- what a chain keeps: it goes to the right, turns left, and leaves no point that was read on its right -/
structure Ch (R out : List S31) : Prop where
  pos : 0 < out.length
  inc : ∀ i, i + 1 < out.length → ltP (pt out i) (pt out (i + 1)) = true
  mem : ∀ i, i < out.length → pt out i ∈ R
  ed : ∀ i, i + 1 < out.length → ∀ r ∈ R, Up (pt out i) (pt out (i + 1)) r
  trn : ∀ i, i + 2 < out.length → 0 < crs (pt out i) (pt out (i + 1)) (pt out (i + 2))
  hd : ∀ r ∈ R, ¬ ltP r (pt out 0) = true
  lst : ∀ r ∈ R, ¬ ltP (pt out (out.length - 1)) r = true
theorem popN_spec (out : List S31) (p : S31) : ∀ m, 1 ≤ m → 1 ≤ popN out p m ∧ (2 ≤ popN out p m → 0 < crs (pt out (popN out p m - 2)) (pt out (popN out p m - 1)) p) ∧ (popN out p m < m → crs (pt out (popN out p m - 1)) (pt out (popN out p m)) p ≤ 0)
  | 0, h => by omega
  | 1, _ => by simp [popN]
  | m + 2, _ => by
    have ih := popN_spec out p (m + 1) (by omega)
    have hle := popN_le out p (m + 1)
    unfold popN
    by_cases h : crs (pt out m) (pt out (m + 1)) p ≤ 0
    · rw [if_pos h]
      refine ⟨ih.1, ih.2.1, fun _ => ?_⟩
      rcases Nat.lt_or_ge (popN out p (m + 1)) (m + 1) with h1 | h1
      · exact ih.2.2 h1
      · have e : popN out p (m + 1) = m + 1 := by omega
        rw [e]; exact h
    · rw [if_neg h]
      refine ⟨by omega, fun _ => ?_, fun h1 => by omega⟩
      show 0 < crs (pt out m) (pt out (m + 1)) p
      omega
theorem crs_same (a b : S31) : crs a b a = 0 := by unfold crs; grind
theorem crs_end (a b : S31) : crs a b b = 0 := by unfold crs; grind
theorem ltP_asym {a b : S31} (h : ltP a b = true) : ¬ ltP b a = true := fun h1 => ltP_irr a (ltP_trans h h1)
theorem Ch.step {R out : List S31} {p : S31} (H : Ch R out) (hp : ∀ r ∈ R, ltP r p = true) : Ch (R ++ [p]) (chStep out p) := by
  obtain ⟨hn1, hn2, hn3⟩ := popN_spec out p out.length H.pos
  have hnl := popN_le out p out.length
  have hlen : (chStep out p).length = popN out p out.length + 1 := by unfold chStep; rw [List.length_append, List.length_take]; simp; omega
  have hold : ∀ i, i < popN out p out.length → pt (chStep out p) i = pt out i := by
    intro i hi
    unfold chStep
    rw [pt_app_l _ _ _ (by rw [List.length_take]; omega), pt_take _ _ _ hi]
  have hnew : pt (chStep out p) (popN out p out.length) = p := by
    unfold chStep
    rw [pt_app_r _ _ _ (by rw [List.length_take]; omega), List.length_take, Nat.min_eq_left hnl, Nat.sub_self]; rfl
  generalize chStep out p = O at *
  generalize popN out p out.length = n at *
  have far : ∀ d i, i + 2 + d = n → 0 < crs (pt out i) (pt out (i + 1)) p := by
    intro d
    induction d with
    | zero => intro i hi; obtain rfl : n = i + 2 := by omega
              exact hn2 (by omega)
    | succ d ih =>
      intro i hi
      exact turn_far (H.inc i (by omega)) (H.inc (i + 1) (by omega)) (hp _ (H.mem (i + 2) (by omega))) (H.trn i (by omega)) (ih (i + 1) (by omega))
  refine ⟨by omega, ?_, ?_, ?_, ?_, ?_, ?_⟩
  · intro i hi
    rw [hold i (by omega)]
    rcases Nat.lt_or_ge (i + 1) n with h | h
    · rw [hold _ h]; exact H.inc i (by omega)
    · obtain rfl : n = i + 1 := by omega
      rw [hnew]; exact hp _ (H.mem i (by omega))
  · intro i hi
    rcases Nat.lt_or_ge i n with h | h
    · rw [hold i h]; exact List.mem_append_left _ (H.mem i (by omega))
    · obtain rfl : n = i := by omega
      rw [hnew]; simp
  · intro i hi r hr
    rw [hold i (by omega)]
    rw [List.mem_append, List.mem_singleton] at hr
    rcases Nat.lt_or_ge (i + 1) n with h | h
    · rw [hold _ h]
      rcases hr with hr | rfl
      · exact H.ed i (by omega) r hr
      · have := far (n - (i + 2)) i (by omega)
        exact ⟨by omega, fun h => by omega⟩
    · obtain rfl : n = i + 1 := by omega
      rw [hnew]
      rcases hr with hr | rfl
      · rcases ltP_tot r (pt out i) with h1 | rfl | h1
        · have hi0 : 0 < i := by
            rcases Nat.eq_zero_or_pos i with rfl | h2
            · exact absurd h1 (H.hd r hr)
            · exact h2
          obtain ⟨j, rfl⟩ : ∃ j, i = j + 1 := ⟨i - 1, by omega⟩
          have h3 := turn_back_pt (H.inc j (by omega)) (hp _ (H.mem (j + 1) (by omega))) h1 (H.ed j (by omega) r hr).1 (far 0 j (by omega))
          exact ⟨by omega, fun h => by omega⟩
        · rw [Up, crs_same]
          exact ⟨Int.le_refl 0, fun _ => ⟨ltP_irr _, ltP_asym (hp _ hr)⟩⟩
        · have hl : i + 1 < out.length := by
            rcases Nat.lt_or_ge (i + 1) out.length with h2 | h2
            · exact h2
            · have e : out.length - 1 = i := by omega
              have := H.lst r hr; rw [e] at this; exact absurd h1 this
          refine ⟨turn_on (H.inc i hl) (hp _ (H.mem i (by omega))) h1 (H.ed i hl r hr).1 (hn3 (by omega)), fun _ => ⟨ltP_asym h1, ltP_asym (hp _ hr)⟩⟩
      · rw [Up, crs_end]
        exact ⟨Int.le_refl 0, fun _ => ⟨ltP_asym (hp _ (H.mem i (by omega))), ltP_irr _⟩⟩
  · intro i hi
    rw [hold i (by omega), hold (i + 1) (by omega)]
    rcases Nat.lt_or_ge (i + 2) n with h | h
    · rw [hold _ h]; exact H.trn i (by omega)
    · obtain rfl : n = i + 2 := by omega
      rw [hnew]; exact far 0 i (by omega)
  · intro r hr
    rw [hold 0 (by omega)]
    rw [List.mem_append, List.mem_singleton] at hr
    rcases hr with hr | rfl
    · exact H.hd r hr
    · exact ltP_asym (hp _ (H.mem 0 (by omega)))
  · intro r hr
    have e : O.length - 1 = n := by omega
    rw [e, hnew]
    rw [List.mem_append, List.mem_singleton] at hr
    rcases hr with hr | rfl
    · exact ltP_asym (hp _ hr)
    · exact ltP_irr _
theorem Ch.one (p : S31) : Ch [p] [p] := by
  refine ⟨by simp, by simp, by simp [pt], by simp, by simp, ?_, ?_⟩
  · intro r hr; rw [List.mem_singleton] at hr; subst hr; exact ltP_irr _
  · intro r hr; rw [List.mem_singleton] at hr; subst hr; exact ltP_irr _
/-- points in order, each once -/
def Asc (l : List S31) : Prop := ∀ i j, i < j → j < l.length → ltP (pt l i) (pt l j) = true
theorem chain_ch (l : List S31) (h : Asc l) (h1 : 0 < l.length) : Ch l (chainL l) := by
  have key : ∀ k, k < l.length → Ch (l.take (k + 1)) (chainL (l.take (k + 1))) := by
    intro k
    induction k with
    | zero =>
      intro hk
      have e : l.take (0 + 1) = [pt l 0] := by rw [take_pt l 0 hk]; rfl
      rw [e]; exact Ch.one _
    | succ k ih =>
      intro hk
      rw [take_pt l (k + 1) hk, chainL_snoc]
      refine (ih (by omega)).step ?_
      intro r hr
      obtain ⟨i, hi, rfl⟩ := mem_pt hr
      rw [List.length_take] at hi
      rw [pt_take _ _ _ (by omega)]
      exact h i (k + 1) (by omega) hk
  have := key (l.length - 1) (by omega)
  rw [show l.length - 1 + 1 = l.length by omega, List.take_length] at this
  exact this
theorem sortP_asc (l : List S31) (i j : Nat) (hij : i < j) (hj : j < (sortP l).length) : ¬ ltP (pt (sortP l) j) (pt (sortP l) i) = true := by
  have hp : (sortP l).Pairwise (fun x y => (!ltP y x) = true) := by
    unfold sortP
    refine List.pairwise_mergeSort ?_ ?_ l
    · intro a b c h1 h2
      simp only [Bool.not_eq_true', ltP, decide_eq_false_iff_not] at *
      omega
    · intro a b
      simp only [Bool.or_eq_true, Bool.not_eq_true', ltP, decide_eq_false_iff_not]
      omega
  have := List.pairwise_iff_getElem.1 hp i j (by omega) hj hij
  rw [pt_eq _ _ hj, pt_eq _ _ (by omega)]
  simpa using this
theorem sortP_mem (l : List S31) (p : S31) : p ∈ sortP l ↔ p ∈ l := (List.mergeSort_perm _ _).mem_iff
theorem asc_snoc {L : List S31} {p : S31} (h : Asc L) (hp : ∀ r ∈ L, ltP r p = true) : Asc (L ++ [p]) := by
  intro i j hij hj
  rw [List.length_append, List.length_singleton] at hj
  rw [pt_app_l L _ i (by omega)]
  rcases Nat.lt_or_ge j L.length with h1 | h1
  · rw [pt_app_l L _ j h1]; exact h i j hij h1
  · obtain rfl : j = L.length := by omega
    rw [pt_app_r L _ _ (Nat.le_refl _), Nat.sub_self]
    exact hp _ (pt_mem L i (by omega))
theorem ddL_facts (xs : List S31) (hs : ∀ i j, i < j → j < xs.length → ¬ ltP (pt xs j) (pt xs i) = true) : ∀ k, 1 ≤ k → k ≤ xs.length →
    Asc (ddL xs k) ∧ 0 < (ddL xs k).length ∧ (∀ r ∈ ddL xs k, r = pt xs (k - 1) ∨ ltP r (pt xs (k - 1)) = true) ∧ (∀ i, i < k → pt xs i ∈ ddL xs k)
  | 0, h, _ => by omega
  | 1, _, _ => by
    refine ⟨fun i j hij hj => ?_, by simp [ddL], by simp [ddL], ?_⟩
    · simp [ddL] at hj; omega
    · intro i hi; obtain rfl : i = 0 := by omega
      simp [ddL]
  | k + 2, _, hk => by
    obtain ⟨a1, a2, a3, a4⟩ := ddL_facts xs hs (k + 1) (by omega) (by omega)
    unfold ddL
    rw [show k + 1 - 1 = k by omega] at a3
    rw [show k + 2 - 1 = k + 1 by omega]
    by_cases he : pt xs (k + 1) = pt xs k
    · rw [if_pos he]
      refine ⟨a1, a2, by rw [he]; exact a3, fun i hi => ?_⟩
      rcases Nat.lt_or_ge i (k + 1) with h | h
      · exact a4 i h
      · obtain rfl : i = k + 1 := by omega
        rw [he]; exact a4 k (by omega)
    · rw [if_neg he]
      have hlt : ltP (pt xs k) (pt xs (k + 1)) = true := by
        rcases ltP_tot (pt xs k) (pt xs (k + 1)) with h | h | h
        · exact h
        · exact absurd h.symm he
        · exact absurd h (hs k (k + 1) (by omega) (by omega))
      have hall : ∀ r ∈ ddL xs (k + 1), ltP r (pt xs (k + 1)) = true := by
        intro r hr
        rcases a3 r hr with rfl | h
        · exact hlt
        · exact ltP_trans h hlt
      refine ⟨asc_snoc a1 hall, by simp, ?_, ?_⟩
      · intro r hr
        rw [List.mem_append, List.mem_singleton] at hr
        rcases hr with hr | rfl
        · exact Or.inr (hall r hr)
        · exact Or.inl rfl
      · intro i hi
        rcases Nat.lt_or_ge i (k + 1) with h | h
        · exact List.mem_append_left _ (a4 i h)
        · obtain rfl : i = k + 1 := by omega
          simp
theorem ddL_mem (xs : List S31) : ∀ k, k ≤ xs.length → ∀ p, p ∈ ddL xs k → p ∈ xs
  | 0, _, p, h => by simp [ddL] at h
  | 1, hk, p, h => by
    simp only [ddL, List.mem_singleton] at h
    rw [h]; exact pt_mem xs 0 (by omega)
  | k + 2, hk, p, h => by
    unfold ddL at h
    split at h
    · exact ddL_mem xs (k + 1) (by omega) p h
    · rw [List.mem_append, List.mem_singleton] at h
      rcases h with h | h
      · exact ddL_mem xs (k + 1) (by omega) p h
      · rw [h]; exact pt_mem xs (k + 1) (by omega)
theorem sortP_length (xs : List S31) : (sortP xs).length = xs.length := List.length_mergeSort ..
theorem sortedS_asc (l : List S31) (h : 0 < l.length) : Asc (sortedS l) ∧ 0 < (sortedS l).length := by
  have := ddL_facts (sortP l) (fun i j h1 h2 => sortP_asc l i j h1 h2) (sortP l).length (by rw [sortP_length]; exact h) (Nat.le_refl _)
  exact ⟨this.1, this.2.1⟩
theorem sortedS_mem (l : List S31) (p : S31) : p ∈ sortedS l ↔ p ∈ l := by
  rw [← sortP_mem l p]
  constructor
  · exact ddL_mem _ _ (Nat.le_refl _) p
  · intro h
    obtain ⟨i, hi, rfl⟩ := mem_pt h
    have := ddL_facts (sortP l) (fun i j h1 h2 => sortP_asc l i j h1 h2) (sortP l).length (by omega) (Nat.le_refl _)
    exact this.2.2.2 i hi
/-- a point turned round the origin -/
def neg (p : S31) : S31 := ⟨-p.f0, -p.f1⟩
theorem neg_neg (p : S31) : neg (neg p) = p := by unfold neg; cases p; simp
theorem crs_neg (a b c : S31) : crs (neg a) (neg b) (neg c) = crs a b c := by unfold crs neg; grind
theorem ltP_neg (a b : S31) : ltP (neg a) (neg b) = ltP b a := by
  rw [Bool.eq_iff_iff]; unfold ltP neg; rw [decide_eq_true_eq, decide_eq_true_eq]
  show (-a.f0 < -b.f0 ∨ -a.f0 = -b.f0 ∧ -a.f1 < -b.f1) ↔ _
  omega
theorem pt_neg (l : List S31) (i : Nat) : pt (l.map neg) i = neg (pt l i) := by
  unfold pt
  rw [List.getD_eq_getElem?_getD, List.getD_eq_getElem?_getD, List.getElem?_map]
  cases l[i]? <;> rfl
theorem popN_neg (out : List S31) (p : S31) : ∀ m, popN (out.map neg) (neg p) m = popN out p m
  | 0 => rfl
  | 1 => rfl
  | m + 2 => by unfold popN; rw [pt_neg, pt_neg, crs_neg, popN_neg out p (m + 1)]
theorem chain_neg (l : List S31) : chainL (l.map neg) = (chainL l).map neg := by
  have key : ∀ (xs out : List S31), (xs.map neg).foldl chStep (out.map neg) = (xs.foldl chStep out).map neg := by
    intro xs
    induction xs with
    | nil => intro out; rfl
    | cons p xs ih =>
      intro out
      rw [List.map_cons, List.foldl_cons, List.foldl_cons, ← ih]
      congr 1
      unfold chStep
      rw [List.length_map, popN_neg, List.map_append, List.map_take]; rfl
  exact key l []
theorem pt_rev (l : List S31) (i : Nat) (h : i < l.length) : pt l.reverse i = pt l (l.length - 1 - i) := by
  rw [pt_eq _ _ (by rw [List.length_reverse]; exact h), pt_eq _ _ (by omega), List.getElem_reverse]
theorem upper_ch (l : List S31) (h : Asc l) (h1 : 0 < l.length) : Ch (l.reverse.map neg) ((chainL l.reverse).map neg) := by
  rw [← chain_neg]
  refine chain_ch _ ?_ (by simpa using h1)
  intro i j hij hj
  rw [List.length_map, List.length_reverse] at hj
  rw [pt_neg, pt_neg, ltP_neg, pt_rev l j hj, pt_rev l i (by omega)]
  exact h _ _ (by omega) (by omega)
theorem onB_iff (a b r : S31) : onB a b r = true ↔ crs a b r = 0 ∧ (mn a.f0 b.f0 ≤ r.f0 ∧ r.f0 ≤ mx a.f0 b.f0) ∧ (mn a.f1 b.f1 ≤ r.f1 ∧ r.f1 ≤ mx a.f1 b.f1) := by
  unfold onB; simp only [Bool.and_eq_true, decide_eq_true_eq, and_assoc]
theorem btw (a b r : Int) : (mn a b ≤ r ∧ r ≤ mx a b) ↔ (a ≤ r ∧ r ≤ b ∨ b ≤ r ∧ r ≤ a) := by unfold mn mx; split <;> omega
theorem onB_iff' (a b r : S31) : onB a b r = true ↔ crs a b r = 0 ∧ (a.f0 ≤ r.f0 ∧ r.f0 ≤ b.f0 ∨ b.f0 ≤ r.f0 ∧ r.f0 ≤ a.f0) ∧ (a.f1 ≤ r.f1 ∧ r.f1 ≤ b.f1 ∨ b.f1 ≤ r.f1 ∧ r.f1 ≤ a.f1) := by rw [onB_iff, btw, btw]
theorem onB_neg (a b r : S31) : onB (neg a) (neg b) (neg r) = onB a b r := by
  rw [Bool.eq_iff_iff, onB_iff', onB_iff', crs_neg]
  unfold neg; simp only
  constructor <;> (intro ⟨h1, h2, h3⟩; exact ⟨h1, by omega, by omega⟩)
theorem onB_swap (a b r : S31) : onB b a r = onB a b r := by
  rw [Bool.eq_iff_iff, onB_iff', onB_iff', show crs b a r = - crs a b r by unfold crs; grind]
  constructor <;> (intro ⟨h1, h2, h3⟩; exact ⟨by omega, by omega, by omega⟩)
/-- a point is to the left of an edge or on it -/
def Lf (a b r : S31) : Prop := 0 < crs a b r ∨ onB a b r = true
theorem Lf.nn {a b r : S31} (h : Lf a b r) : 0 ≤ crs a b r := by
  rcases h with h | h
  · omega
  · have := ((onB_iff a b r).1 h).1; omega
theorem Up.lf {a b r : S31} (h : Up a b r) (hab : ltP a b = true) : Lf a b r := by
  obtain ⟨h1, h2⟩ := h
  rcases Int.lt_or_eq_of_le h1 with h3 | h3
  · exact Or.inl h3
  · right
    obtain ⟨h4, h5⟩ := h2 h3.symm
    rw [onB_iff']
    refine ⟨h3.symm, ?_⟩
    have hc := h3.symm
    unfold crs at hc
    unfold ltP at hab h4 h5
    rw [decide_eq_true_eq] at hab h4 h5
    rcases hab with hab | ⟨ha, hab⟩
    · have hx0 : a.f0 ≤ r.f0 := by omega
      have hx1 : r.f0 ≤ b.f0 := by omega
      refine ⟨Or.inl ⟨hx0, hx1⟩, ?_⟩
      have hd : 0 < b.f0 - a.f0 := by omega
      rcases Int.le_total a.f1 b.f1 with hy | hy
      · left
        have m1 := nn_mul (a := b.f1 - a.f1) (b := r.f0 - a.f0) (by omega) (by omega)
        have m2 := nn_mul (a := b.f1 - a.f1) (b := b.f0 - r.f0) (by omega) (by omega)
        have e1 := nn_of (t := r.f1 - a.f1) hd (by omega)
        have e2 := nn_of (t := b.f1 - r.f1) hd (by grind)
        omega
      · right
        have m1 := nn_mul (a := a.f1 - b.f1) (b := r.f0 - a.f0) (by omega) (by omega)
        have m2 := nn_mul (a := a.f1 - b.f1) (b := b.f0 - r.f0) (by omega) (by omega)
        have e1 := nn_of (t := a.f1 - r.f1) hd (by grind)
        have e2 := nn_of (t := r.f1 - b.f1) hd (by grind)
        omega
    · have hx : r.f0 = a.f0 := by omega
      exact ⟨by omega, by omega⟩
/-- the square of the distance -/
def sqd (a b : S31) : Int := (a.f0 - b.f0) * (a.f0 - b.f0) + (a.f1 - b.f1) * (a.f1 - b.f1)
theorem sq_mono {s t : Int} (h : 0 ≤ s ∧ s ≤ t ∨ t ≤ s ∧ s ≤ 0) : s * s ≤ t * t := by
  rcases h with h | h
  · have := nn_mul (a := t - s) (b := t + s) (by omega) (by omega); grind
  · have := nn_mul (a := s - t) (b := -(t + s)) (by omega) (by omega); grind
theorem sq_mono_lt {s t : Int} (h : 0 ≤ s ∧ s < t ∨ t < s ∧ s ≤ 0) : s * s < t * t := by
  rcases h with h | h
  · have := ps_mul (a := t - s) (b := t + s) (by omega) (by omega); grind
  · have := ps_mul (a := s - t) (b := -(t + s)) (by omega) (by omega); grind
theorem on_sq {a b r : S31} (h : onB a b r = true) (hr : r ≠ b) : sqd a r < sqd a b := by
  obtain ⟨_, h1, h2⟩ := (onB_iff' a b r).1 h
  unfold sqd
  have hne : r.f0 ≠ b.f0 ∨ r.f1 ≠ b.f1 := by
    by_cases h0 : r.f0 = b.f0
    · exact Or.inr (fun h1 => hr (S31.ext' h0 h1))
    · exact Or.inl h0
  have m1 : (a.f0 - r.f0) * (a.f0 - r.f0) ≤ (a.f0 - b.f0) * (a.f0 - b.f0) := sq_mono (by omega)
  have m2 : (a.f1 - r.f1) * (a.f1 - r.f1) ≤ (a.f1 - b.f1) * (a.f1 - b.f1) := sq_mono (by omega)
  rcases hne with h3 | h3
  · have m3 : (a.f0 - r.f0) * (a.f0 - r.f0) < (a.f0 - b.f0) * (a.f0 - b.f0) := sq_mono_lt (by omega)
    omega
  · have m3 : (a.f1 - r.f1) * (a.f1 - r.f1) < (a.f1 - b.f1) * (a.f1 - b.f1) := sq_mono_lt (by omega)
    omega
/-- one step of a look for the next corner -/
def scStep (at_ tq p : S31) : S31 := if p = at_ then tq else if tq = at_ ∨ crs at_ tq p < 0 ∨ (crs at_ tq p = 0 ∧ sqd at_ tq < sqd at_ p) then p else tq
theorem scan_is (at_ b : S31) (hb : b ≠ at_) : ∀ (l : List S31) (tq : S31), (∀ p ∈ l, Lf at_ b p) → (tq = at_ ∨ Lf at_ b tq) → (b ∈ l ∨ tq = b) → l.foldl (scStep at_) tq = b := by
  intro l
  induction l with
  | nil => intro tq _ _ h; rcases h with h | h
           · simp at h
           · exact h
  | cons p l ih =>
    intro tq hl ht hb'
    rw [List.foldl_cons]
    have hp := hl p (by simp)
    by_cases hto : tq = b
    · refine ih _ (fun q hq => hl q (by simp [hq])) ?_ (Or.inr ?_)
      · unfold scStep; split
        · exact ht
        · split
          · exact Or.inr hp
          · exact ht
      · subst hto
        unfold scStep
        split
        · rfl
        · rename_i hpa
          rw [if_neg]
          rintro (h | h | ⟨h1, h2⟩)
          · exact hb h
          · have := hp.nn; omega
          · rcases hp with h | h
            · omega
            · by_cases he : p = tq
              · rw [he] at h2; omega
              · have := on_sq h he; omega
    · by_cases hpb : p = b
      · subst hpb
        refine ih _ (fun q hq => hl q (by simp [hq])) ?_ (Or.inr ?_)
        · unfold scStep; split
          · exact ht
          · split
            · exact Or.inr hp
            · exact ht
        · unfold scStep
          rw [if_neg hb]
          by_cases hta : tq = at_
          · rw [if_pos (Or.inl hta)]
          · rw [if_pos]
            rcases ht with h | h
            · exact absurd h hta
            · have e := crs_swap at_ p tq
              rcases h with h | h
              · right; left; omega
              · right; right
                have h0 := ((onB_iff at_ p tq).1 h).1
                exact ⟨by omega, on_sq h hto⟩
      · have hbl : b ∈ l := by
          rcases hb' with h | h
          · rw [List.mem_cons] at h
            rcases h with h | h
            · exact absurd h.symm hpb
            · exact h
          · exact absurd h hto
        refine ih _ (fun q hq => hl q (by simp [hq])) ?_ (Or.inl hbl)
        unfold scStep; split
        · exact ht
        · split
          · exact Or.inr hp
          · exact ht
/-- the place behind a place of a ring -/
def nxt (i n : Nat) : Nat := if i + 1 < n then i + 1 else 0
/-- the corners of a hull -/
structure IsHull (l H : List S31) : Prop where
  pos : 0 < H.length
  mem : ∀ i, i < H.length → pt H i ∈ l
  least : ∀ r ∈ l, ¬ ltP r (pt H 0) = true
  one : H.length = 1 → ∀ r ∈ l, r = pt H 0
  ed : ∀ i, i < H.length → ∀ r ∈ l, Lf (pt H i) (pt H (nxt i H.length)) r
  ne : ∀ i, 0 < i → i < H.length → pt H i ≠ pt H 0
  ner : ∀ i, i + 1 < H.length → pt H i ≠ pt H (i + 1)
theorem onB_self (a : S31) : onB a a a = true := by rw [onB_iff']; refine ⟨crs_same a a, by omega, by omega⟩
theorem Ch.mono {R out : List S31} (H : Ch R out) : ∀ j i, i < j → j < out.length → ltP (pt out i) (pt out j) = true
  | 0, i, h, _ => by omega
  | j + 1, i, h, hj => by
    rcases Nat.lt_or_ge i j with h1 | h1
    · exact ltP_trans (Ch.mono H j i h1 (by omega)) (H.inc j hj)
    · obtain rfl : i = j := by omega
      exact H.inc i hj
theorem pt_dropLast (l : List S31) (i : Nat) (h : i + 1 < l.length) : pt l.dropLast i = pt l i := by
  rw [pt_eq _ _ (by rw [List.length_dropLast]; omega), pt_eq _ _ (by omega), List.getElem_dropLast]
theorem neg_inj {a b : S31} (h : neg a = neg b) : a = b := by rw [← neg_neg a, h, neg_neg]
theorem corners_hull (l : List S31) (h : 0 < l.length) : IsHull l (cornersS l) := by
  obtain ⟨has, hpos⟩ := sortedS_asc l h
  have hm := sortedS_mem l
  unfold cornersS
  generalize sortedS l = S at *
  by_cases h3 : S.length < 3
  · rw [if_pos h3]
    by_cases h2 : S.length = 1
    · have hone : ∀ r ∈ l, r = pt S 0 := by
        intro r hr
        obtain ⟨i, hi, rfl⟩ := mem_pt ((hm r).2 hr)
        obtain rfl : i = 0 := by omega
        rfl
      refine ⟨hpos, fun i hi => (hm _).1 (pt_mem S i hi), ?_, fun _ => hone, ?_, by omega, by omega⟩
      · intro r hr; rw [hone r hr]; exact ltP_irr _
      · intro i hi r hr
        obtain rfl : i = 0 := by omega
        have : nxt 0 S.length = 0 := by unfold nxt; rw [if_neg (by omega)]
        rw [this, hone r hr]; exact Or.inr (onB_self _)
    · have h2' : S.length = 2 := by omega
      have hlt := has 0 1 (by omega) (by omega)
      have htwo : ∀ r ∈ l, r = pt S 0 ∨ r = pt S 1 := by
        intro r hr
        obtain ⟨i, hi, rfl⟩ := mem_pt ((hm r).2 hr)
        have : i = 0 ∨ i = 1 := by omega
        rcases this with rfl | rfl
        · exact Or.inl rfl
        · exact Or.inr rfl
      refine ⟨hpos, fun i hi => (hm _).1 (pt_mem S i hi), ?_, by omega, ?_, ?_, ?_⟩
      · intro r hr
        rcases htwo r hr with rfl | rfl
        · exact ltP_irr _
        · exact ltP_asym hlt
      · have ends : ∀ a b : S31, Lf a b a ∧ Lf a b b := by
          intro a b
          exact ⟨Or.inr ((onB_iff' a b a).2 ⟨crs_same a b, by omega, by omega⟩), Or.inr ((onB_iff' a b b).2 ⟨crs_end a b, by omega, by omega⟩)⟩
        intro i hi r hr
        have : i = 0 ∨ i = 1 := by omega
        rcases this with rfl | rfl
        · rw [show nxt 0 S.length = 1 by unfold nxt; rw [if_pos (by omega)]]
          rcases htwo r hr with rfl | rfl
          · exact (ends _ _).1
          · exact (ends _ _).2
        · rw [show nxt 1 S.length = 0 by unfold nxt; rw [if_neg (by omega)]]
          rcases htwo r hr with rfl | rfl
          · exact (ends _ _).2
          · exact (ends _ _).1
      · intro i h0 hi e
        obtain rfl : i = 1 := by omega
        rw [e] at hlt; exact ltP_irr _ hlt
      · intro i hi e
        obtain rfl : i = 0 := by omega
        rw [e] at hlt; exact ltP_irr _ hlt
  · rw [if_neg h3]
    have hl := chain_ch S has hpos
    have hu := upper_ch S has hpos
    have hl0 := hl.lst
    generalize chainL S = A at *
    generalize chainL S.reverse = B at *
    have hBl : (B.map neg).length = B.length := List.length_map ..
    have hmR : ∀ r, r ∈ S → neg r ∈ S.reverse.map neg := fun r hr => List.mem_map.2 ⟨r, List.mem_reverse.2 hr, rfl⟩
    have hmR' : ∀ r, neg r ∈ S.reverse.map neg → r ∈ S := by
      intro r hr
      obtain ⟨q, hq, e⟩ := List.mem_map.1 hr
      rw [← neg_inj e]; exact List.mem_reverse.1 hq
    -- the ends
    have e0 : pt A 0 = pt S 0 := by
      rcases ltP_tot (pt A 0) (pt S 0) with h1 | h1 | h1
      · obtain ⟨i, hi, e⟩ := mem_pt (hl.mem 0 hl.pos)
        rw [← e] at h1
        rcases Nat.eq_zero_or_pos i with rfl | h2
        · exact absurd h1 (ltP_irr _)
        · exact absurd h1 (ltP_asym (has 0 i h2 hi))
      · exact h1
      · exact absurd h1 (hl.hd _ (pt_mem S 0 hpos))
    have e1 : pt A (A.length - 1) = pt S (S.length - 1) := by
      rcases ltP_tot (pt A (A.length - 1)) (pt S (S.length - 1)) with h1 | h1 | h1
      · exact absurd h1 (hl.lst _ (pt_mem S _ (by omega)))
      · exact h1
      · obtain ⟨i, hi, e⟩ := mem_pt (hl.mem (A.length - 1) (by have := hl.pos; omega))
        rw [← e] at h1
        rcases Nat.lt_or_ge i (S.length - 1) with h2 | h2
        · exact absurd h1 (ltP_asym (has i _ h2 (by omega)))
        · rw [show i = S.length - 1 by omega] at h1; exact absurd h1 (ltP_irr _)
    have hBp : 0 < B.length := by have := hu.pos; rwa [hBl] at this
    have ninc : ∀ i, i + 1 < B.length → ltP (pt B (i + 1)) (pt B i) = true := by
      intro i hi; have := hu.inc i (by rw [hBl]; exact hi); rwa [pt_neg, pt_neg, ltP_neg] at this
    have nmono : ∀ i j, i < j → j < B.length → ltP (pt B j) (pt B i) = true := by
      intro i j hij hj; have := hu.mono j i hij (by rw [hBl]; exact hj); rwa [pt_neg, pt_neg, ltP_neg] at this
    have nmem : ∀ i, i < B.length → pt B i ∈ S := by
      intro i hi; have := hu.mem i (by rw [hBl]; exact hi); rw [pt_neg] at this; exact hmR' _ this
    have e2 : pt B 0 = pt S (S.length - 1) := by
      rcases ltP_tot (pt B 0) (pt S (S.length - 1)) with h1 | h1 | h1
      · have := hu.hd _ (hmR _ (pt_mem S (S.length - 1) (by omega)))
        rw [pt_neg, ltP_neg] at this; exact absurd h1 this
      · exact h1
      · obtain ⟨i, hi, e⟩ := mem_pt (nmem 0 hBp)
        rw [← e] at h1
        rcases Nat.lt_or_ge i (S.length - 1) with h2 | h2
        · exact absurd h1 (ltP_asym (has i _ h2 (by omega)))
        · rw [show i = S.length - 1 by omega] at h1; exact absurd h1 (ltP_irr _)
    have e3 : pt B (B.length - 1) = pt S 0 := by
      rcases ltP_tot (pt B (B.length - 1)) (pt S 0) with h1 | h1 | h1
      · obtain ⟨i, hi, e⟩ := mem_pt (nmem (B.length - 1) (by omega))
        rw [← e] at h1
        rcases Nat.eq_zero_or_pos i with rfl | h2
        · exact absurd h1 (ltP_irr _)
        · exact absurd h1 (ltP_asym (has 0 i h2 hi))
      · exact h1
      · have := hu.lst _ (hmR _ (pt_mem S 0 hpos))
        rw [pt_neg, ltP_neg, hBl] at this; exact absurd h1 this
    have hS := has 0 (S.length - 1) (by omega) (by omega)
    have hA2 : 2 ≤ A.length := by
      rcases Nat.lt_or_ge A.length 2 with h1 | h1
      · have h2 := hl.pos
        rw [show A.length - 1 = 0 by omega, e0] at e1
        rw [← e1] at hS; exact absurd hS (ltP_irr _)
      · exact h1
    have hB2 : 2 ≤ B.length := by
      rcases Nat.lt_or_ge B.length 2 with h1 | h1
      · rw [show B.length - 1 = 0 by omega, e2] at e3
        rw [e3] at hS; exact absurd hS (ltP_irr _)
      · exact h1
    have hlen : (A.dropLast ++ B.dropLast).length = A.length - 1 + (B.length - 1) := by rw [List.length_append, List.length_dropLast, List.length_dropLast]
    have hA : ∀ i, i < A.length - 1 → pt (A.dropLast ++ B.dropLast) i = pt A i := by
      intro i hi
      rw [pt_app_l _ _ _ (by rw [List.length_dropLast]; exact hi), pt_dropLast _ _ (by omega)]
    have hB : ∀ i, i < B.length - 1 → pt (A.dropLast ++ B.dropLast) (A.length - 1 + i) = pt B i := by
      intro i hi
      rw [pt_app_r _ _ _ (by rw [List.length_dropLast]; omega), List.length_dropLast, Nat.add_sub_cancel_left, pt_dropLast _ _ (by omega)]
    have hA' : pt (A.dropLast ++ B.dropLast) (A.length - 1) = pt A (A.length - 1) := by
      have := hB 0 (by omega); rw [Nat.add_zero] at this; rw [this, e2, e1]
    have h0 : pt (A.dropLast ++ B.dropLast) 0 = pt S 0 := by rw [hA 0 (by omega), e0]
    generalize A.dropLast ++ B.dropLast = H at *
    have part : ∀ i, i < H.length → i < A.length - 1 ∨ ∃ j, i = A.length - 1 + j ∧ j < B.length - 1 := by
      intro i hi
      rcases Nat.lt_or_ge i (A.length - 1) with h1 | h1
      · exact Or.inl h1
      · exact Or.inr ⟨i - (A.length - 1), by omega, by omega⟩
    have edA : ∀ i, i + 1 < A.length → ∀ r ∈ l, Lf (pt A i) (pt A (i + 1)) r := fun i hi r hr => (hl.ed i hi r ((hm r).2 hr)).lf (hl.inc i hi)
    have edB : ∀ i, i + 1 < B.length → ∀ r ∈ l, Lf (pt B i) (pt B (i + 1)) r := by
      intro i hi r hr
      have h4 := (hu.ed i (by rw [hBl]; exact hi) _ (hmR r ((hm r).2 hr))).lf (hu.inc i (by rw [hBl]; exact hi))
      rw [pt_neg, pt_neg] at h4
      unfold Lf at h4
      rw [crs_neg, onB_neg] at h4
      exact h4
    refine ⟨by omega, ?_, ?_, by omega, ?_, ?_, ?_⟩
    · intro i hi
      rcases part i hi with h1 | ⟨j, rfl, h1⟩
      · rw [hA i h1]; exact (hm _).1 (hl.mem i (by omega))
      · rw [hB j h1]; exact (hm _).1 (nmem j (by omega))
    · intro r hr
      rw [h0, ← e0]; exact hl.hd r ((hm r).2 hr)
    · intro i hi r hr
      rcases part i hi with h1 | ⟨j, rfl, h1⟩
      · rw [show nxt i H.length = i + 1 by unfold nxt; rw [if_pos (by omega)], hA i h1]
        have e : pt H (i + 1) = pt A (i + 1) := by
          rcases Nat.lt_or_ge (i + 1) (A.length - 1) with h2 | h2
          · exact hA _ h2
          · rw [show i + 1 = A.length - 1 by omega]; exact hA'
        rw [e]; exact edA i (by omega) r hr
      · rw [hB j h1]
        rcases Nat.lt_or_ge (j + 1) (B.length - 1) with h2 | h2
        · rw [show nxt (A.length - 1 + j) H.length = A.length - 1 + (j + 1) by unfold nxt; rw [if_pos (by omega)]; omega, hB _ h2]
          exact edB j (by omega) r hr
        · rw [show nxt (A.length - 1 + j) H.length = 0 by unfold nxt; rw [if_neg (by omega)], h0, ← e3, show B.length - 1 = j + 1 by omega]
          exact edB j (by omega) r hr
    · intro i h4 hi
      rw [h0]
      intro e
      rcases part i hi with h1 | ⟨j, rfl, h1⟩
      · rw [hA i h1] at e
        have := hl.mono i 0 h4 (by omega)
        rw [e, e0] at this; exact ltP_irr _ this
      · rw [hB j h1] at e
        have := nmono j (B.length - 1) h1 (by omega)
        rw [e, e3] at this; exact ltP_irr _ this
    · intro i hi e
      rcases part i (by omega) with h1 | ⟨j, rfl, h1⟩
      · rw [hA i h1] at e
        have e' : pt H (i + 1) = pt A (i + 1) := by
          rcases Nat.lt_or_ge (i + 1) (A.length - 1) with h2 | h2
          · exact hA _ h2
          · rw [show i + 1 = A.length - 1 by omega]; exact hA'
        rw [e'] at e
        have := hl.inc i (by omega)
        rw [e] at this; exact ltP_irr _ this
      · rw [hB j h1, Nat.add_assoc, hB (j + 1) (by omega)] at e
        have := ninc j (by omega)
        rw [e] at this; exact ltP_irr _ this
end Go.Proofs.Ythaklbjcjoolcaa.P
namespace Go.Proofs.Ythaklbjcjoolcaa.P
open Go.RowKit Go.Shelf Go.Sort Go.Proofs.YthaklbjcjoolcaaW.PrintWords Go.Proofs.YthaklbjcjoolcaaW.PrintLast Go.Proofs.YthaklbjcjoolcaaW.PrintMore
set_option linter.unusedVariables false
set_option linter.unusedSimpArgs false
/-- the walk round a hull from corner to corner -/
def giftGo (l : List S31) (first : S31) : Nat → S31 → List S31 → Option (List S31)
  | 0, _, _ => none
  | k + 1, at_, out => if l.foldl (scStep at_) at_ = at_ ∨ l.foldl (scStep at_) at_ = first then some out else giftGo l first k (l.foldl (scStep at_) at_) (out ++ [l.foldl (scStep at_) at_])
theorem hull_next {l H : List S31} (h : IsHull l H) (i : Nat) (hi : i < H.length) : l.foldl (scStep (pt H i)) (pt H i) = pt H (nxt i H.length) := by
  by_cases h1 : H.length = 1
  · obtain rfl : i = 0 := by omega
    rw [show nxt 0 H.length = 0 by unfold nxt; rw [if_neg (by omega)]]
    have hall := h.one h1
    generalize pt H 0 = a at *
    clear h h1 hi
    induction l with
    | nil => rfl
    | cons p l ih =>
      rw [List.foldl_cons, show scStep a a p = a by unfold scStep; rw [if_pos (hall p (by simp))]]
      exact ih (fun r hr => hall r (by simp [hr]))
  · have hb : pt H (nxt i H.length) ≠ pt H i := by
      unfold nxt
      split
      · rename_i h2; exact fun e => h.ner i h2 e.symm
      · rename_i h2; exact fun e => h.ne i (by omega) hi e.symm
    have hm : pt H (nxt i H.length) ∈ l := by
      refine h.mem _ ?_
      unfold nxt; split <;> omega
    exact scan_is _ _ hb l _ (h.ed i hi) (Or.inl rfl) (Or.inl hm)
theorem gift_is {l H : List S31} (h : IsHull l H) : ∀ d i k, i < H.length → i + 1 + d = H.length → d < k → giftGo l (pt H 0) k (pt H i) (H.take (i + 1)) = some H := by
  intro d
  induction d with
  | zero =>
    intro i k hi hd hk
    obtain ⟨k, rfl⟩ : ∃ k', k = k' + 1 := ⟨k - 1, by omega⟩
    unfold giftGo
    rw [hull_next h i hi, show nxt i H.length = 0 by unfold nxt; rw [if_neg (by omega)], if_pos (Or.inr rfl), show i + 1 = H.length by omega, List.take_length]
  | succ d ih =>
    intro i k hi hd hk
    obtain ⟨k, rfl⟩ : ∃ k', k = k' + 1 := ⟨k - 1, by omega⟩
    unfold giftGo
    rw [hull_next h i hi, show nxt i H.length = i + 1 by unfold nxt; rw [if_pos (by omega)], if_neg, ← take_pt H (i + 1) (by omega)]
    · exact ih (i + 1) k (by omega) (by omega) (by omega)
    · rintro (e | e)
      · exact h.ner i (by omega) e.symm
      · exact h.ne (i + 1) (by omega) (by omega) e
theorem hull_unique {l A B : List S31} (ha : IsHull l A) (hb : IsHull l B) : A = B := by
  have e : pt A 0 = pt B 0 := by
    rcases ltP_tot (pt A 0) (pt B 0) with h | h | h
    · exact absurd h (hb.least _ (ha.mem 0 ha.pos))
    · exact h
    · exact absurd h (ha.least _ (hb.mem 0 hb.pos))
  have g1 := gift_is ha (A.length - 1) 0 (A.length + B.length) ha.pos (by have := ha.pos; omega) (by have := ha.pos; omega)
  have g2 := gift_is hb (B.length - 1) 0 (A.length + B.length) hb.pos (by have := hb.pos; omega) (by have := hb.pos; omega)
  rw [take_pt A 0 ha.pos, e] at g1
  rw [take_pt B 0 hb.pos] at g2
  have : some A = some B := by rw [← g1, ← g2]; rfl
  exact Option.some.inj this
theorem hull_same {l m H : List S31} (h : IsHull l H) (hlm : ∀ p, p ∈ m ↔ p ∈ l) : IsHull m H :=
  ⟨h.pos, fun i hi => (hlm _).2 (h.mem i hi), fun r hr => h.least r ((hlm r).1 hr), fun h1 r hr => h.one h1 r ((hlm r).1 hr), fun i hi r hr => h.ed i hi r ((hlm r).1 hr), h.ne, h.ner⟩
theorem hull_self {l H : List S31} (h : IsHull l H) : IsHull H H := by
  have hs : ∀ r ∈ H, r ∈ l := fun r hr => by obtain ⟨i, hi, rfl⟩ := mem_pt hr; exact h.mem i hi
  exact ⟨h.pos, fun i hi => pt_mem H i hi, fun r hr => h.least r (hs r hr), fun h1 r hr => h.one h1 r (hs r hr), fun i hi r hr => h.ed i hi r (hs r hr), h.ne, h.ner⟩
theorem corners_again {l : List S31} (h : 0 < l.length) : cornersS (cornersS l) = cornersS l := by
  have h1 := corners_hull l h
  exact hull_unique (corners_hull _ h1.pos) (hull_self h1)
theorem corners_same {l m : List S31} (h : 0 < l.length) (hm : 0 < m.length) (hlm : ∀ p, p ∈ m ↔ p ∈ l) : cornersS m = cornersS l :=
  hull_unique (corners_hull m hm) (hull_same (corners_hull l h) hlm)
theorem lf_unique {a b c : S31} (h1 : Lf a b c) (h2 : Lf a c b) : b = c := by
  have e := crs_swap a b c
  have n1 := h1.nn
  have n2 := h2.nn
  have o1 : onB a b c = true := by
    rcases h1 with h | h
    · omega
    · exact h
  have o2 : onB a c b = true := by
    rcases h2 with h | h
    · omega
    · exact h
  obtain ⟨_, x1, y1⟩ := (onB_iff' _ _ _).1 o1
  obtain ⟨_, x2, y2⟩ := (onB_iff' _ _ _).1 o2
  exact S31.ext' (by omega) (by omega)
theorem nxt_mod {i n : Nat} (h : i < n) : nxt i n = (i + 1) % n := by
  unfold nxt
  split
  · rename_i h1; rw [Nat.mod_eq_of_lt h1]
  · rw [show i + 1 = n by omega, Nat.mod_self]
theorem nxt_lt {i n : Nat} (h : 0 < n) : nxt i n < n := by unfold nxt; split <;> omega
theorem hull_inj {l H : List S31} (h : IsHull l H) : ∀ d i j, j + d = H.length → i < j → j < H.length → pt H i ≠ pt H j := by
  intro d
  induction d with
  | zero => intro i j h1 h2 h3; omega
  | succ d ih =>
    intro i j h1 h2 h3 e
    have l1 := h.ed i (by omega) _ (h.mem _ (nxt_lt (i := j) h.pos))
    have l2 := h.ed j h3 _ (h.mem _ (nxt_lt (i := i) h.pos))
    rw [← e] at l2
    have e2 := lf_unique l1 l2
    rw [show nxt i H.length = i + 1 by unfold nxt; rw [if_pos (by omega)]] at e2
    rcases Nat.lt_or_ge (j + 1) H.length with h4 | h4
    · rw [show nxt j H.length = j + 1 by unfold nxt; rw [if_pos h4]] at e2
      exact ih (i + 1) (j + 1) (by omega) (by omega) h4 e2
    · rw [show nxt j H.length = 0 by unfold nxt; rw [if_neg (by omega)]] at e2
      exact h.ne (i + 1) (by omega) (by omega) e2
theorem hull_ne {l H : List S31} (h : IsHull l H) {i j : Nat} (hi : i < H.length) (hj : j < H.length) (hij : i ≠ j) : pt H i ≠ pt H j := by
  rcases Nat.lt_or_ge i j with h1 | h1
  · exact hull_inj h (H.length - j) i j (by omega) h1 hj
  · exact fun e => hull_inj h (H.length - i) j i (by omega) (by omega) hi e.symm
theorem hull_left {l H : List S31} (h : IsHull l H) (h3 : 2 < H.length) (i : Nat) (hi : i < H.length) : 0 < crs (pt H i) (pt H (nxt i H.length)) (pt H (nxt (nxt i H.length) H.length)) := by
  have hb := nxt_lt (i := i) h.pos
  have hc := nxt_lt (i := nxt i H.length) h.pos
  have hac : pt H i ≠ pt H (nxt (nxt i H.length) H.length) := hull_ne h hi hc (by unfold nxt; split <;> split <;> omega)
  have l1 := h.ed i hi _ (h.mem _ hc)
  have l2 := h.ed _ hb _ (h.mem _ hi)
  generalize pt H (nxt (nxt i H.length) H.length) = c at *
  generalize pt H (nxt i H.length) = b at *
  generalize pt H i = a at *
  rcases l1 with l1 | l1
  · exact l1
  · exfalso
    obtain ⟨z, x1, y1⟩ := (onB_iff' _ _ _).1 l1
    have o2 : onB b c a = true := by
      rcases l2 with l2 | l2
      · rw [crs_rot] at l2; omega
      · exact l2
    obtain ⟨_, x2, y2⟩ := (onB_iff' _ _ _).1 o2
    exact hac (S31.ext' (by omega) (by omega))
/-- the value of a linear function at a point -/
def lin (u v : Int) (p : S31) : Int := u * p.f0 + v * p.f1
theorem lin_key (u v : Int) (a b c m : S31) : crs a b c * (lin u v m - lin u v b) = crs a b m * (lin u v c - lin u v b) + crs b c m * (lin u v a - lin u v b) := by
  unfold crs lin; grind
theorem lin_on (u v : Int) {a b r : S31} (h : onB a b r = true) : lin u v r ≤ lin u v a ∨ lin u v r ≤ lin u v b := by
  obtain ⟨hc, hx, hy⟩ := (onB_iff' _ _ _).1 h
  rcases Int.lt_or_le (lin u v a) (lin u v r) with h1 | h1
  · rcases Int.lt_or_le (lin u v b) (lin u v r) with h2 | h2
    · exfalso
      -- both ends are lower: the point cannot lie between them
      unfold lin at h1 h2
      unfold crs at hc
      have key1 : (u * (r.f0 - a.f0) + v * (r.f1 - a.f1)) * (b.f0 - r.f0) = (u * (b.f0 - r.f0) + v * (b.f1 - r.f1)) * (r.f0 - a.f0) := by grind
      have key2 : (u * (r.f0 - a.f0) + v * (r.f1 - a.f1)) * (b.f1 - r.f1) = (u * (b.f0 - r.f0) + v * (b.f1 - r.f1)) * (r.f1 - a.f1) := by grind
      have p1 : 0 < u * (r.f0 - a.f0) + v * (r.f1 - a.f1) := by grind
      have p2 : 0 < -(u * (b.f0 - r.f0) + v * (b.f1 - r.f1)) := by grind
      generalize hP : u * (r.f0 - a.f0) + v * (r.f1 - a.f1) = P at *
      generalize hQ : u * (b.f0 - r.f0) + v * (b.f1 - r.f1) = Q at *
      have zx : r.f0 = a.f0 ∧ b.f0 = r.f0 := by
        rcases hx with hx | hx
        · have n1 := nn_mul (a := P) (b := b.f0 - r.f0) (by omega) (by omega)
          have n2 := nn_mul (a := -Q) (b := r.f0 - a.f0) (by omega) (by omega)
          have n2' : 0 ≤ -(Q * (r.f0 - a.f0)) := by grind
          have z1 : P * (b.f0 - r.f0) = 0 := by omega
          have z2 : Q * (r.f0 - a.f0) = 0 := by omega
          rcases Int.mul_eq_zero.1 z1 with h | h <;> rcases Int.mul_eq_zero.1 z2 with h' | h' <;> omega
        · have n1 := nn_mul (a := P) (b := r.f0 - b.f0) (by omega) (by omega)
          have n2 := nn_mul (a := -Q) (b := a.f0 - r.f0) (by omega) (by omega)
          have n1' : 0 ≤ -(P * (b.f0 - r.f0)) := by grind
          have n2' : 0 ≤ Q * (r.f0 - a.f0) := by grind
          have z1 : P * (b.f0 - r.f0) = 0 := by omega
          have z2 : Q * (r.f0 - a.f0) = 0 := by omega
          rcases Int.mul_eq_zero.1 z1 with h | h <;> rcases Int.mul_eq_zero.1 z2 with h' | h' <;> omega
      have zy : r.f1 = a.f1 ∧ b.f1 = r.f1 := by
        rcases hy with hx | hx
        · have n1 := nn_mul (a := P) (b := b.f1 - r.f1) (by omega) (by omega)
          have n2 := nn_mul (a := -Q) (b := r.f1 - a.f1) (by omega) (by omega)
          have n2' : 0 ≤ -(Q * (r.f1 - a.f1)) := by grind
          have z1 : P * (b.f1 - r.f1) = 0 := by omega
          have z2 : Q * (r.f1 - a.f1) = 0 := by omega
          rcases Int.mul_eq_zero.1 z1 with h | h <;> rcases Int.mul_eq_zero.1 z2 with h' | h' <;> omega
        · have n1 := nn_mul (a := P) (b := r.f1 - b.f1) (by omega) (by omega)
          have n2 := nn_mul (a := -Q) (b := a.f1 - r.f1) (by omega) (by omega)
          have n1' : 0 ≤ -(P * (b.f1 - r.f1)) := by grind
          have n2' : 0 ≤ Q * (r.f1 - a.f1) := by grind
          have z1 : P * (b.f1 - r.f1) = 0 := by omega
          have z2 : Q * (r.f1 - a.f1) = 0 := by omega
          rcases Int.mul_eq_zero.1 z1 with h | h <;> rcases Int.mul_eq_zero.1 z2 with h' | h' <;> omega
      rw [zx.1, zy.1] at hP
      have : P = 0 := by rw [← hP]; grind
      omega
    · exact Or.inr h2
  · exact Or.inl h1
theorem max_at (f : S31 → Int) : ∀ (H : List S31), 0 < H.length → ∃ i, i < H.length ∧ ∀ j, j < H.length → f (pt H j) ≤ f (pt H i) := by
  intro H hH
  have key : ∀ n, 0 < n → ∃ i, i < n ∧ ∀ j, j < n → f (pt H j) ≤ f (pt H i) := by
    intro n
    induction n with
    | zero => intro h; omega
    | succ n ih =>
      intro _
      rcases Nat.eq_zero_or_pos n with rfl | hn
      · exact ⟨0, by omega, fun j hj => by obtain rfl : j = 0 := by omega
                                           exact Int.le_refl _⟩
      · obtain ⟨i, hi, hm⟩ := ih hn
        rcases Int.lt_or_le (f (pt H i)) (f (pt H n)) with h | h
        · refine ⟨n, by omega, fun j hj => ?_⟩
          rcases Nat.lt_or_ge j n with h1 | h1
          · have := hm j h1; omega
          · obtain rfl : j = n := by omega
            exact Int.le_refl _
        · refine ⟨i, by omega, fun j hj => ?_⟩
          rcases Nat.lt_or_ge j n with h1 | h1
          · exact hm j h1
          · obtain rfl : j = n := by omega
            exact h
  exact key H.length hH
/-- a linear function is greatest at a corner -/
theorem hull_max {l H : List S31} (h : IsHull l H) (u v : Int) : ∃ i, i < H.length ∧ ∀ p ∈ l, lin u v p ≤ lin u v (pt H i) := by
  obtain ⟨i, hi, hm⟩ := max_at (lin u v) H h.pos
  refine ⟨i, hi, fun p hp => ?_⟩
  by_cases h1 : H.length = 1
  · rw [h.one h1 p hp]; exact hm 0 (by omega)
  · by_cases h2 : H.length = 2
    · have he := h.ed 0 (by omega) p hp
      have he' := h.ed 1 (by omega) p hp
      rw [show nxt 0 H.length = 1 by unfold nxt; rw [if_pos (by omega)]] at he
      rw [show nxt 1 H.length = 0 by unfold nxt; rw [if_neg (by omega)]] at he'
      have n1 := he.nn
      have n2 := he'.nn
      have e : crs (pt H 1) (pt H 0) p = - crs (pt H 0) (pt H 1) p := by unfold crs; grind
      rcases he with h3 | h3
      · omega
      · rcases lin_on u v h3 with h4 | h4
        · have := hm 0 (by omega); omega
        · have := hm 1 (by omega); omega
    · -- the corner ahead of it
      obtain ⟨k, hk, hki⟩ : ∃ k, k < H.length ∧ nxt k H.length = i := by
        rcases Nat.eq_zero_or_pos i with rfl | h3
        · exact ⟨H.length - 1, by omega, by unfold nxt; rw [if_neg (by omega)]⟩
        · exact ⟨i - 1, by omega, by unfold nxt; rw [if_pos (by omega)]; omega⟩
      have ht := hull_left h (by omega) k hk
      have e1 := (h.ed k hk p hp).nn
      have e2 := (h.ed i hi p hp).nn
      rw [hki] at ht e1
      have f1 := hm k hk
      have f2 := hm _ (nxt_lt (i := i) h.pos)
      have key := lin_key u v (pt H k) (pt H i) (pt H (nxt i H.length)) p
      generalize pt H (nxt i H.length) = c at *
      generalize pt H i = b at *
      generalize pt H k = a at *
      rcases Int.lt_or_le (lin u v b) (lin u v p) with h4 | h4
      · exfalso
        have m1 := ps_mul (a := crs a b c) (b := lin u v p - lin u v b) ht (by omega)
        have m2 := nn_mul (a := crs a b p) (b := lin u v b - lin u v c) e1 (by omega)
        have m3 := nn_mul (a := crs b c p) (b := lin u v b - lin u v a) e2 (by omega)
        have m2' : crs a b p * (lin u v c - lin u v b) ≤ 0 := by grind
        have m3' : crs b c p * (lin u v a - lin u v b) ≤ 0 := by grind
        omega
      · exact h4
end Go.Proofs.Ythaklbjcjoolcaa.P
namespace Go.Proofs.Ythaklbjcjoolcaa.P
open Go.RowKit Go.Proofs.YthaklbjcjoolcaaW.PrintWords Go.Proofs.YthaklbjcjoolcaaW.PrintLast Go.Proofs.YthaklbjcjoolcaaW.PrintMore
set_option linter.unusedVariables false
set_option linter.unusedSimpArgs false
theorem hull_is {t : List S31} (hs : isSetB t = true) : plane_Hull.f t = some (cornersS t, 0) := by
  obtain ⟨⟨hs1, hs2⟩, hok⟩ := (isSetB_iff t).1 hs
  unfold plane_Hull.f plane_corners.f
  rw [isSet_is, hs, Option.bind_some, if_pos rfl, if_pos ⟨hs1, by omega, hok⟩]; rfl
theorem hull_no {t : List S31} (hs : isSetB t = false) : plane_Hull.f t = some ([], 2) := by
  unfold plane_Hull.f
  rw [isSet_is, hs]; rfl
theorem set_of {t : List S31} (h1 : 1 ≤ t.length) (h2 : t.length ≤ 512) (h3 : allOk t = true) : isSetB t = true := (isSetB_iff t).2 ⟨⟨h1, h2⟩, h3⟩
/-- the corners of a set are a set -/
theorem corners_set {t : List S31} (h1 : 1 ≤ t.length) (h2 : t.length ≤ 256) (h3 : allOk t = true) : isSetB (cornersS t) = true :=
  set_of (corners_hull t h1).pos (by have := cornersS_len t; omega) (cornersS_ok h3)
end Go.Proofs.Ythaklbjcjoolcaa.P
namespace Go.Proofs.Ythaklbjcjoolcaa.P
open Go.RowKit Go.Proofs.YthaklbjcjoolcaaW.PrintWords Go.Proofs.YthaklbjcjoolcaaW.PrintLast Go.Proofs.YthaklbjcjoolcaaW.PrintMore
set_option linter.unusedVariables false
set_option linter.unusedSimpArgs false
theorem mod41 (a : Int) : ∃ m : Nat, m < 41 ∧ silversidelaw01_mod.f a 41 = some (m : Int) := by
  have e1 : IntKind.u64.wrap (41 : Int) = 41 := by decide
  have h1 : 0 ≤ IntKind.u64.wrap a := by
    unfold IntKind.wrap
    simp only [IntKind.bits, IntKind.signed]
    exact Int.emod_nonneg _ (by decide)
  unfold silversidelaw01_mod.f
  rw [e1, if_neg (by omega)]
  generalize IntKind.u64.wrap a = x at *
  rw [Int.tmod_eq_emod_of_nonneg h1]
  have h2 := Int.emod_nonneg x (show (41 : Int) ≠ 0 by decide)
  have h3 := Int.emod_lt_of_pos x (show (0 : Int) < 41 by decide)
  exact ⟨(x % 41).toNat, by omega, by rw [w64i (by omega) (by omega)]; congr 1; omega⟩
theorem grid_is (p : S31) : ∃ q : S31, silversidelaw01_grid.f p.f0 p.f1 = some (q.f0, q.f1) ∧ okPt q = true ∧ (okPt p = true → q = p) := by
  unfold silversidelaw01_grid.f
  rw [valid_is, Option.bind_some]
  by_cases h : okPt p = true
  · rw [if_pos h]; exact ⟨p, rfl, h, fun _ => rfl⟩
  · rw [if_neg h]
    obtain ⟨m, hm, e⟩ := mod41 p.f0
    obtain ⟨n, hn, e'⟩ := mod41 p.f1
    rw [e, e']
    simp only [Option.bind_some]
    rw [w64i (by omega) (by omega), w64i (by omega) (by omega)]
    exact ⟨⟨(m : Int) - 20, (n : Int) - 20⟩, rfl, (okPt_iff _).2 ⟨by simp only; omega, by simp only; omega⟩, fun h' => absurd h' h⟩
theorem allOk_snoc {l : List S31} {p : S31} (h : allOk l = true) (hp : okPt p = true) : allOk (l ++ [p]) = true := by
  unfold allOk at *
  rw [List.all_append, h, List.all_cons, hp]; rfl
/-- a set made of any list -/
theorem gset_from (l : List S31) (m : Nat) (hm : m ≤ 512) (hm1 : 1 ≤ m) : ∀ (n i : Nat) (out : List S31), l.length - i = n → i ≤ l.length → out.length = i → i ≤ m → allOk out = true →
    ∃ t : List S31, Ev (fun k => silversidelaw01_set.l0 k l (m : Int) out (i : Int)) t ∧ 1 ≤ t.length ∧ t.length ≤ m ∧ allOk t = true := by
  have fin : ∀ (i : Nat) (out : List S31), out.length = i → i ≤ m → allOk out = true → ∃ t : List S31, Ev (fun _ => if (out.length : Int) = 0 then (if out.length < 8796093022208 then (some (out ++ [(⟨0, 0⟩ : S31)])) else (none)) else (some out)) t ∧ 1 ≤ t.length ∧ t.length ≤ m ∧ allOk t = true := by
    intro i out h1 h2 h3
    by_cases h0 : out.length = 0
    · refine ⟨_, ev_pos (by omega) (ev_pos (by omega) (Ev.now _)), by simp, by simp only [List.length_append, List.length_singleton]; omega, allOk_snoc h3 (by decide)⟩
    · exact ⟨out, ev_neg (by omega) (Ev.now _), by omega, by omega, h3⟩
  intro n
  induction n with
  | zero =>
    intro i out hn hi ho him hok
    obtain ⟨t, ht, h1, h2, h3⟩ := fin i out ho him hok
    refine ⟨t, Ev.step (fun k => ?_) ht, h1, h2, h3⟩
    unfold silversidelaw01_set.l0
    rw [if_neg (by omega)]
  | succ n ih =>
    intro i out hn hi ho him hok
    have hlt : i < l.length := by omega
    by_cases h1 : i < m
    · obtain ⟨q, hq, hqo, _⟩ := grid_is l[i]
      obtain ⟨t, ht, h2, h3, h4⟩ := ih (i + 1) (out ++ [q]) (by omega) (by omega) (by rw [List.length_append, List.length_singleton, ho]) (by omega) (allOk_snoc hok hqo)
      refine ⟨t, Ev.step (fun k => ?_) ht, h2, h3, h4⟩
      conv => lhs; unfold silversidelaw01_set.l0
      rw [if_pos (by omega), if_pos (by omega), if_pos (by omega), rd_at l i hlt, hq, Option.bind_some, if_pos (by omega), w64i (x := (i : Int) + 1) (by omega) (by omega)]
      rfl
    · obtain ⟨t, ht, h2, h3, h4⟩ := fin i out ho him hok
      refine ⟨t, Ev.step (fun k => ?_) ht, h2, h3, h4⟩
      conv => lhs; unfold silversidelaw01_set.l0
      rw [if_pos (by omega), if_neg (by omega)]
theorem gset_ev (l : List S31) (m : Nat) (hm : m ≤ 512) (hm1 : 1 ≤ m) : ∃ t : List S31, Ev (fun k => silversidelaw01_set.f k l (m : Int)) t ∧ 1 ≤ t.length ∧ t.length ≤ m ∧ allOk t = true :=
  gset_from l m hm hm1 (l.length - 0) 0 [] rfl (by omega) rfl (by omega) rfl
end Go.Proofs.Ythaklbjcjoolcaa.P
