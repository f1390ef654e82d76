/- Proved here: what functions that the law reaches compute, and plain laws of that. No conditions but those that the theorems state. Put together by a program; a part of it was printed by a program of the session's, by way of the kit's printer (wip/printplus.py, wip/mend*.py). -/
import Derived.Test.YthaklbjcjoolcaaCPlaneMeets1
import Derived.Test.YthaklbjcjoolcaaB1
import Derived.Test.YthaklbjcjoolcaaB4
import Derived.Test.YthaklbjcjoolcaaB5
import Derived.Test.YthaklbjcjoolcaaB2
set_option linter.unusedVariables false
set_option linter.unusedSimpArgs false
namespace Go.Proofs.Ythaklbjcjoolcaa.P
open Go.RowKit Go.Proofs.YthaklbjcjoolcaaW.PrintWords Go.Proofs.YthaklbjcjoolcaaW.PrintLast Go.Proofs.YthaklbjcjoolcaaW.PrintMore
attribute [local go_sem] max2_int min2_int max_two min_two max_three min_three max_four min_four   -- for this text's walks alone
set_option linter.unusedVariables false
set_option linter.unusedSimpArgs false

/-! ### silversidelaw01_PlaneMeets: function 8 -/
mutual
def silversidelaw01_PlaneMeets.l0 : Nat → List (S31) → List (S31) → Int → Int → Int → Bool → Int → Int → Int → Int → Int → Int → Option (Bool)
 | 0, _, _, _, _, _, _, _, _, _, _, _, _ => none
 | k + 1, x5, x6, x9, x10, x11, x374000, x374001, x374002, x374003, x374004, x374005, x374006 => if x11 < (x5.length : Int) then (if 0 ≤ x11 then (silversidelaw01_PlaneMeets.l0 k x5 x6 x9 (mx x10 ((rd_T31 x5 x11).f0)) (wrap64 (x11 + 1)) x374000 x374001 x374002 x374003 x374004 x374005 x374006) else (none)) else (silversidelaw01_PlaneMeets.l1 k x5 x6 x9 x10 ([] : List (S31)) 0 x374000 x374001 x374002 x374003 x374004 x374005 x374006)
def silversidelaw01_PlaneMeets.l1 : Nat → List (S31) → List (S31) → Int → Int → List (S31) → Int → Bool → Int → Int → Int → Int → Int → Int → Option (Bool)
 | 0, _, _, _, _, _, _, _, _, _, _, _, _, _ => none
 | k + 1, x5, x6, x9, x10, x12, x13, x374000, x374001, x374002, x374003, x374004, x374005, x374006 => if x13 < (x5.length : Int) then (if 0 ≤ x13 then ((some (([(⟨wrap64 ((wrap64 ((wrap64 (2 * x10)) + 1)) - ((rd_T31 x5 x13).f0)), (rd_T31 x5 x13).f1⟩ : S31)] : List (S31)) : List (S31))).bind fun y377 => (if x12.length + y377.length < 8796093022208 then (silversidelaw01_PlaneMeets.l1 k x5 x6 x9 x10 (x12 ++ y377) (wrap64 (x13 + 1)) x374000 x374001 x374002 x374003 x374004 x374005 x374006) else (none))) else (none)) else (if x9 = 0 then (silversidelaw01_PlaneMeets.j2 k x5 x6 x12 (!x374000)) else (silversidelaw01_PlaneMeets.j2 k x5 x6 x12 true))
def silversidelaw01_PlaneMeets.j2 : Nat → List (S31) → List (S31) → List (S31) → Bool → Option (Bool)
 | 0, _, _, _, _ => none
 | k + 1, x5, x6, x12, x84 => if x84 = true then (some false) else ((silversideref01_Valids.f k x12).bind fun t383 => (if t383 = true then ((plane_Separate.f k x5 x12).bind fun bt384 => (if bt384.2.2.2.2.2.2.2 = 0 then (if bt384.1 = true then (some false) else (silversidelaw01_PlaneMeets.j3 k x5 x6)) else (some false))) else (silversidelaw01_PlaneMeets.j3 k x5 x6)))
def silversidelaw01_PlaneMeets.j3 : Nat → List (S31) → List (S31) → Option (Bool)
 | 0, _, _ => none
 | k + 1, x5, x6 => (plane_Hull.f x5).bind fun bt393 => ((plane_Hull.f x6).bind fun bt397 => (if bt393.2 = 0 then (if bt397.2 = 0 then ((silversideref01_Set.f k bt393.1).bind fun t401 => (if t401 = true then ((silversideref01_Set.f k bt397.1).bind fun t402 => (silversidelaw01_PlaneMeets.j4 k x5 x6 bt393.1 bt397.1 (!t402))) else (silversidelaw01_PlaneMeets.j4 k x5 x6 bt393.1 bt397.1 true))) else (silversidelaw01_PlaneMeets.j4 k x5 x6 bt393.1 bt397.1 true)) else (silversidelaw01_PlaneMeets.j4 k x5 x6 bt393.1 bt397.1 true)))
def silversidelaw01_PlaneMeets.j4 : Nat → List (S31) → List (S31) → List (S31) → List (S31) → Bool → Option (Bool)
 | 0, _, _, _, _, _ => none
 | k + 1, x5, x6, x16, x18, x124 => if x124 = true then (some false) else ((plane_Separate.f k x5 x6).bind fun bt403 => ((plane_Separate.f k x16 x18).bind fun bt412 => (if bt403.2.2.2.2.2.2.2 = 0 then (if bt412.2.2.2.2.2.2.2 = 0 then (if (bt403.1 == bt412.1) = true then ((silversidelaw01_awake.f k).bind fun t421 => (some t421)) else (some false)) else (some false)) else (some false))))
end
def silversidelaw01_PlaneMeets.f (k : Nat) (l0 : List (S31)) (l1 : List (S31)) : Option (Bool) := (silversidelaw01_set.f k l0 30).bind fun t349 => ((silversidelaw01_set.f k l1 30).bind fun t352 => ((silversidelaw01_set.f k l1 30).bind fun t355 => (if 0 < (t349.length : Int) then ((some (([(⟨(rd_T31 t349 0).f0, (rd_T31 t349 0).f1⟩ : S31)] : List (S31)) : List (S31))).bind fun y359 => (if t355.length + y359.length < 8796093022208 then ((plane_Separate.f k t349 (t355 ++ y359)).bind fun bt365 => (silversidelaw01_PlaneMeets.l0 k t349 t352 bt365.2.2.2.2.2.2.2 0 0 bt365.1 bt365.2.1 bt365.2.2.1 bt365.2.2.2.1 bt365.2.2.2.2.1 bt365.2.2.2.2.2.1 bt365.2.2.2.2.2.2.1)) else (none))) else (none))))
theorem silversidelaw01_PlaneMeets.mono_l : ∀ k, (∀ y0 y1 y2 y3 y4 y5 y6 y7 y8 y9 y10 y11, LeO (silversidelaw01_PlaneMeets.l0 k y0 y1 y2 y3 y4 y5 y6 y7 y8 y9 y10 y11) (silversidelaw01_PlaneMeets.l0 (k + 1) y0 y1 y2 y3 y4 y5 y6 y7 y8 y9 y10 y11)) ∧ (∀ y0 y1 y2 y3 y4 y5 y6 y7 y8 y9 y10 y11 y12, LeO (silversidelaw01_PlaneMeets.l1 k y0 y1 y2 y3 y4 y5 y6 y7 y8 y9 y10 y11 y12) (silversidelaw01_PlaneMeets.l1 (k + 1) y0 y1 y2 y3 y4 y5 y6 y7 y8 y9 y10 y11 y12)) ∧ (∀ y0 y1 y2 y3, LeO (silversidelaw01_PlaneMeets.j2 k y0 y1 y2 y3) (silversidelaw01_PlaneMeets.j2 (k + 1) y0 y1 y2 y3)) ∧ (∀ y0 y1, LeO (silversidelaw01_PlaneMeets.j3 k y0 y1) (silversidelaw01_PlaneMeets.j3 (k + 1) y0 y1)) ∧ (∀ y0 y1 y2 y3 y4, LeO (silversidelaw01_PlaneMeets.j4 k y0 y1 y2 y3 y4) (silversidelaw01_PlaneMeets.j4 (k + 1) y0 y1 y2 y3 y4))
 | 0 => ⟨fun _ _ _ _ _ _ _ _ _ _ _ _ r h => by simp [silversidelaw01_PlaneMeets.l0] at h, fun _ _ _ _ _ _ _ _ _ _ _ _ _ r h => by simp [silversidelaw01_PlaneMeets.l1] at h, fun _ _ _ _ r h => by simp [silversidelaw01_PlaneMeets.j2] at h, fun _ _ r h => by simp [silversidelaw01_PlaneMeets.j3] at h, fun _ _ _ _ _ r h => by simp [silversidelaw01_PlaneMeets.j4] at h⟩
 | k + 1 => by
  obtain ⟨ih0, ih1, ih2, ih3, ih4⟩ := silversidelaw01_PlaneMeets.mono_l k
  refine ⟨?_, ?_, ?_, ?_, ?_⟩
  ·intro y0 y1 y2 y3 y4 y5 y6 y7 y8 y9 y10 y11
   unfold silversidelaw01_PlaneMeets.l0
   repeat' first
   | (with_reducible exact ih0 _ _ _ _ _ _ _ _ _ _ _ _)
   | (with_reducible exact ih1 _ _ _ _ _ _ _ _ _ _ _ _ _)
   | (with_reducible exact ih2 _ _ _ _)
   | (with_reducible exact ih3 _ _)
   | (with_reducible exact ih4 _ _ _ _ _)
   | (with_reducible exact plane_Separate.mono _ _ _)
   | (with_reducible exact silversidelaw01_awake.mono _)
   | (with_reducible exact silversidelaw01_set.mono _ _ _)
   | (with_reducible exact silversideref01_Set.mono _ _)
   | (with_reducible exact silversideref01_Valids.mono _ _)
   | (with_reducible exact LeO.refl _)
   | (with_reducible exact LeO.none _)
   | (with_reducible refine LeO.ite ?_ ?_)
   | (with_reducible refine LeO.bind ?_ (fun _ => ?_))
   | exact ih0 _ _ _ _ _ _ _ _ _ _ _ _
   | exact ih1 _ _ _ _ _ _ _ _ _ _ _ _ _
   | exact ih2 _ _ _ _
   | exact ih3 _ _
   | exact ih4 _ _ _ _ _
   | exact plane_Separate.mono _ _ _
   | exact silversidelaw01_awake.mono _
   | exact silversidelaw01_set.mono _ _ _
   | exact silversideref01_Set.mono _ _
   | exact silversideref01_Valids.mono _ _
   | exact LeO.none _
   | refine LeO.ite ?_ ?_
   | refine LeO.bind ?_ (fun _ => ?_)
  ·intro y0 y1 y2 y3 y4 y5 y6 y7 y8 y9 y10 y11 y12
   unfold silversidelaw01_PlaneMeets.l1
   repeat' first
   | (with_reducible exact ih0 _ _ _ _ _ _ _ _ _ _ _ _)
   | (with_reducible exact ih1 _ _ _ _ _ _ _ _ _ _ _ _ _)
   | (with_reducible exact ih2 _ _ _ _)
   | (with_reducible exact ih3 _ _)
   | (with_reducible exact ih4 _ _ _ _ _)
   | (with_reducible exact plane_Separate.mono _ _ _)
   | (with_reducible exact silversidelaw01_awake.mono _)
   | (with_reducible exact silversidelaw01_set.mono _ _ _)
   | (with_reducible exact silversideref01_Set.mono _ _)
   | (with_reducible exact silversideref01_Valids.mono _ _)
   | (with_reducible exact LeO.refl _)
   | (with_reducible exact LeO.none _)
   | (with_reducible refine LeO.ite ?_ ?_)
   | (with_reducible refine LeO.bind ?_ (fun _ => ?_))
   | exact ih0 _ _ _ _ _ _ _ _ _ _ _ _
   | exact ih1 _ _ _ _ _ _ _ _ _ _ _ _ _
   | exact ih2 _ _ _ _
   | exact ih3 _ _
   | exact ih4 _ _ _ _ _
   | exact plane_Separate.mono _ _ _
   | exact silversidelaw01_awake.mono _
   | exact silversidelaw01_set.mono _ _ _
   | exact silversideref01_Set.mono _ _
   | exact silversideref01_Valids.mono _ _
   | exact LeO.none _
   | refine LeO.ite ?_ ?_
   | refine LeO.bind ?_ (fun _ => ?_)
  ·intro y0 y1 y2 y3
   unfold silversidelaw01_PlaneMeets.j2
   repeat' first
   | (with_reducible exact ih0 _ _ _ _ _ _ _ _ _ _ _ _)
   | (with_reducible exact ih1 _ _ _ _ _ _ _ _ _ _ _ _ _)
   | (with_reducible exact ih2 _ _ _ _)
   | (with_reducible exact ih3 _ _)
   | (with_reducible exact ih4 _ _ _ _ _)
   | (with_reducible exact plane_Separate.mono _ _ _)
   | (with_reducible exact silversidelaw01_awake.mono _)
   | (with_reducible exact silversidelaw01_set.mono _ _ _)
   | (with_reducible exact silversideref01_Set.mono _ _)
   | (with_reducible exact silversideref01_Valids.mono _ _)
   | (with_reducible exact LeO.refl _)
   | (with_reducible exact LeO.none _)
   | (with_reducible refine LeO.ite ?_ ?_)
   | (with_reducible refine LeO.bind ?_ (fun _ => ?_))
   | exact ih0 _ _ _ _ _ _ _ _ _ _ _ _
   | exact ih1 _ _ _ _ _ _ _ _ _ _ _ _ _
   | exact ih2 _ _ _ _
   | exact ih3 _ _
   | exact ih4 _ _ _ _ _
   | exact plane_Separate.mono _ _ _
   | exact silversidelaw01_awake.mono _
   | exact silversidelaw01_set.mono _ _ _
   | exact silversideref01_Set.mono _ _
   | exact silversideref01_Valids.mono _ _
   | exact LeO.none _
   | refine LeO.ite ?_ ?_
   | refine LeO.bind ?_ (fun _ => ?_)
  ·intro y0 y1
   unfold silversidelaw01_PlaneMeets.j3
   repeat' first
   | (with_reducible exact ih0 _ _ _ _ _ _ _ _ _ _ _ _)
   | (with_reducible exact ih1 _ _ _ _ _ _ _ _ _ _ _ _ _)
   | (with_reducible exact ih2 _ _ _ _)
   | (with_reducible exact ih3 _ _)
   | (with_reducible exact ih4 _ _ _ _ _)
   | (with_reducible exact plane_Separate.mono _ _ _)
   | (with_reducible exact silversidelaw01_awake.mono _)
   | (with_reducible exact silversidelaw01_set.mono _ _ _)
   | (with_reducible exact silversideref01_Set.mono _ _)
   | (with_reducible exact silversideref01_Valids.mono _ _)
   | (with_reducible exact LeO.refl _)
   | (with_reducible exact LeO.none _)
   | (with_reducible refine LeO.ite ?_ ?_)
   | (with_reducible refine LeO.bind ?_ (fun _ => ?_))
   | exact ih0 _ _ _ _ _ _ _ _ _ _ _ _
   | exact ih1 _ _ _ _ _ _ _ _ _ _ _ _ _
   | exact ih2 _ _ _ _
   | exact ih3 _ _
   | exact ih4 _ _ _ _ _
   | exact plane_Separate.mono _ _ _
   | exact silversidelaw01_awake.mono _
   | exact silversidelaw01_set.mono _ _ _
   | exact silversideref01_Set.mono _ _
   | exact silversideref01_Valids.mono _ _
   | exact LeO.none _
   | refine LeO.ite ?_ ?_
   | refine LeO.bind ?_ (fun _ => ?_)
  ·intro y0 y1 y2 y3 y4
   unfold silversidelaw01_PlaneMeets.j4
   repeat' first
   | (with_reducible exact ih0 _ _ _ _ _ _ _ _ _ _ _ _)
   | (with_reducible exact ih1 _ _ _ _ _ _ _ _ _ _ _ _ _)
   | (with_reducible exact ih2 _ _ _ _)
   | (with_reducible exact ih3 _ _)
   | (with_reducible exact ih4 _ _ _ _ _)
   | (with_reducible exact plane_Separate.mono _ _ _)
   | (with_reducible exact silversidelaw01_awake.mono _)
   | (with_reducible exact silversidelaw01_set.mono _ _ _)
   | (with_reducible exact silversideref01_Set.mono _ _)
   | (with_reducible exact silversideref01_Valids.mono _ _)
   | (with_reducible exact LeO.refl _)
   | (with_reducible exact LeO.none _)
   | (with_reducible refine LeO.ite ?_ ?_)
   | (with_reducible refine LeO.bind ?_ (fun _ => ?_))
   | exact ih0 _ _ _ _ _ _ _ _ _ _ _ _
   | exact ih1 _ _ _ _ _ _ _ _ _ _ _ _ _
   | exact ih2 _ _ _ _
   | exact ih3 _ _
   | exact ih4 _ _ _ _ _
   | exact plane_Separate.mono _ _ _
   | exact silversidelaw01_awake.mono _
   | exact silversidelaw01_set.mono _ _ _
   | exact silversideref01_Set.mono _ _
   | exact silversideref01_Valids.mono _ _
   | exact LeO.none _
   | refine LeO.ite ?_ ?_
   | refine LeO.bind ?_ (fun _ => ?_)
theorem silversidelaw01_PlaneMeets.mono : ∀ a0 a1 k, LeO (silversidelaw01_PlaneMeets.f k a0 a1) (silversidelaw01_PlaneMeets.f (k + 1) a0 a1) := by
 intro a0 a1 k
 obtain ⟨ih0, ih1, ih2, ih3, ih4⟩ := silversidelaw01_PlaneMeets.mono_l k
 unfold silversidelaw01_PlaneMeets.f
 repeat' first
   | (with_reducible exact ih0 _ _ _ _ _ _ _ _ _ _ _ _)
   | (with_reducible exact ih1 _ _ _ _ _ _ _ _ _ _ _ _ _)
   | (with_reducible exact ih2 _ _ _ _)
   | (with_reducible exact ih3 _ _)
   | (with_reducible exact ih4 _ _ _ _ _)
   | (with_reducible exact plane_Separate.mono _ _ _)
   | (with_reducible exact silversidelaw01_awake.mono _)
   | (with_reducible exact silversidelaw01_set.mono _ _ _)
   | (with_reducible exact silversideref01_Set.mono _ _)
   | (with_reducible exact silversideref01_Valids.mono _ _)
   | (with_reducible exact LeO.refl _)
   | (with_reducible exact LeO.none _)
   | (with_reducible refine LeO.ite ?_ ?_)
   | (with_reducible refine LeO.bind ?_ (fun _ => ?_))
   | exact ih0 _ _ _ _ _ _ _ _ _ _ _ _
   | exact ih1 _ _ _ _ _ _ _ _ _ _ _ _ _
   | exact ih2 _ _ _ _
   | exact ih3 _ _
   | exact ih4 _ _ _ _ _
   | exact plane_Separate.mono _ _ _
   | exact silversidelaw01_awake.mono _
   | exact silversidelaw01_set.mono _ _ _
   | exact silversideref01_Set.mono _ _
   | exact silversideref01_Valids.mono _ _
   | exact LeO.none _
   | refine LeO.ite ?_ ?_
   | refine LeO.bind ?_ (fun _ => ?_)
def silversidelaw01_PlaneMeets.T2 : Bool × List (List Nat × List Nat) := (true, [([], []), ([0], [0]), ([], []), ([2], [2]), ([3], [3]), ([4], [4]), ([1, 5, 1], [1, 5]), ([6, 6, 0, 1, 2, 3, 4, 5, 6], [6])])
def silversidelaw01_PlaneMeets.B2 : List Nat := [0, 1, 0, 4, 12, 28, 63, 127]
theorem silversidelaw01_PlaneMeets.tab2 : rtab .any (opsOf Try.f8 2) = silversidelaw01_PlaneMeets.T2 := by kernel_rfl
theorem silversidelaw01_PlaneMeets.bits2 : waitsOk silversidelaw01_PlaneMeets.T2.2 silversidelaw01_PlaneMeets.B2 = true := by kernel_rfl
def silversidelaw01_PlaneMeets.T13 : Bool × List (List Nat × List Nat) := (true, [([], []), ([], []), ([1], [1]), ([2], [2]), ([], []), ([], []), ([4, 5], [4, 5]), ([6], [6]), ([7], [7]), ([3, 8], [3, 8]), ([], []), ([], []), ([10, 11], [10, 11]), ([12], [12]), ([13], [13]), ([9, 14], [9, 14]), ([15], [15]), ([0, 16], [0, 16]), ([17, 17, 0, 1, 2, 3, 4, 5, 6, 7, 8, 9, 10, 11, 12, 13, 14, 15, 16, 17], [0, 17])])
def silversidelaw01_PlaneMeets.B13 : List Nat := [0, 0, 2, 6, 0, 0, 48, 112, 240, 510, 0, 0, 3072, 7168, 15360, 32766, 65534, 131071, 262143]
theorem silversidelaw01_PlaneMeets.tab13 : rtab .any (opsOf Try.f8 13) = silversidelaw01_PlaneMeets.T13 := by kernel_rfl
theorem silversidelaw01_PlaneMeets.bits13 : waitsOk silversidelaw01_PlaneMeets.T13.2 silversidelaw01_PlaneMeets.B13 = true := by kernel_rfl
set_option maxHeartbeats 8000000 in
set_option maxRecDepth 100000 in
theorem silversidelaw01_PlaneMeets.calls (k : Nat) (A0 : Option Addr) (c0 : Nat) (l0 : List (S31)) (A1 : Option Addr) (c1 : Nat) (l1 : List (S31)) (r : Bool) (w : World) (hr0 : Kd.C k31 w A0 l0.length l0) (hc0 : l0.length ≤ c0) (hr1 : Kd.C k31 w A1 l1.length l1) (hc1 : l1.length ≤ c1) (h : silversidelaw01_PlaneMeets.f k l0 l1 = some r) :
  Calls Try.prog 8 #[.slice A0 l0.length c0, .slice A1 l1.length c1] w fun e w' => e = .returned (.bool r) ∧ Below w.heap.size w w' := by
 have hu31 := Try.underlying31
 have hu44 := Try.underlying44
 have HR0 := Aside0.mk hr0
 have HC0 := Aside0.mk hc0
 clear hr0 hc0
 have HR1 := Aside0.mk hr1
 have HC1 := Aside0.mk hc1
 clear hr1 hc1
 have HB := Aside0.mk (Below.refl w.heap.size w)
 have H : ((silversidelaw01_set.f k l0 30).bind fun t349 => ((silversidelaw01_set.f k l1 30).bind fun t352 => ((silversidelaw01_set.f k l1 30).bind fun t355 => (if 0 < (t349.length : Int) then ((some (([(⟨(rd_T31 t349 0).f0, (rd_T31 t349 0).f1⟩ : S31)] : List (S31)) : List (S31))).bind fun y359 => (if t355.length + y359.length < 8796093022208 then ((plane_Separate.f k t349 (t355 ++ y359)).bind fun bt365 => (silversidelaw01_PlaneMeets.l0 k t349 t352 bt365.2.2.2.2.2.2.2 0 0 bt365.1 bt365.2.1 bt365.2.2.1 bt365.2.2.2.1 bt365.2.2.2.2.1 bt365.2.2.2.2.2.1 bt365.2.2.2.2.2.2.1)) else (none))) else (none))))) = some r := h
 clear h
 replace H := Option.bind_eq_some_iff.mp H
 obtain ⟨t349, A30, H⟩ := H
 replace H : ((silversidelaw01_set.f k l1 30).bind fun t352 => ((silversidelaw01_set.f k l1 30).bind fun t355 => (if 0 < (t349.length : Int) then ((some (([(⟨(rd_T31 t349 0).f0, (rd_T31 t349 0).f1⟩ : S31)] : List (S31)) : List (S31))).bind fun y359 => (if t355.length + y359.length < 8796093022208 then ((plane_Separate.f k t349 (t355 ++ y359)).bind fun bt365 => (silversidelaw01_PlaneMeets.l0 k t349 t352 bt365.2.2.2.2.2.2.2 0 0 bt365.1 bt365.2.1 bt365.2.2.1 bt365.2.2.2.1 bt365.2.2.2.2.1 bt365.2.2.2.2.2.1 bt365.2.2.2.2.2.2.1)) else (none))) else (none)))) = some r := H
 have A3 := Aside0.mk A30
 clear A30
 replace H := Option.bind_eq_some_iff.mp H
 obtain ⟨t352, A40, H⟩ := H
 replace H : ((silversidelaw01_set.f k l1 30).bind fun t355 => (if 0 < (t349.length : Int) then ((some (([(⟨(rd_T31 t349 0).f0, (rd_T31 t349 0).f1⟩ : S31)] : List (S31)) : List (S31))).bind fun y359 => (if t355.length + y359.length < 8796093022208 then ((plane_Separate.f k t349 (t355 ++ y359)).bind fun bt365 => (silversidelaw01_PlaneMeets.l0 k t349 t352 bt365.2.2.2.2.2.2.2 0 0 bt365.1 bt365.2.1 bt365.2.2.1 bt365.2.2.2.1 bt365.2.2.2.2.1 bt365.2.2.2.2.2.1 bt365.2.2.2.2.2.2.1)) else (none))) else (none))) = some r := H
 have A4 := Aside0.mk A40
 clear A40
 replace H := Option.bind_eq_some_iff.mp H
 obtain ⟨t355, A50, H⟩ := H
 replace H : (if 0 < (t349.length : Int) then ((some (([(⟨(rd_T31 t349 0).f0, (rd_T31 t349 0).f1⟩ : S31)] : List (S31)) : List (S31))).bind fun y359 => (if t355.length + y359.length < 8796093022208 then ((plane_Separate.f k t349 (t355 ++ y359)).bind fun bt365 => (silversidelaw01_PlaneMeets.l0 k t349 t352 bt365.2.2.2.2.2.2.2 0 0 bt365.1 bt365.2.1 bt365.2.2.1 bt365.2.2.2.1 bt365.2.2.2.2.1 bt365.2.2.2.2.2.1 bt365.2.2.2.2.2.2.1)) else (none))) else (none)) = some r := H
 have A5 := Aside0.mk A50
 clear A50
 by_cases c6 : 0 < (t349.length : Int)
 ·rw [if_pos c6] at H
  have c6b0 : decide (0 < (t349.length : Int)) = true := decide_eq_true c6
  have c6b1 : decide (0 < t349.length) = true := decide_eq_true (by omega)
  clear c6
  obtain ⟨y359, hy359⟩ : ∃ y_ : List (S31), y_ = (([(⟨(rd_T31 t349 0).f0, (rd_T31 t349 0).f1⟩ : S31)] : List (S31))) := ⟨_, rfl⟩
  replace H : (if t355.length + y359.length < 8796093022208 then ((plane_Separate.f k t349 (t355 ++ y359)).bind fun bt365 => (silversidelaw01_PlaneMeets.l0 k t349 t352 bt365.2.2.2.2.2.2.2 0 0 bt365.1 bt365.2.1 bt365.2.2.1 bt365.2.2.2.1 bt365.2.2.2.2.1 bt365.2.2.2.2.2.1 bt365.2.2.2.2.2.2.1)) else (none)) = some r := by first | (rw [hy359]; with_reducible exact H) | (have H2_ := (Option.bind_some _ _).symm.trans H; rw [hy359]; with_reducible exact H2_) | (have H2_ := (Option.bind_some _ _).symm.trans H; with_reducible exact H2_) | with_reducible exact H | (rw [hy359]; exact H) | exact H
  have Ny359 := Aside0.mk hy359
  clear hy359
  by_cases c7 : t355.length + y359.length < 8796093022208
  ·rw [if_pos c7] at H
   have LMc7 := Aside0.mk c7
   clear c7
   obtain ⟨y362, hy362⟩ : ∃ y_ : List (S31), y_ = (t355 ++ y359) := ⟨_, rfl⟩
   replace H : ((plane_Separate.f k t349 y362).bind fun bt365 => (silversidelaw01_PlaneMeets.l0 k t349 t352 bt365.2.2.2.2.2.2.2 0 0 bt365.1 bt365.2.1 bt365.2.2.1 bt365.2.2.2.1 bt365.2.2.2.2.1 bt365.2.2.2.2.2.1 bt365.2.2.2.2.2.2.1)) = some r := by first | (rw [hy362]; with_reducible exact H) | (have H2_ := (Option.bind_some _ _).symm.trans H; rw [hy362]; with_reducible exact H2_) | (have H2_ := (Option.bind_some _ _).symm.trans H; with_reducible exact H2_) | with_reducible exact H | (rw [hy362]; exact H) | exact H
   have Ny362 := Aside0.mk hy362
   clear hy362
   replace H := Option.bind_eq_some_iff.mp H
   obtain ⟨⟨t365, t366, t367, t368, t369, t370, t371, t372⟩, A80, H⟩ := H
   replace H : (silversidelaw01_PlaneMeets.l0 k t349 t352 t372 0 0 t365 t366 t367 t368 t369 t370 t371) = some r := H
   have A8 := Aside0.mk A80
   clear A80
   have H' := Aside0.mk H
   clear H
   go_enter Try.func8, Try.ntmps8
   try go_wp2_with (first | ((with_reducible refine gate_callee (f := 36) rfl ?_); refine goesL_ (some 25) rfl rfl Try.func36 (by kernel_rfl) rfl #[.slice A0 l0.length c0, .int .i64 30] rfl (by (try simp only [List.map_toArray, List.map_cons, List.map_nil]); first | done | rfl | (simp only [List.length_drop, List.length_take]; rfl)) ?_; (with_reducible refine (silversidelaw01_set.calls k _ _ l0 30 t349 _ ?side1 ?side2 A3.out).mono ?_); (case side1 => repeat (first | exact HR0.out | (with_reducible refine Kd.C_alloc ?_ _) | (with_reducible refine Kd.C_drewN ?_ _) | (with_reducible refine Kd.C_drew ?_))); (case side2 => exact HC0.out); rintro e w9 ⟨v350, rfl, ho0, hb⟩; refine ⟨_, rfl, ?_⟩; have n0_ := Aside0.mk (Kd.R_lower ho0 (below_size (by repeat (first | (with_reducible first | exact HB.out | apply lA | apply lN | apply lD) | exact HB.out)))); have n1_ := Aside0.mk (below_step (by repeat (first | (with_reducible first | exact HB.out | apply lA | apply lN | apply lD) | exact HB.out)) hb); clear HB; have HO351 := n0_; have HB := n1_; clear n0_ n1_; (try clear hb); (try clear hb2); (try clear hk); (try clear hi); (try clear ho0)) | ((with_reducible refine gate_callee (f := 36) rfl ?_); refine goesL_ (some 27) rfl rfl Try.func36 (by kernel_rfl) rfl #[.slice A1 l1.length c1, .int .i64 30] rfl (by (try simp only [List.map_toArray, List.map_cons, List.map_nil]); first | done | rfl | (simp only [List.length_drop, List.length_take]; rfl)) ?_; (with_reducible refine (silversidelaw01_set.calls k _ _ l1 30 t352 _ ?side1 ?side2 A4.out).mono ?_); (case side1 => repeat (first | exact (Kd.C_below HR1.out HB.out) | (with_reducible refine Kd.C_alloc ?_ _) | (with_reducible refine Kd.C_drewN ?_ _) | (with_reducible refine Kd.C_drew ?_))); (case side2 => exact HC1.out); rintro e w10 ⟨v353, rfl, ho0, hb⟩; refine ⟨_, rfl, ?_⟩; have n0_ := Aside0.mk (Kd.R_elder' (rX HO351.out) (Kd.R_base ho0) hb); have n1_ := Aside0.mk (Kd.R_lower (Kd.R_new' ho0 (Kd.R_lt (rX HO351.out))) (below_size (by repeat (first | (with_reducible first | exact HB.out | apply lA | apply lN | apply lD) | exact HB.out)))); have n2_ := Aside0.mk (below_step (by repeat (first | (with_reducible first | exact HB.out | apply lA | apply lN | apply lD) | exact HB.out)) hb); clear HO351; clear HB; have HO351 := n0_; have HO354 := n1_; have HB := n2_; clear n0_ n1_ n2_; (try clear hb); (try clear hb2); (try clear hk); (try clear hi); (try clear ho0)))
   have n0_ := Aside0.mk (Kd.R_drew HO351.out)
   have n1_ := Aside0.mk (Kd.R_drew HO354.out)
   have n2_ := Aside0.mk (lD HB.out)
   clear HO351
   clear HO354
   clear HB
   have HO351 := n0_
   have HO354 := n1_
   have HB := n2_
   clear n0_ n1_ n2_
   obtain ⟨Ao12, co12, eo12⟩ := Kd.R_slice HO351.out
   (first | subst eo12 | (injection eo12 with f1_ f2_ f3_; have f4_ := f1_.symm; have f5_ := f3_.symm; clear f1_ f2_ f3_; subst f4_; subst f5_))
   have p358 : 0 ≤ (0 : Int) := (by omega)
   have q358 : 0 < (t349.length : Int) := of_decide_eq_true (by first | (with_reducible assumption) | assumption)
   obtain ⟨ad358, e358, hx358_0, hx358_1⟩ := at_T31 (Kd.R_reads' HO351.out).2.2 0 p358 q358
   cases e358
   have qi358 : (0 < t349.length) = True := eq_true (by omega)
   (try rw [show ((0 : Int)).toNat = 0 from rfl] at hx358_0)
   (try rw [show 0 * 2 = 0 from rfl] at hx358_0)
   (try rw [Addr.add_zero'] at hx358_0)
   (try rw [show ((0 : Int)).toNat = 0 from rfl] at hx358_1)
   (try rw [show 0 * 2 = 0 from rfl] at hx358_1)
   (try rw [Addr.add_zero'] at hx358_1)
   replace p358 := eq_true p358
   replace q358 := eq_true q358
   refine start_ (n := 8) (S := fun w' => w'.cell? ad358 = some (.int .i64 ((rd_T31 t349 0).f0)) ∧ w'.cell? ⟨ad358.block, ad358.off + 1, none⟩ = some (.int .i64 ((rd_T31 t349 0).f1))) (ds := [6]) (Bs 0 8) (by kernel_rfl) rfl rfl ⟨hx358_0, hx358_1⟩ (fun hHeld => ?_); refine with_tabW silversidelaw01_PlaneMeets.tab2 silversidelaw01_PlaneMeets.bits2 (fun HT_ HW_ => ?_)
   generalize w10.drew = w11 at HO351 HO354 HB hx358_0 hx358_1 hHeld ⊢
   refine pure_ (i := 0) (N := some 28) (v := ?_) (a' := ?_) (Bs 1 8) rfl rfl (any_of HT_.out (by kernel_rfl)) (fun _ _ _ h => h) (Or.inl ⟨by rfl, ?_⟩) ?_ ?_; rotate_left
   ·intro w'; go_simp; with_reducible rfl
   rotate_left
   ·simp only [Act.put, sA, sB, sC, i64_w, i32_w]; rfl
   refine pure_ (i := 2) (N := some 30) (v := ?_) (a' := ?_) #[τ,φ,τ,φ,φ,φ,φ,φ] rfl rfl (any_of HT_.out (by kernel_rfl)) (fun _ _ _ h => h) (Or.inl ⟨by rfl, ?_⟩) ?_ ?_; rotate_left
   ·intro w'; go_simp; with_reducible rfl
   rotate_left
   ·simp only [Act.put, sA, sB, sC, i64_w, i32_w]; rfl
   refine pure_ (i := 3) (N := some 31) (v := ?_) (a' := ?_) #[τ,φ,τ,τ,φ,φ,φ,φ] rfl rfl (any_of HT_.out (by kernel_rfl)) (fun _ _ _ h => h) (Or.inl ⟨by rfl, ?_⟩) ?_ ?_; rotate_left
   ·intro w'; go_simp; with_reducible rfl
   rotate_left
   ·simp only [Act.put, sA, sB, sC, i64_w, i32_w]; rfl
   refine take_ (i := 4) (N := some 32) (v := ?_) (a' := ?_) #[τ,φ,τ,τ,τ,φ,φ,φ] rfl rfl (take_ofW HT_.out HW_.out (by kernel_rfl)) (fun _ _ _ h => h) (Or.inl ⟨by rfl, ?_⟩) hHeld ?_ ?_; rotate_left
   ·rintro w' ⟨s0, s1⟩; go_simp; with_reducible rfl
   rotate_left
   ·simp only [Act.put, sA, sB, sC, i64_w, i32_w]; rfl
   refine join_ (σ := Value × Value) 2 (Bs 6 8) (fun s_ => [(29, s_.1), (33, s_.2)]) (fun s_ w' => (w'.cell? ad358 = some (.int .i64 ((rd_T31 t349 0).f0)) ∧ w'.cell? ⟨ad358.block, ad358.off + 1, none⟩ = some (.int .i64 ((rd_T31 t349 0).f1))) ∧ (Kd.R k31 31 w' w.heap.size (fun k_ => some k_ ≠ (v353 : Value).ownBlock ∧ some k_ ≠ (s_.1 : Value).ownBlock ∧ some k_ ≠ (s_.2 : Value).ownBlock) (.slice (some ad358) t349.length co12) t349) ∧ (Kd.R k31 31 w' w.heap.size (fun k_ => some k_ ≠ (.slice (some ad358) t349.length co12 : Value).ownBlock ∧ some k_ ≠ (s_.1 : Value).ownBlock ∧ some k_ ≠ (s_.2 : Value).ownBlock) v353 t352) ∧ (Kd.R k31 31 w' w.heap.size (fun k_ => some k_ ≠ (.slice (some ad358) t349.length co12 : Value).ownBlock ∧ some k_ ≠ (v353 : Value).ownBlock ∧ some k_ ≠ (s_.2 : Value).ownBlock) s_.1 t355) ∧ (Kd.R k31 31 w' w.heap.size (fun k_ => some k_ ≠ (.slice (some ad358) t349.length co12 : Value).ownBlock ∧ some k_ ≠ (v353 : Value).ownBlock ∧ some k_ ≠ (s_.1 : Value).ownBlock) s_.2 y359) ∧ (Below w.heap.size w w')) ?_ ?_
   rotate_left
   ·intro hCont
    refine two_ (i := 1) (j := 5) (Ni := some 29) (Nj := some 33) (Bs 5 8) #[τ,φ,τ,τ,τ,τ,φ,φ] rfl rfl rfl rfl (two_of HT_.out (by kernel_rfl)) (by decide) (by decide) (fun K hK => ?_) (fun K hK => ?_)
    ·skip
     refine goes_ Try.func36 (by kernel_rfl) rfl #[.slice A1 l1.length c1, .int .i64 30] (by rfl) rfl rfl (by (try simp only [List.map_toArray, List.map_cons, List.map_nil]); first | done | rfl | (simp only [List.length_drop, List.length_take]; rfl)) ?_
     with_reducible refine (silversidelaw01_set.calls k _ _ l1 30 t355 _ ?side1 ?side2 A5.out).mono ?_
     (case side1 => repeat (first | exact (Kd.C_below HR1.out HB.out) | (with_reducible refine Kd.C_alloc ?_ _) | (with_reducible refine Kd.C_drewN ?_ _) | (with_reducible refine Kd.C_drew ?_)))
     (case side2 => exact HC1.out)
     rintro e w13 ⟨v356, rfl, ho0, hb⟩
     have HS0_ := (hb.cell (World.block_lt_of_cell? _ _ (hHeld.1))).trans (hHeld.1)
     have HS1_ := (hb.cell (World.block_lt_of_cell? _ _ (hHeld.2))).trans (hHeld.2)
     refine ⟨_, rfl, ?_⟩
     have n0_ := Aside0.mk (Kd.R_elder' (rX HO351.out) (Kd.R_base ho0) hb)
     have n1_ := Aside0.mk (Kd.R_elder' (rX HO354.out) (Kd.R_base ho0) hb)
     have n2_ := Aside0.mk (Kd.R_lower (Kd.R_new' (Kd.R_new' ho0 (Kd.R_lt (rX HO351.out))) (Kd.R_lt (rX HO354.out))) (below_size (by repeat (first | (with_reducible first | exact HB.out | apply lA | apply lN | apply lD) | exact HB.out))))
     have n3_ := Aside0.mk (below_step (by repeat (first | (with_reducible first | exact HB.out | apply lA | apply lN | apply lD) | exact HB.out)) hb)
     clear HO351
     clear HO354
     clear HB
     have HO351 := n0_
     have HO354 := n1_
     have HO357 := n2_
     have HB := n3_
     clear n0_ n1_ n2_ n3_
     (try clear hb)
     (try clear hb2)
     (try clear hk)
     (try clear hi)
     (try clear ho0)
     refine hK.out _ _ ⟨HS0_, HS1_⟩ (fun hHeld => ?_)
     clear hK K
     refine norm_ (a' := ?_) ?_ ?_
     rotate_left
     ·show Act.put _ (some 29) _ = _
      simp only [Act.put, sA, sB, sC, i64_w, i32_w]
      rfl
     refine one_ (i := 5) (N := some 33) (Bs 6 8) rfl rfl (one_of HT_.out (by kernel_rfl)) (by decide) (fun K hK => ?_)
     refine Kd.R_lit_step k31 _ 31 ?hg (N := 33) ?hd (xs := ([(⟨(rd_T31 t349 0).f0, (rd_T31 t349 0).f1⟩ : S31)] : List (S31))) (inner := [.int .i64 ((rd_T31 t349 0).f0), .int .i64 ((rd_T31 t349 0).f1)]) (ok := fun _ => True) (okp := fun _ => True) ?hr ?hp (fun _ hk => hk) trivial (Below.refl _ _) (Nat.le_refl _) (by simp) ?_; (case hd => rfl); (case hg => rfl); (case hr => first | (go_simp; done) | (go_simp; rfl)); (case hp => exact (Reps.c2 (show Kd.M k31 _ _ _ (⟨(rd_T31 t349 0).f0, (rd_T31 t349 0).f1⟩ : S31) [.int .i64 ((rd_T31 t349 0).f0), .int .i64 ((rd_T31 t349 0).f1)] from (k31_mkM _ _ _ (⟨(rd_T31 t349 0).f0, (rd_T31 t349 0).f1⟩ : S31) )) (Reps.none _ _)))
     intro v360 w14 ho15 hb hg_ hnew_
     have HS0_ := (hb.cell (World.block_lt_of_cell? _ _ (hHeld.1))).trans (hHeld.1)
     have HS1_ := (hb.cell (World.block_lt_of_cell? _ _ (hHeld.2))).trans (hHeld.2)
     clear hg_ hnew_
     (first | rw [← Ny359.out] at ho15 | (simp only [Int.reduceToNat] at ho15; rw [← Ny359.out] at ho15))
     have n0_ := Aside0.mk (Kd.R_elder' (rX HO351.out) (Kd.R_base ho15) hb)
     have n1_ := Aside0.mk (Kd.R_elder' (rX HO354.out) (Kd.R_base ho15) hb)
     have n2_ := Aside0.mk (Kd.R_elder' (rX HO357.out) (Kd.R_base ho15) hb)
     have n3_ := Aside0.mk (Kd.R_lower (Kd.R_new' (Kd.R_new' (Kd.R_new' ho15 (Kd.R_lt (rX HO351.out))) (Kd.R_lt (rX HO354.out))) (Kd.R_lt (rX HO357.out))) (below_size (by repeat (first | (with_reducible first | exact HB.out | apply lA | apply lN | apply lD) | exact HB.out))))
     have n4_ := Aside0.mk (below_step (by repeat (first | (with_reducible first | exact HB.out | apply lA | apply lN | apply lD) | exact HB.out)) hb)
     clear HO351
     clear HO354
     clear HO357
     clear HB
     have HO351 := n0_
     have HO354 := n1_
     have HO357 := n2_
     have HO361 := n3_
     have HB := n4_
     clear n0_ n1_ n2_ n3_ n4_
     clear hb ho15
     refine hK.out _ _ ⟨HS0_, HS1_⟩ (fun hHeld => ?_)
     clear hK K
     refine norm_ (a' := ?_) ?_ ?_
     rotate_left
     ·show Act.put _ (some 33) _ = _
      simp only [Act.put, sA, sB, sC, i64_w, i32_w]
      rfl
     exact norm_ (by simp only [putAll, Act.put, sA, sB, sC]) (hCont (v356, v360) _ ⟨hHeld, (rX (Kd.R_mono HO351.out (fun _ hk => ⟨hk.1.1.2, ⟨hk.1.2, hk.2⟩⟩))), (rX (Kd.R_mono HO354.out (fun _ hk => ⟨hk.1.1.2, ⟨hk.1.2, hk.2⟩⟩))), (rX (Kd.R_mono HO357.out (fun _ hk => ⟨hk.1.1.2, ⟨hk.1.2, hk.2⟩⟩))), (rX (Kd.R_mono HO361.out (fun _ hk => ⟨hk.1.1.2, ⟨hk.1.2, hk.2⟩⟩))), (by repeat (first | (with_reducible first | exact HB.out | apply lA | apply lN | apply lD) | exact HB.out))⟩)
    skip
    refine Kd.R_lit_step k31 _ 31 ?hg (N := 33) ?hd (xs := ([(⟨(rd_T31 t349 0).f0, (rd_T31 t349 0).f1⟩ : S31)] : List (S31))) (inner := [.int .i64 ((rd_T31 t349 0).f0), .int .i64 ((rd_T31 t349 0).f1)]) (ok := fun _ => True) (okp := fun _ => True) ?hr ?hp (fun _ hk => hk) trivial (Below.refl _ _) (Nat.le_refl _) (by simp) ?_; (case hd => rfl); (case hg => rfl); (case hr => first | (go_simp; done) | (go_simp; rfl)); (case hp => exact (Reps.c2 (show Kd.M k31 _ _ _ (⟨(rd_T31 t349 0).f0, (rd_T31 t349 0).f1⟩ : S31) [.int .i64 ((rd_T31 t349 0).f0), .int .i64 ((rd_T31 t349 0).f1)] from (k31_mkM _ _ _ (⟨(rd_T31 t349 0).f0, (rd_T31 t349 0).f1⟩ : S31) )) (Reps.none _ _)))
    intro v360 w13 ho14 hb hg_ hnew_
    have HS0_ := (hb.cell (World.block_lt_of_cell? _ _ (hHeld.1))).trans (hHeld.1)
    have HS1_ := (hb.cell (World.block_lt_of_cell? _ _ (hHeld.2))).trans (hHeld.2)
    clear hg_ hnew_
    (first | rw [← Ny359.out] at ho14 | (simp only [Int.reduceToNat] at ho14; rw [← Ny359.out] at ho14))
    have n0_ := Aside0.mk (Kd.R_elder' (rX HO351.out) (Kd.R_base ho14) hb)
    have n1_ := Aside0.mk (Kd.R_elder' (rX HO354.out) (Kd.R_base ho14) hb)
    have n2_ := Aside0.mk (Kd.R_lower (Kd.R_new' (Kd.R_new' ho14 (Kd.R_lt (rX HO351.out))) (Kd.R_lt (rX HO354.out))) (below_size (by repeat (first | (with_reducible first | exact HB.out | apply lA | apply lN | apply lD) | exact HB.out))))
    have n3_ := Aside0.mk (below_step (by repeat (first | (with_reducible first | exact HB.out | apply lA | apply lN | apply lD) | exact HB.out)) hb)
    clear HO351
    clear HO354
    clear HB
    have HO351 := n0_
    have HO354 := n1_
    have HO361 := n2_
    have HB := n3_
    clear n0_ n1_ n2_ n3_
    clear hb ho14
    refine hK.out _ _ ⟨HS0_, HS1_⟩ (fun hHeld => ?_)
    clear hK K
    refine norm_ (a' := ?_) ?_ ?_
    rotate_left
    ·show Act.put _ (some 33) _ = _
     simp only [Act.put, sA, sB, sC, i64_w, i32_w]
     rfl
    refine one_ (i := 1) (N := some 29) (Bs 6 8) rfl rfl (one_of HT_.out (by kernel_rfl)) (by decide) (fun K hK => ?_)
    refine goes_ Try.func36 (by kernel_rfl) rfl #[.slice A1 l1.length c1, .int .i64 30] (by rfl) rfl rfl (by (try simp only [List.map_toArray, List.map_cons, List.map_nil]); first | done | rfl | (simp only [List.length_drop, List.length_take]; rfl)) ?_
    with_reducible refine (silversidelaw01_set.calls k _ _ l1 30 t355 _ ?side1 ?side2 A5.out).mono ?_
    (case side1 => repeat (first | exact (Kd.C_below HR1.out HB.out) | (with_reducible refine Kd.C_alloc ?_ _) | (with_reducible refine Kd.C_drewN ?_ _) | (with_reducible refine Kd.C_drew ?_)))
    (case side2 => exact HC1.out)
    rintro e w15 ⟨v356, rfl, ho0, hb⟩
    have HS0_ := (hb.cell (World.block_lt_of_cell? _ _ (hHeld.1))).trans (hHeld.1)
    have HS1_ := (hb.cell (World.block_lt_of_cell? _ _ (hHeld.2))).trans (hHeld.2)
    refine ⟨_, rfl, ?_⟩
    have n0_ := Aside0.mk (Kd.R_elder' (rX HO351.out) (Kd.R_base ho0) hb)
    have n1_ := Aside0.mk (Kd.R_elder' (rX HO354.out) (Kd.R_base ho0) hb)
    have n2_ := Aside0.mk (Kd.R_elder' (rX HO361.out) (Kd.R_base ho0) hb)
    have n3_ := Aside0.mk (Kd.R_lower (Kd.R_new' (Kd.R_new' (Kd.R_new' ho0 (Kd.R_lt (rX HO351.out))) (Kd.R_lt (rX HO354.out))) (Kd.R_lt (rX HO361.out))) (below_size (by repeat (first | (with_reducible first | exact HB.out | apply lA | apply lN | apply lD) | exact HB.out))))
    have n4_ := Aside0.mk (below_step (by repeat (first | (with_reducible first | exact HB.out | apply lA | apply lN | apply lD) | exact HB.out)) hb)
    clear HO351
    clear HO354
    clear HO361
    clear HB
    have HO351 := n0_
    have HO354 := n1_
    have HO361 := n2_
    have HO357 := n3_
    have HB := n4_
    clear n0_ n1_ n2_ n3_ n4_
    (try clear hb)
    (try clear hb2)
    (try clear hk)
    (try clear hi)
    (try clear ho0)
    refine hK.out _ _ ⟨HS0_, HS1_⟩ (fun hHeld => ?_)
    clear hK K
    refine norm_ (a' := ?_) ?_ ?_
    rotate_left
    ·show Act.put _ (some 29) _ = _
     simp only [Act.put, sA, sB, sC, i64_w, i32_w]
     rfl
    exact norm_ (by simp only [putAll, Act.put, sA, sB, sC]) (hCont (v356, v360) _ ⟨hHeld, (rX (Kd.R_mono HO351.out (fun _ hk => ⟨hk.1.1.2, ⟨hk.2, hk.1.2⟩⟩))), (rX (Kd.R_mono HO354.out (fun _ hk => ⟨hk.1.1.2, ⟨hk.2, hk.1.2⟩⟩))), (rX (Kd.R_mono HO357.out (fun _ hk => ⟨hk.1.1.2, ⟨hk.1.2, hk.2⟩⟩))), (rX (Kd.R_mono HO361.out (fun _ hk => ⟨hk.1.1.2, ⟨hk.1.2, hk.2⟩⟩))), (by repeat (first | (with_reducible first | exact HB.out | apply lA | apply lN | apply lD) | exact HB.out))⟩)
   rintro ⟨v356, v360⟩ w16 ⟨hS_, h0_, h1_, h2_, h3_, h4_⟩
   have n0_ : Aside0 (Kd.R k31 31 w16 w.heap.size (fun k_ => some k_ ≠ (v353 : Value).ownBlock ∧ some k_ ≠ (v356 : Value).ownBlock ∧ some k_ ≠ (v360 : Value).ownBlock) (.slice (some ad358) t349.length co12) t349) := ⟨h0_⟩
   have n1_ : Aside0 (Kd.R k31 31 w16 w.heap.size (fun k_ => some k_ ≠ (.slice (some ad358) t349.length co12 : Value).ownBlock ∧ some k_ ≠ (v356 : Value).ownBlock ∧ some k_ ≠ (v360 : Value).ownBlock) v353 t352) := ⟨h1_⟩
   have n2_ : Aside0 (Kd.R k31 31 w16 w.heap.size (fun k_ => some k_ ≠ (.slice (some ad358) t349.length co12 : Value).ownBlock ∧ some k_ ≠ (v353 : Value).ownBlock ∧ some k_ ≠ (v360 : Value).ownBlock) v356 t355) := ⟨h2_⟩
   have n3_ : Aside0 (Kd.R k31 31 w16 w.heap.size (fun k_ => some k_ ≠ (.slice (some ad358) t349.length co12 : Value).ownBlock ∧ some k_ ≠ (v353 : Value).ownBlock ∧ some k_ ≠ (v356 : Value).ownBlock) v360 y359) := ⟨h3_⟩
   have n4_ : Aside0 (Below w.heap.size w w16) := ⟨h4_⟩
   clear HO351
   clear HO354
   clear HB
   clear h0_ h1_ h2_ h3_ h4_
   have HO351 := n0_
   have HO354 := n1_
   have HO357 := n2_
   have HO361 := n3_
   have HB := n4_
   clear n0_ n1_ n2_ n3_ n4_
   have hHeld : w16.cell? ad358 = some (.int .i64 ((rd_T31 t349 0).f0)) ∧ w16.cell? ⟨ad358.block, ad358.off + 1, none⟩ = some (.int .i64 ((rd_T31 t349 0).f1)) := hS_
   obtain ⟨Ao18, co18, eo18⟩ := Kd.R_slice HO361.out
   (first | subst eo18 | (injection eo18 with f1_ f2_ f3_; have f4_ := f1_.symm; have f5_ := f3_.symm; clear f1_ f2_ f3_; subst f4_; subst f5_))
   refine norm_ (a' := ?_) ?_ ?_
   rotate_left
   ·simp only [putAll, Act.put, sA, sB, sC]
    rfl
   refine last_ (i := 6) (N := some 34) (Bs 7 8) rfl rfl (one_of HT_.out (by kernel_rfl)) (by decide) (fun K hK => ?_)
   refine Kd.R_append_rows_step k31 (w0 := w) w.heap.size (by rfl) (.tmp 29) (.tmp 33) 22 31 (.agg #[(.int .i64 0), (.int .i64 0)]) 16 rfl Try.underlying22 info31 rfl (by decide) (by omega) v356 t355 y359 _ _ _ (fun k_ => some k_ ≠ (.slice (some ad358) t349.length co12 : Value).ownBlock ∧ some k_ ≠ (v353 : Value).ownBlock ∧ some k_ ≠ (.slice Ao18 y359.length co18 : Value).ownBlock) (fun _ => False) rfl rfl ?aO ?aR (fun _ _ h => h) (fun _ h => h.elim) ?aF ?aB ?aS ?aL ?_
   (case aR => repeat (first | exact (Kd.R_reads' HO361.out).2.2 | (with_reducible refine Kd.C_alloc ?_ _) | (with_reducible refine Kd.C_drewN ?_ _) | (with_reducible refine Kd.C_drew ?_)))
   (case aB => exact (by repeat (first | (with_reducible first | exact HB.out | apply lA | apply lN | apply lD) | exact HB.out)))
   (case aF => exact (fun k_ hk => ⟨Kd.fresh' (Kd.R_lt (rX HO351.out)) k_ hk, Kd.fresh' (Kd.R_lt (rX HO354.out)) k_ hk, Kd.fresh' (Kd.R_lt (rX HO361.out)) k_ hk⟩))
   (case aO => exact (rX HO357.out))
   (case aS => exact (below_size (by repeat (first | (with_reducible first | exact HB.out | apply lA | apply lN | apply lD) | exact HB.out))))
   (case aL => have := LMc7.out; omega)
   intro v363 w17 ho hb hg hat
   rw [← Ny362.out] at ho
   have n0_ := Aside0.mk (Kd.R_after (ok := (fun k_ => some k_ ≠ (v353 : Value).ownBlock ∧ some k_ ≠ (.slice Ao18 y359.length co18 : Value).ownBlock)) (rX (Kd.R_mono HO351.out (fun _ hk => ⟨⟨hk.1, hk.2.2⟩, hk.2.1⟩))) hg hat)
   have n1_ := Aside0.mk (Kd.R_after (ok := (fun k_ => some k_ ≠ (.slice (some ad358) t349.length co12 : Value).ownBlock ∧ some k_ ≠ (.slice Ao18 y359.length co18 : Value).ownBlock)) (rX (Kd.R_mono HO354.out (fun _ hk => ⟨⟨hk.1, hk.2.2⟩, hk.2.1⟩))) hg hat)
   have n2_ := Aside0.mk (Kd.R_after (ok := (fun k_ => some k_ ≠ (.slice (some ad358) t349.length co12 : Value).ownBlock ∧ some k_ ≠ (v353 : Value).ownBlock)) (rX (Kd.R_mono HO361.out (fun _ hk => ⟨⟨hk.1, hk.2.1⟩, hk.2.2⟩))) hg hat)
   have n3_ := Aside0.mk (hb)
   have n4_ := Aside0.mk (ho)
   clear HO351
   clear HO354
   clear HO361
   clear HB
   clear HO357
   have HO351 := n0_
   have HO354 := n1_
   have HO361 := n2_
   have HB := n3_
   have HO364 := n4_
   clear n0_ n1_ n2_ n3_ n4_
   clear ho hb hg hat
   refine hK.out _ _ ?_
   clear hK K
   refine norm_ (a' := ?_) ?_ ?_
   rotate_left
   ·show Act.put _ (some 34) _ = _
    simp only [Act.put, sA, sB, sC, i64_w, i32_w]
    rfl
   refine pure_ (i := 7) (N := some 7) (v := ?_) (a' := ?_) (Bs 8 8) rfl rfl (any_of HT_.out (by kernel_rfl)) (fun _ _ _ h => h) (Or.inl ⟨by rfl, ?_⟩) ?_ ?_; rotate_left
   ·intro w'; go_simp; with_reducible rfl
   rotate_left
   ·simp only [Act.put, sA, sB, sC, i64_w, i32_w]; rfl
   refine done_ (done_of HT_.out (by kernel_rfl)) ?_
   obtain ⟨Ao19, co19, eo19⟩ := Kd.R_slice HO364.out
   subst eo19
   try go_wp2_with (first | ((with_reducible refine gate_callee (f := 37) rfl ?_); refine goesL_ (some 38) rfl rfl Try.func37 (by kernel_rfl) rfl #[.slice (some ad358) t349.length co12, .slice Ao19 y362.length co19] rfl (by (try simp only [List.map_toArray, List.map_cons, List.map_nil]); first | done | rfl | (simp only [List.length_drop, List.length_take]; rfl)) ?_; (with_reducible refine (plane_Separate.calls k _ _ t349 _ _ y362 t365 t366 t367 t368 t369 t370 t371 t372 _ ?side1 ?side2 ?side3 ?side4 A8.out).mono ?_); (case side1 => repeat (first | exact (Kd.R_reads' HO351.out).2.2 | (with_reducible refine Kd.C_alloc ?_ _) | (with_reducible refine Kd.C_drewN ?_ _) | (with_reducible refine Kd.C_drew ?_))); (case side2 => exact (Kd.R_reads' HO351.out).2.1); (case side3 => repeat (first | exact (Kd.R_reads' HO364.out).2.2 | (with_reducible refine Kd.C_alloc ?_ _) | (with_reducible refine Kd.C_drewN ?_ _) | (with_reducible refine Kd.C_drew ?_))); (case side4 => exact (Kd.R_reads' HO364.out).2.1); rintro e w20 ⟨rfl, hb⟩; refine ⟨_, rfl, ?_⟩; have n0_ := Aside0.mk (Kd.R_below (rX HO351.out) hb); have n1_ := Aside0.mk (Kd.R_below (rX HO354.out) hb); have n2_ := Aside0.mk (Kd.R_below (rX HO361.out) hb); have n3_ := Aside0.mk (Kd.R_below (rX HO364.out) hb); have n4_ := Aside0.mk (below_step (by repeat (first | (with_reducible first | exact HB.out | apply lA | apply lN | apply lD) | exact HB.out)) hb); clear HO351; clear HO354; clear HO361; clear HO364; clear HB; have HO351 := n0_; have HO354 := n1_; have HO361 := n2_; have HO364 := n3_; have HB := n4_; clear n0_ n1_ n2_ n3_ n4_; (try clear hb); (try clear hb2); (try clear hk); (try clear hi)) | ((with_reducible refine gate_dst (N := 8) rfl ?_); refine box_event ?hg (N := 8) ?hd (cs := #[.bool false, .int .i64 0, .int .i64 0, .int .i64 0, .int .i64 0, .int .i64 0, .int .i64 0]) (t := 44) ?hr ?_; (case hd => rfl); (case hg => rfl); (case hr => first | (go_simp; done) | (go_simp; rfl)); intro gb373 hg w21 hbox hb; have n0_ := Aside0.mk (Kd.R_below (rX HO351.out) hb); have n1_ := Aside0.mk (Kd.R_below (rX HO354.out) hb); have n2_ := Aside0.mk (Kd.R_below (rX HO361.out) hb); have n3_ := Aside0.mk (Kd.R_below (rX HO364.out) hb); have n4_ := Aside0.mk (below_step (by repeat (first | (with_reducible first | exact HB.out | apply lA | apply lN | apply lD) | exact HB.out)) hb); have n5_ := Aside0.mk (hbox); have n6_ := Aside0.mk ((by rw [hg]; exact (below_size (by repeat (first | (with_reducible first | exact HB.out | apply lA | apply lN | apply lD) | exact HB.out))) : w.heap.size ≤ gb373)); have n7_ := Aside0.mk ((by rw [hg]; exact (below_size (by repeat (first | (with_reducible first | exact HB.out | apply lA | apply lN | apply lD) | exact HB.out))) : w.heap.size ≤ gb373)); clear HO351; clear HO354; clear HO361; clear HO364; clear HB; have HO351 := n0_; have HO354 := n1_; have HO361 := n2_; have HO364 := n3_; have HB := n4_; have BK373 := n5_; have GW373 := n6_; have GE373 := n7_; clear n0_ n1_ n2_ n3_ n4_ n5_ n6_ n7_; clear hb hbox hg; have hcz22_0 : w21.cell? ⟨gb373, 0, none⟩ = some (.bool false) := (blk_cell BK373.out 0).trans rfl; have hcz22_1 : w21.cell? ⟨gb373, 1, none⟩ = some (.int .i64 0) := (blk_cell BK373.out 1).trans rfl; have hcz22_2 : w21.cell? ⟨gb373, 2, none⟩ = some (.int .i64 0) := (blk_cell BK373.out 2).trans rfl; have hcz22_3 : w21.cell? ⟨gb373, 3, none⟩ = some (.int .i64 0) := (blk_cell BK373.out 3).trans rfl; have hcz22_4 : w21.cell? ⟨gb373, 4, none⟩ = some (.int .i64 0) := (blk_cell BK373.out 4).trans rfl; have hcz22_5 : w21.cell? ⟨gb373, 5, none⟩ = some (.int .i64 0) := (blk_cell BK373.out 5).trans rfl; have hcz22_6 : w21.cell? ⟨gb373, 6, none⟩ = some (.int .i64 0) := (blk_cell BK373.out 6).trans rfl; have hfz22_0 := blk_frozen BK373.out 0; have hfz22_1 := blk_frozen BK373.out 1; have hfz22_2 := blk_frozen BK373.out 2; have hfz22_3 := blk_frozen BK373.out 3; have hfz22_4 := blk_frozen BK373.out 4; have hfz22_5 := blk_frozen BK373.out 5; have hfz22_6 := blk_frozen BK373.out 6))
   go_loopg [10, 11] k (fun kq v10 v11 w' => ∃ (x10_1 : Int) (x11_1 : Int), v10 = .int .i64 x10_1 ∧ v11 = .int .i64 x11_1 ∧ Aside0 (silversidelaw01_PlaneMeets.l0 kq t349 t352 t372 x10_1 x11_1 t365 t366 t367 t368 t369 t370 t371 = some r) ∧ Aside0 (kq ≤ k) ∧ Aside0 (Kd.R k31 31 w' w.heap.size (fun k_ => some k_ ≠ (v353 : Value).ownBlock) (.slice (some ad358) t349.length co12) t349) ∧ Aside0 (Kd.R k31 31 w' w.heap.size (fun k_ => some k_ ≠ ((.slice (some ad358) t349.length co12) : Value).ownBlock) v353 t352) ∧ Aside0 (w'.heap[gb373]? = some (.cells #[.bool t365, .int .i64 t366, .int .i64 t367, .int .i64 t368, .int .i64 t369, .int .i64 t370, .int .i64 t371] 44 (0, 0))) ∧ Aside0 (Below w.heap.size w w'))
   case atStart => exact ⟨(0), (0), (by first | rfl | (simp; done) | (simp [*]; done)), (by first | rfl | (simp; done) | (simp [*]; done)), H', ⟨Nat.le_refl _⟩, ⟨rX (Kd.R_mono (Kd.R_far (p := ⟨gb373, 6, none⟩) (Kd.R_far (p := ⟨gb373, 5, none⟩) (Kd.R_far (p := ⟨gb373, 4, none⟩) (Kd.R_far (p := ⟨gb373, 3, none⟩) (Kd.R_far (p := ⟨gb373, 2, none⟩) (Kd.R_far (p := ⟨gb373, 1, none⟩) (Kd.R_far (p := ⟨gb373, 0, none⟩) (Kd.R_types HO351.out BK373.out (by decide)) (fun _ hk => hk.2) (.bool t365)) (fun _ hk => hk.2) (.int .i64 t366)) (fun _ hk => hk.2) (.int .i64 t367)) (fun _ hk => hk.2) (.int .i64 t368)) (fun _ hk => hk.2) (.int .i64 t369)) (fun _ hk => hk.2) (.int .i64 t370)) (fun _ hk => hk.2) (.int .i64 t371)) (fun _ hk => hk.1.1.1))⟩, ⟨rX (Kd.R_mono (Kd.R_far (p := ⟨gb373, 6, none⟩) (Kd.R_far (p := ⟨gb373, 5, none⟩) (Kd.R_far (p := ⟨gb373, 4, none⟩) (Kd.R_far (p := ⟨gb373, 3, none⟩) (Kd.R_far (p := ⟨gb373, 2, none⟩) (Kd.R_far (p := ⟨gb373, 1, none⟩) (Kd.R_far (p := ⟨gb373, 0, none⟩) (Kd.R_types HO354.out BK373.out (by decide)) (fun _ hk => hk.2) (.bool t365)) (fun _ hk => hk.2) (.int .i64 t366)) (fun _ hk => hk.2) (.int .i64 t367)) (fun _ hk => hk.2) (.int .i64 t368)) (fun _ hk => hk.2) (.int .i64 t369)) (fun _ hk => hk.2) (.int .i64 t370)) (fun _ hk => hk.2) (.int .i64 t371)) (fun _ hk => hk.1.1.1))⟩, ⟨by (with_reducible repeat (first | refine kN ?_ _ | refine kD ?_ | refine kA ?_ _)); refine blk_put (cs := #[.bool t365, .int .i64 t366, .int .i64 t367, .int .i64 t368, .int .i64 t369, .int .i64 t370, .int .i64 0]) ?_ 6 _ rfl; (with_reducible repeat (first | refine kN ?_ _ | refine kD ?_ | refine kA ?_ _)); refine blk_put (cs := #[.bool t365, .int .i64 t366, .int .i64 t367, .int .i64 t368, .int .i64 t369, .int .i64 0, .int .i64 0]) ?_ 5 _ rfl; (with_reducible repeat (first | refine kN ?_ _ | refine kD ?_ | refine kA ?_ _)); refine blk_put (cs := #[.bool t365, .int .i64 t366, .int .i64 t367, .int .i64 t368, .int .i64 0, .int .i64 0, .int .i64 0]) ?_ 4 _ rfl; (with_reducible repeat (first | refine kN ?_ _ | refine kD ?_ | refine kA ?_ _)); refine blk_put (cs := #[.bool t365, .int .i64 t366, .int .i64 t367, .int .i64 0, .int .i64 0, .int .i64 0, .int .i64 0]) ?_ 3 _ rfl; (with_reducible repeat (first | refine kN ?_ _ | refine kD ?_ | refine kA ?_ _)); refine blk_put (cs := #[.bool t365, .int .i64 t366, .int .i64 0, .int .i64 0, .int .i64 0, .int .i64 0, .int .i64 0]) ?_ 2 _ rfl; (with_reducible repeat (first | refine kN ?_ _ | refine kD ?_ | refine kA ?_ _)); refine blk_put (cs := #[.bool t365, .int .i64 0, .int .i64 0, .int .i64 0, .int .i64 0, .int .i64 0, .int .i64 0]) ?_ 1 _ rfl; (with_reducible repeat (first | refine kN ?_ _ | refine kD ?_ | refine kA ?_ _)); refine blk_put (cs := #[.bool false, .int .i64 0, .int .i64 0, .int .i64 0, .int .i64 0, .int .i64 0, .int .i64 0]) ?_ 0 _ rfl; (with_reducible repeat (first | refine kN ?_ _ | refine kD ?_ | refine kA ?_ _)); exact BK373.out⟩, ⟨by repeat (first | (with_reducible first | exact HB.out | apply lA | apply lN | apply lD | refine lS ?_ GE373.out) | exact HB.out)⟩⟩
   case round =>
    clear H'
    try clear c1
    try clear c2
    try clear p2
    try clear c3
    try clear p3
    try clear q3
    try clear hx3
    try clear qi3
    try clear c6
    try clear c6b0
    try clear c6b1
    try clear c7
    try clear c8
    try clear hcz22_0
    try clear hcz22_1
    try clear hcz22_2
    try clear hcz22_3
    try clear hcz22_4
    try clear hcz22_5
    try clear hcz22_6
    try clear hfz22_0
    try clear hfz22_1
    try clear hfz22_2
    try clear hfz22_3
    try clear hfz22_4
    try clear hfz22_5
    try clear hfz22_6
    try clear hx358_0
    try clear hx358_1
    try clear p358
    try clear q358
    obtain ⟨x10_1, x11_1, rfl, rfl, HA, HK1, HO_5, HO_6, BK373, HB⟩ := hrel
    cases gk with
    | zero => exact absurd HA.out (by simp [silversidelaw01_PlaneMeets.l0])
    | succ k1 =>
     have H := HA.out
     clear HA
     simp only [silversidelaw01_PlaneMeets.l0] at H
     by_cases c23 : x11_1 < (t349.length : Int)
     ·rw [if_pos c23] at H
      have c23b0 : decide (x11_1 < (t349.length : Int)) = true := decide_eq_true c23
      clear c23
      by_cases c24 : 0 ≤ x11_1
      ·rw [if_pos c24] at H
       have c24b0 : decide (0 ≤ x11_1) = true := decide_eq_true c24
       clear c24
       obtain ⟨ji25, hji25⟩ : ∃ j_ : Int, (mx x10_1 ((rd_T31 t349 x11_1).f0)) = j_ := ⟨_, rfl⟩
       replace H : (silversidelaw01_PlaneMeets.l0 k1 t349 t352 t372 ji25 (wrap64 (x11_1 + 1)) t365 t366 t367 t368 t369 t370 t371) = some r := by first | (rw [hji25] at H; exact H) | (simp only [hji25] at H ⊢; exact H)
       have hji25_ : (if x10_1 < ((rd_T31 t349 x11_1).f0) then ((rd_T31 t349 x11_1).f0) else x10_1) = ji25 := hji25
       have H' := Aside0.mk H
       clear H
       have p374 : 0 ≤ (x11_1 : Int) := of_decide_eq_true (by first | (with_reducible assumption) | assumption)
       have q374 : x11_1 < (t349.length : Int) := of_decide_eq_true (by first | (with_reducible assumption) | assumption)
       obtain ⟨ad374, e374, hx374_0, hx374_1⟩ := at_T31 (Kd.R_reads' HO_5.out).2.2 x11_1 p374 q374
       obtain rfl : ad358 = ad374 := (by injection e374)
       replace p374 := eq_true p374
       replace q374 := eq_true q374
       go_wp2
       go_roundg k1
       case measure => have := HK1.out; omega
       case rel => exact ⟨(ji25), (wrap64 (x11_1 + 1)), (by first | rfl | (simp; done) | (simp only [← hji25] <;> (first | rfl | simp)) | (simp [*]; done)), (by first | rfl | (simp; done) | (simp [*]; done)), H', ⟨by have := HK1.out; omega⟩, ⟨rX HO_5.out⟩, ⟨rX HO_6.out⟩, ⟨kX BK373.out⟩, ⟨by repeat (first | (with_reducible first | exact HB.out | apply lA | apply lN | apply lD | refine lS ?_ GE373.out) | exact HB.out)⟩⟩
      ·rw [if_neg c24] at H
       exact absurd H (by simp)
     ·rw [if_neg c23] at H
      have c23b0 : decide (x11_1 < (t349.length : Int)) = false := decide_eq_false c23
      clear c23
      have H' := Aside0.mk H
      clear H
      go_wp2
      go_loopg [12, 13] k1 (fun kq v12 v13 w' => ∃ (x12_2 : List (S31)) (x13_2 : Int), v13 = .int .i64 x13_2 ∧ Aside0 (silversidelaw01_PlaneMeets.l1 kq t349 t352 t372 x10_1 x12_2 x13_2 t365 t366 t367 t368 t369 t370 t371 = some r) ∧ Aside0 (kq ≤ k1) ∧ Aside0 (Kd.R k31 31 w' w.heap.size (fun k_ => some k_ ≠ (v353 : Value).ownBlock ∧ some k_ ≠ (v12 : Value).ownBlock) (.slice (some ad358) t349.length co12) t349) ∧ Aside0 (Kd.R k31 31 w' w.heap.size (fun k_ => some k_ ≠ ((.slice (some ad358) t349.length co12) : Value).ownBlock ∧ some k_ ≠ (v12 : Value).ownBlock) v353 t352) ∧ Aside0 (Kd.R k31 31 w' w.heap.size (fun k_ => some k_ ≠ ((.slice (some ad358) t349.length co12) : Value).ownBlock ∧ some k_ ≠ (v353 : Value).ownBlock) v12 x12_2) ∧ Aside0 (w'.heap[gb373]? = some (.cells #[.bool t365, .int .i64 t366, .int .i64 t367, .int .i64 t368, .int .i64 t369, .int .i64 t370, .int .i64 t371] 44 (0, 0))) ∧ Aside0 (Below w.heap.size w w'))
      case atStart => exact ⟨(([] : List (S31))), (0), (by first | rfl | (simp; done) | (simp [*]; done)), H', ⟨Nat.le_refl _⟩, ⟨rX (Kd.R_mono HO_5.out (fun _ hk => ⟨hk, (by simp [Value.ownBlock])⟩))⟩, ⟨rX (Kd.R_mono HO_6.out (fun _ hk => ⟨hk, (by simp [Value.ownBlock])⟩))⟩, ⟨by first | exact Kd.R_nil _ _ _ _ _ | exact Kd.N_nil _ _ _ _ _ | exact Kd.V_nil _ _ _ _ _ | exact Kd.Q_nil _ _ _ _ _ | exact Kd.S_nil _ _ _ _ _⟩, ⟨kX BK373.out⟩, ⟨by repeat (first | (with_reducible first | exact HB.out | apply lA | apply lN | apply lD | refine lS ?_ GE373.out) | exact HB.out)⟩⟩
      case round =>
       clear H'
       try clear c1
       try clear c2
       try clear p2
       try clear c3
       try clear p3
       try clear q3
       try clear hx3
       try clear qi3
       try clear c6
       try clear c6b0
       try clear c6b1
       try clear p6
       try clear c7
       try clear c8
       try clear c23
       try clear c23b0
       try clear c24
       try clear c24b0
       try clear hcz22_0
       try clear hcz22_1
       try clear hcz22_2
       try clear hcz22_3
       try clear hcz22_4
       try clear hcz22_5
       try clear hcz22_6
       try clear hfz22_0
       try clear hfz22_1
       try clear hfz22_2
       try clear hfz22_3
       try clear hfz22_4
       try clear hfz22_5
       try clear hfz22_6
       try clear hx358_0
       try clear hx358_1
       try clear hx374_0
       try clear hx374_1
       try clear p2
       try clear p3
       try clear p358
       try clear p374
       try clear q3
       try clear q358
       try clear q374
       obtain ⟨x12_2, x13_2, rfl, HA, HK2, HO_5, HO_6, HO_12, BK373, HB⟩ := hrel
       cases gk with
       | zero => exact absurd HA.out (by simp [silversidelaw01_PlaneMeets.l1])
       | succ k2 =>
        have H := HA.out
        clear HA
        simp only [silversidelaw01_PlaneMeets.l1] at H
        by_cases c26 : x13_2 < (t349.length : Int)
        ·rw [if_pos c26] at H
         have c26b0 : decide (x13_2 < (t349.length : Int)) = true := decide_eq_true c26
         clear c26
         by_cases c27 : 0 ≤ x13_2
         ·rw [if_pos c27] at H
          have c27b0 : decide (0 ≤ x13_2) = true := decide_eq_true c27
          clear c27
          obtain ⟨y377, hy377⟩ : ∃ y_ : List (S31), y_ = (([(⟨wrap64 ((wrap64 ((wrap64 (2 * x10_1)) + 1)) - ((rd_T31 t349 x13_2).f0)), (rd_T31 t349 x13_2).f1⟩ : S31)] : List (S31))) := ⟨_, rfl⟩
          replace H : (if x12_2.length + y377.length < 8796093022208 then (silversidelaw01_PlaneMeets.l1 k2 t349 t352 t372 x10_1 (x12_2 ++ y377) (wrap64 (x13_2 + 1)) t365 t366 t367 t368 t369 t370 t371) else (none)) = some r := by first | (rw [hy377]; with_reducible exact H) | (have H2_ := (Option.bind_some _ _).symm.trans H; rw [hy377]; with_reducible exact H2_) | (have H2_ := (Option.bind_some _ _).symm.trans H; with_reducible exact H2_) | with_reducible exact H | (rw [hy377]; exact H) | exact H
          have Ny377 := Aside0.mk hy377
          clear hy377
          by_cases c28 : x12_2.length + y377.length < 8796093022208
          ·rw [if_pos c28] at H
           have LMc28 := Aside0.mk c28
           clear c28
           obtain ⟨y380, hy380⟩ : ∃ y_ : List (S31), y_ = (x12_2 ++ y377) := ⟨_, rfl⟩
           replace H : (silversidelaw01_PlaneMeets.l1 k2 t349 t352 t372 x10_1 y380 (wrap64 (x13_2 + 1)) t365 t366 t367 t368 t369 t370 t371) = some r := by first | (rw [hy380]; with_reducible exact H) | (have H2_ := (Option.bind_some _ _).symm.trans H; rw [hy380]; with_reducible exact H2_) | (have H2_ := (Option.bind_some _ _).symm.trans H; with_reducible exact H2_) | with_reducible exact H | (rw [hy380]; exact H) | exact H
           have Ny380 := Aside0.mk hy380
           clear hy380
           have H' := Aside0.mk H
           clear H
           try go_wp2
           have n0_ := Aside0.mk (Kd.R_drew HO_5.out)
           have n1_ := Aside0.mk (Kd.R_drew HO_6.out)
           have n2_ := Aside0.mk (Kd.R_drew HO_12.out)
           have n3_ := Aside0.mk (kD BK373.out)
           have n4_ := Aside0.mk (lD HB.out)
           clear HO_5
           clear HO_6
           clear HO_12
           clear BK373
           clear HB
           have HO_5 := n0_
           have HO_6 := n1_
           have HO_12 := n2_
           have BK373 := n3_
           have HB := n4_
           clear n0_ n1_ n2_ n3_ n4_
           have p375 : 0 ≤ (x13_2 : Int) := of_decide_eq_true (by first | (with_reducible assumption) | assumption)
           have q375 : x13_2 < (t349.length : Int) := of_decide_eq_true (by first | (with_reducible assumption) | assumption)
           obtain ⟨ad375, e375, hx375_0, hx375_1⟩ := at_T31 (Kd.R_reads' HO_5.out).2.2 x13_2 p375 q375
           obtain rfl : ad358 = ad375 := (by injection e375)
           replace p375 := eq_true p375
           replace q375 := eq_true q375
           have p376 : 0 ≤ (x13_2 : Int) := of_decide_eq_true (by first | (with_reducible assumption) | assumption)
           have q376 : x13_2 < (t349.length : Int) := of_decide_eq_true (by first | (with_reducible assumption) | assumption)
           obtain ⟨ad376, e376, hx376_0, hx376_1⟩ := at_T31 (Kd.R_reads' HO_5.out).2.2 x13_2 p376 q376
           obtain rfl : ad358 = ad376 := (by injection e376)
           replace p376 := eq_true p376
           replace q376 := eq_true q376
           refine start_ (n := 19) (S := fun w' => w'.cell? (ad358.add ((x13_2).toNat * 2)) = some (.int .i64 ((rd_T31 t349 x13_2).f0)) ∧ w'.cell? ⟨(ad358.add ((x13_2).toNat * 2)).block, (ad358.add ((x13_2).toNat * 2)).off + 1, none⟩ = some (.int .i64 ((rd_T31 t349 x13_2).f1)) ∧ w'.cell? (ad358.add ((x13_2).toNat * 2)) = some (.int .i64 ((rd_T31 t349 x13_2).f0)) ∧ w'.cell? ⟨(ad358.add ((x13_2).toNat * 2)).block, (ad358.add ((x13_2).toNat * 2)).off + 1, none⟩ = some (.int .i64 ((rd_T31 t349 x13_2).f1))) (ds := [17]) (Bs 0 19) (by kernel_rfl) rfl rfl ⟨hx375_0, hx375_1, hx376_0, hx376_1⟩ (fun hHeld => ?_); refine with_tabW silversidelaw01_PlaneMeets.tab13 silversidelaw01_PlaneMeets.bits13 (fun HT_ HW_ => ?_)
           generalize wr.drew = w29 at HO_5 HO_6 HO_12 BK373 HB hx375_0 hx375_1 hx376_0 hx376_1 hHeld ⊢
           refine pure_ (i := 0) (N := some 60) (v := ?_) (a' := ?_) (Bs 1 19) rfl rfl (any_of HT_.out (by kernel_rfl)) (fun _ _ _ h => h) (Or.inl ⟨by rfl, ?_⟩) ?_ ?_; rotate_left
           ·intro w'; go_simp; with_reducible rfl
           rotate_left
           ·simp only [Act.put, sA, sB, sC, i64_w, i32_w]; rfl
           refine pure_ (i := 1) (N := some 61) (v := ?_) (a' := ?_) (Bs 2 19) rfl rfl (any_of HT_.out (by kernel_rfl)) (fun _ _ _ h => h) (Or.inl ⟨by rfl, ?_⟩) ?_ ?_; rotate_left
           ·intro w'; go_simp; with_reducible rfl
           rotate_left
           ·simp only [Act.put, sA, sB, sC, i64_w, i32_w]; rfl
           refine pure_ (i := 2) (N := some 62) (v := ?_) (a' := ?_) (Bs 3 19) rfl rfl (any_of HT_.out (by kernel_rfl)) (fun _ _ _ h => h) (Or.inl ⟨by rfl, ?_⟩) ?_ ?_; rotate_left
           ·intro w'; go_simp; with_reducible rfl
           rotate_left
           ·simp only [Act.put, sA, sB, sC, i64_w, i32_w]; rfl
           refine pure_ (i := 3) (N := some 63) (v := ?_) (a' := ?_) (Bs 4 19) rfl rfl (any_of HT_.out (by kernel_rfl)) (fun _ _ _ h => h) (Or.inl ⟨by rfl, ?_⟩) ?_ ?_; rotate_left
           ·intro w'; go_simp; with_reducible rfl
           rotate_left
           ·simp only [Act.put, sA, sB, sC, i64_w, i32_w]; rfl
           refine pure_ (i := 4) (N := some 64) (v := ?_) (a' := ?_) (Bs 5 19) rfl rfl (any_of HT_.out (by kernel_rfl)) (fun _ _ _ h => h) (Or.inl ⟨by rfl, ?_⟩) ?_ ?_; rotate_left
           ·intro w'; go_simp; with_reducible rfl
           rotate_left
           ·simp only [Act.put, sA, sB, sC, i64_w, i32_w]; rfl
           refine pure_ (i := 5) (N := some 65) (v := ?_) (a' := ?_) (Bs 6 19) rfl rfl (any_of HT_.out (by kernel_rfl)) (fun _ _ _ h => h) (Or.inl ⟨by rfl, ?_⟩) ?_ ?_; rotate_left
           ·intro w'; go_simp; with_reducible rfl
           rotate_left
           ·simp only [Act.put, sA, sB, sC, i64_w, i32_w]; rfl
           refine pure_ (i := 6) (N := some 66) (v := ?_) (a' := ?_) (Bs 7 19) rfl rfl (any_of HT_.out (by kernel_rfl)) (fun _ _ _ h => h) (Or.inl ⟨by rfl, ?_⟩) ?_ ?_; rotate_left
           ·intro w'; go_simp; with_reducible rfl
           rotate_left
           ·simp only [Act.put, sA, sB, sC, i64_w, i32_w]; rfl
           refine pure_ (i := 7) (N := some 67) (v := ?_) (a' := ?_) (Bs 8 19) rfl rfl (any_of HT_.out (by kernel_rfl)) (fun _ _ _ h => h) (Or.inl ⟨by rfl, ?_⟩) ?_ ?_; rotate_left
           ·intro w'; go_simp; with_reducible rfl
           rotate_left
           ·simp only [Act.put, sA, sB, sC, i64_w, i32_w]; rfl
           refine pure_ (i := 10) (N := some 70) (v := ?_) (a' := ?_) (Br [8,2,1,8]) rfl rfl (any_of HT_.out (by kernel_rfl)) (fun _ _ _ h => h) (Or.inl ⟨by rfl, ?_⟩) ?_ ?_; rotate_left
           ·intro w'; go_simp; with_reducible rfl
           rotate_left
           ·simp only [Act.put, sA, sB, sC, i64_w, i32_w]; rfl
           refine pure_ (i := 11) (N := some 71) (v := ?_) (a' := ?_) (Br [8,2,2,7]) rfl rfl (any_of HT_.out (by kernel_rfl)) (fun _ _ _ h => h) (Or.inl ⟨by rfl, ?_⟩) ?_ ?_; rotate_left
           ·intro w'; go_simp; with_reducible rfl
           rotate_left
           ·simp only [Act.put, sA, sB, sC, i64_w, i32_w]; rfl
           refine pure_ (i := 12) (N := some 72) (v := ?_) (a' := ?_) (Br [8,2,3,6]) rfl rfl (any_of HT_.out (by kernel_rfl)) (fun _ _ _ h => h) (Or.inl ⟨by rfl, ?_⟩) ?_ ?_; rotate_left
           ·intro w'; go_simp; with_reducible rfl
           rotate_left
           ·simp only [Act.put, sA, sB, sC, i64_w, i32_w]; rfl
           refine pure_ (i := 13) (N := some 73) (v := ?_) (a' := ?_) (Br [8,2,4,5]) rfl rfl (any_of HT_.out (by kernel_rfl)) (fun _ _ _ h => h) (Or.inl ⟨by rfl, ?_⟩) ?_ ?_; rotate_left
           ·intro w'; go_simp; with_reducible rfl
           rotate_left
           ·simp only [Act.put, sA, sB, sC, i64_w, i32_w]; rfl
           refine take_ (i := 8) (N := some 68) (v := ?_) (a' := ?_) (Br [9,1,4,5]) rfl rfl (take_ofW HT_.out HW_.out (by kernel_rfl)) (fun _ _ _ h => h) (Or.inl ⟨by rfl, ?_⟩) hHeld ?_ ?_; rotate_left
           ·rintro w' ⟨s0, s1, s2, s3⟩; go_simp; with_reducible rfl
           rotate_left
           ·simp only [Act.put, sA, sB, sC, i64_w, i32_w]; rfl
           refine pure_ (i := 9) (N := some 69) (v := ?_) (a' := ?_) (Bs 14 19) rfl rfl (any_of HT_.out (by kernel_rfl)) (fun _ _ _ h => h) (Or.inl ⟨by rfl, ?_⟩) ?_ ?_; rotate_left
           ·intro w'; go_simp; with_reducible rfl
           rotate_left
           ·simp only [Act.put, sA, sB, sC, i64_w, i32_w]; rfl
           refine take_ (i := 14) (N := some 74) (v := ?_) (a' := ?_) (Bs 15 19) rfl rfl (take_ofW HT_.out HW_.out (by kernel_rfl)) (fun _ _ _ h => h) (Or.inl ⟨by rfl, ?_⟩) hHeld ?_ ?_; rotate_left
           ·rintro w' ⟨s0, s1, s2, s3⟩; go_simp; with_reducible rfl
           rotate_left
           ·simp only [Act.put, sA, sB, sC, i64_w, i32_w]; rfl
           refine pure_ (i := 15) (N := some 75) (v := ?_) (a' := ?_) (Bs 16 19) rfl rfl (any_of HT_.out (by kernel_rfl)) (fun _ _ _ h => h) (Or.inl ⟨by rfl, ?_⟩) ?_ ?_; rotate_left
           ·intro w'; go_simp; with_reducible rfl
           rotate_left
           ·simp only [Act.put, sA, sB, sC, i64_w, i32_w]; rfl
           refine one_ (i := 16) (N := some 76) (Bs 17 19) rfl rfl (one_of HT_.out (by kernel_rfl)) (by decide) (fun K hK => ?_)
           refine Kd.R_lit_step k31 _ 31 ?hg (N := 76) ?hd (xs := ([(⟨wrap64 ((wrap64 ((wrap64 (2 * x10_1)) + 1)) - ((rd_T31 t349 x13_2).f0)), (rd_T31 t349 x13_2).f1⟩ : S31)] : List (S31))) (inner := [.int .i64 (wrap64 ((wrap64 ((wrap64 (2 * x10_1)) + 1)) - ((rd_T31 t349 x13_2).f0))), .int .i64 ((rd_T31 t349 x13_2).f1)]) (ok := fun _ => True) (okp := fun _ => True) ?hr ?hp (fun _ hk => hk) trivial (Below.refl _ _) (Nat.le_refl _) (by simp) ?_; (case hd => rfl); (case hg => rfl); (case hr => first | (go_simp; done) | (go_simp; rfl)); (case hp => exact (Reps.c2 (show Kd.M k31 _ _ _ (⟨wrap64 ((wrap64 ((wrap64 (2 * x10_1)) + 1)) - ((rd_T31 t349 x13_2).f0)), (rd_T31 t349 x13_2).f1⟩ : S31) [.int .i64 (wrap64 ((wrap64 ((wrap64 (2 * x10_1)) + 1)) - ((rd_T31 t349 x13_2).f0))), .int .i64 ((rd_T31 t349 x13_2).f1)] from (k31_mkM _ _ _ (⟨wrap64 ((wrap64 ((wrap64 (2 * x10_1)) + 1)) - ((rd_T31 t349 x13_2).f0)), (rd_T31 t349 x13_2).f1⟩ : S31) )) (Reps.none _ _)))
           intro v378 w30 ho31 hb hg_ hnew_
           have HS0_ := (hb.cell (World.block_lt_of_cell? _ _ (hHeld.1))).trans (hHeld.1)
           have HS1_ := (hb.cell (World.block_lt_of_cell? _ _ (hHeld.2.1))).trans (hHeld.2.1)
           have HS2_ := (hb.cell (World.block_lt_of_cell? _ _ (hHeld.2.2.1))).trans (hHeld.2.2.1)
           have HS3_ := (hb.cell (World.block_lt_of_cell? _ _ (hHeld.2.2.2))).trans (hHeld.2.2.2)
           clear hg_ hnew_
           (first | rw [← Ny377.out] at ho31 | (simp only [Int.reduceToNat] at ho31; rw [← Ny377.out] at ho31))
           have n0_ := Aside0.mk (Kd.R_elder' (rX HO_5.out) (Kd.R_base ho31) hb)
           have n1_ := Aside0.mk (Kd.R_elder' (rX HO_6.out) (Kd.R_base ho31) hb)
           have n2_ := Aside0.mk (Kd.R_elder' (rX HO_12.out) (Kd.R_base ho31) hb)
           have n3_ := Aside0.mk (Kd.R_lower (Kd.R_new' (Kd.R_new' (Kd.R_new' ho31 (Kd.R_lt (rX HO_5.out))) (Kd.R_lt (rX HO_6.out))) (Kd.R_lt (rX HO_12.out))) (below_size (by repeat (first | (with_reducible first | exact HB.out | apply lA | apply lN | apply lD | refine lS ?_ GE373.out) | exact HB.out))))
           have n4_ := Aside0.mk (blk_below (g := gb373) (o := .cells #[.bool t365, .int .i64 t366, .int .i64 t367, .int .i64 t368, .int .i64 t369, .int .i64 t370, .int .i64 t371] 44 (0, 0)) (kX BK373.out) hb)
           have n5_ := Aside0.mk (below_step (by repeat (first | (with_reducible first | exact HB.out | apply lA | apply lN | apply lD | refine lS ?_ GE373.out) | exact HB.out)) hb)
           clear HO_5
           clear HO_6
           clear HO_12
           clear BK373
           clear HB
           have HO_5 := n0_
           have HO_6 := n1_
           have HO_12 := n2_
           have HO379 := n3_
           have BK373 := n4_
           have HB := n5_
           clear n0_ n1_ n2_ n3_ n4_ n5_
           clear hb ho31
           obtain ⟨Ao33, co33, eo33⟩ := Kd.R_slice HO379.out
           (first | subst eo33 | (injection eo33 with f1_ f2_ f3_; have f4_ := f1_.symm; have f5_ := f3_.symm; clear f1_ f2_ f3_; subst f4_; subst f5_))
           refine hK.out _ _ ⟨HS0_, HS1_, HS2_, HS3_⟩ (fun hHeld => ?_)
           clear hK K
           refine norm_ (a' := ?_) ?_ ?_
           rotate_left
           ·show Act.put _ (some 76) _ = _
            simp only [Act.put, sA, sB, sC, i64_w, i32_w]
            rfl
           refine last_ (i := 17) (N := some 77) (Bs 18 19) rfl rfl (one_of HT_.out (by kernel_rfl)) (by decide) (fun K hK => ?_)
           refine Kd.R_append_rows_step k31 (w0 := w) w.heap.size (by rfl) (.tmp 60) (.tmp 76) 22 31 (.agg #[(.int .i64 0), (.int .i64 0)]) 16 rfl Try.underlying22 info31 rfl (by decide) (by omega) u12 x12_2 y377 _ _ _ (fun k_ => some k_ ≠ (.slice (some ad358) t349.length co12 : Value).ownBlock ∧ some k_ ≠ (v353 : Value).ownBlock ∧ some k_ ≠ (.slice Ao33 y377.length co33 : Value).ownBlock) (fun _ => False) rfl rfl ?aO ?aR (fun _ _ h => h) (fun _ h => h.elim) ?aF ?aB ?aS ?aL ?_
           (case aR => repeat (first | exact (Kd.R_reads' HO379.out).2.2 | (with_reducible refine Kd.C_alloc ?_ _) | (with_reducible refine Kd.C_drewN ?_ _) | (with_reducible refine Kd.C_drew ?_)))
           (case aB => exact (by repeat (first | (with_reducible first | exact HB.out | apply lA | apply lN | apply lD | refine lS ?_ GE373.out) | exact HB.out)))
           (case aF => exact (fun k_ hk => ⟨Kd.fresh' (Kd.R_lt (rX HO_5.out)) k_ hk, Kd.fresh' (Kd.R_lt (rX HO_6.out)) k_ hk, Kd.fresh' (Kd.R_lt (rX HO379.out)) k_ hk⟩))
           (case aO => exact (rX (Kd.R_mono HO_12.out (fun _ hk => ⟨hk.1.1, ⟨hk.1.2, hk.2⟩⟩))))
           (case aS => exact (below_size (by repeat (first | (with_reducible first | exact HB.out | apply lA | apply lN | apply lD | refine lS ?_ GE373.out) | exact HB.out))))
           (case aL => have := LMc28.out; omega)
           intro v381 w32 ho hb hg hat
           rw [← Ny380.out] at ho
           have n0_ := Aside0.mk (Kd.R_after (ok := (fun k_ => some k_ ≠ (v353 : Value).ownBlock ∧ some k_ ≠ (.slice Ao33 y377.length co33 : Value).ownBlock)) (rX (Kd.R_mono HO_5.out (fun _ hk => ⟨⟨hk.1.1, hk.2⟩, hk.1.2⟩))) hg hat)
           have n1_ := Aside0.mk (Kd.R_after (ok := (fun k_ => some k_ ≠ (.slice (some ad358) t349.length co12 : Value).ownBlock ∧ some k_ ≠ (.slice Ao33 y377.length co33 : Value).ownBlock)) (rX (Kd.R_mono HO_6.out (fun _ hk => ⟨⟨hk.1.1, hk.2⟩, hk.1.2⟩))) hg hat)
           have n2_ := Aside0.mk (blk_grown (g := gb373) (o := .cells #[.bool t365, .int .i64 t366, .int .i64 t367, .int .i64 t368, .int .i64 t369, .int .i64 t370, .int .i64 t371] 44 (0, 0)) (kX BK373.out) hg (Kd.R_ne HO_12.out BK373.out (by decide)))
           have n3_ := Aside0.mk (Kd.R_after (ok := (fun k_ => some k_ ≠ (.slice (some ad358) t349.length co12 : Value).ownBlock ∧ some k_ ≠ (v353 : Value).ownBlock)) (rX (Kd.R_mono HO379.out (fun _ hk => ⟨⟨hk.1.1.2, hk.1.2⟩, hk.2⟩))) hg hat)
           have n4_ := Aside0.mk (hb)
           have n5_ := Aside0.mk (ho)
           clear HO_5
           clear HO_6
           clear BK373
           clear HO379
           clear HB
           clear HO_12
           have HO_5 := n0_
           have HO_6 := n1_
           have BK373 := n2_
           have HO379 := n3_
           have HB := n4_
           have HO382 := n5_
           clear n0_ n1_ n2_ n3_ n4_ n5_
           clear ho hb hg hat
           refine hK.out _ _ ?_
           clear hK K
           refine norm_ (a' := ?_) ?_ ?_
           rotate_left
           ·show Act.put _ (some 77) _ = _
            simp only [Act.put, sA, sB, sC, i64_w, i32_w]
            rfl
           refine pure_ (i := 18) (N := some 12) (v := ?_) (a' := ?_) (Bs 19 19) rfl rfl (any_of HT_.out (by kernel_rfl)) (fun _ _ _ h => h) (Or.inl ⟨by rfl, ?_⟩) ?_ ?_; rotate_left
           ·intro w'; go_simp; with_reducible rfl
           rotate_left
           ·simp only [Act.put, sA, sB, sC, i64_w, i32_w]; rfl
           refine done_ (done_of HT_.out (by kernel_rfl)) ?_
           try go_wp2
           go_roundg k2
           case measure => have := HK1.out; have := HK2.out; omega
           case rel => exact ⟨(y380), (wrap64 (x13_2 + 1)), (by first | rfl | (simp; done) | (simp [*]; done)), H', ⟨by have := HK1.out; have := HK2.out; omega⟩, ⟨rX (Kd.R_mono HO_5.out (fun _ hk => ⟨hk.1.1, hk.2⟩))⟩, ⟨rX (Kd.R_mono HO_6.out (fun _ hk => ⟨hk.1.1, hk.2⟩))⟩, ⟨rX (Kd.R_mono HO382.out (fun _ hk => ⟨hk.1, hk.2.1⟩))⟩, ⟨kX BK373.out⟩, ⟨by repeat (first | (with_reducible first | exact HB.out | apply lA | apply lN | apply lD | refine lS ?_ GE373.out) | exact HB.out)⟩⟩
          ·rw [if_neg c28] at H
           exact absurd H (by simp)
         ·rw [if_neg c27] at H
          exact absurd H (by simp)
        ·rw [if_neg c26] at H
         have c26b0 : decide (x13_2 < (t349.length : Int)) = false := decide_eq_false c26
         clear c26
         have HC34 := Aside0.mk H
         clear H
         go_upto_region 14 with (fail)
         go_cut [84] (fun v84 wc => ∃ (kq : Nat) (x84_33 : Bool), v84 = .bool x84_33 ∧ Aside0 (silversidelaw01_PlaneMeets.j2 kq t349 t352 x12_2 x84_33 = some r) ∧ Aside0 (kq ≤ k2) ∧ Aside0 (Kd.R k31 31 wc w.heap.size (fun k_ => some k_ ≠ (v353 : Value).ownBlock ∧ some k_ ≠ (u12 : Value).ownBlock) (.slice (some ad358) t349.length co12) t349) ∧ Aside0 (Kd.R k31 31 wc w.heap.size (fun k_ => some k_ ≠ ((.slice (some ad358) t349.length co12) : Value).ownBlock ∧ some k_ ≠ (u12 : Value).ownBlock) v353 t352) ∧ Aside0 (Kd.R k31 31 wc w.heap.size (fun k_ => some k_ ≠ ((.slice (some ad358) t349.length co12) : Value).ownBlock ∧ some k_ ≠ (v353 : Value).ownBlock) u12 x12_2) ∧ Aside0 (wc.heap[gb373]? = some (.cells #[.bool t365, .int .i64 t366, .int .i64 t367, .int .i64 t368, .int .i64 t369, .int .i64 t370, .int .i64 t371] 44 (0, 0))) ∧ Aside0 (Below w.heap.size w wc))
         case first =>
          have H := HC34.out
          clear HC34
          by_cases c35 : t372 = 0
          ·rw [if_pos c35] at H
           have c35b0 : (t372 == 0) = true := beq_iff_eq.mpr c35
           have c35b1 : (t372 != 0) = false := bne_eq_false_iff_eq.mpr c35
           clear c35
           (first | rw [c35b0] | (simp only [i64_w, i32_w]; rw [c35b0]) | skip)
           have H' := Aside0.mk H
           clear H
           have hcz36_0 : wr.cell? ⟨gb373, 0, none⟩ = some (.bool t365) := (blk_cell BK373.out 0).trans rfl
           have hcz36_1 : wr.cell? ⟨gb373, 1, none⟩ = some (.int .i64 t366) := (blk_cell BK373.out 1).trans rfl
           have hcz36_2 : wr.cell? ⟨gb373, 2, none⟩ = some (.int .i64 t367) := (blk_cell BK373.out 2).trans rfl
           have hcz36_3 : wr.cell? ⟨gb373, 3, none⟩ = some (.int .i64 t368) := (blk_cell BK373.out 3).trans rfl
           have hcz36_4 : wr.cell? ⟨gb373, 4, none⟩ = some (.int .i64 t369) := (blk_cell BK373.out 4).trans rfl
           have hcz36_5 : wr.cell? ⟨gb373, 5, none⟩ = some (.int .i64 t370) := (blk_cell BK373.out 5).trans rfl
           have hcz36_6 : wr.cell? ⟨gb373, 6, none⟩ = some (.int .i64 t371) := (blk_cell BK373.out 6).trans rfl
           have hfz36_0 := blk_frozen BK373.out 0
           have hfz36_1 := blk_frozen BK373.out 1
           have hfz36_2 := blk_frozen BK373.out 2
           have hfz36_3 := blk_frozen BK373.out 3
           have hfz36_4 := blk_frozen BK373.out 4
           have hfz36_5 := blk_frozen BK373.out 5
           have hfz36_6 := blk_frozen BK373.out 6
           go_wp2
           go_meet
           case rel => exact ⟨_, (!t365), (by first | rfl | (simp; done) | (simp [*]; done)), H', ⟨by have := HK1.out; have := HK2.out; first | omega | exact Nat.le_refl _⟩, ⟨rX HO_5.out⟩, ⟨rX HO_6.out⟩, ⟨rX HO_12.out⟩, ⟨kX BK373.out⟩, ⟨by repeat (first | (with_reducible first | exact HB.out | apply lA | apply lN | apply lD | refine lS ?_ GE373.out) | exact HB.out)⟩⟩
          ·rw [if_neg c35] at H
           have c35b0 : (t372 == 0) = false := beq_eq_false_iff_ne.mpr c35
           have c35b1 : (t372 != 0) = true := bne_iff_ne.mpr c35
           (first | rw [c35b0] | (simp only [i64_w, i32_w]; rw [c35b0]) | skip)
           have H' := Aside0.mk H
           clear H
           go_wp2
           go_meet
           case rel => exact ⟨_, (true), (by first | rfl | (simp; done) | (simp [*]; done)), H', ⟨by have := HK1.out; have := HK2.out; first | omega | exact Nat.le_refl _⟩, ⟨rX HO_5.out⟩, ⟨rX HO_6.out⟩, ⟨rX HO_12.out⟩, ⟨kX BK373.out⟩, ⟨by repeat (first | (with_reducible first | exact HB.out | apply lA | apply lN | apply lD | refine lS ?_ GE373.out) | exact HB.out)⟩⟩
         case rest =>
          clear HC34
          try clear c1
          try clear c2
          try clear p2
          try clear c3
          try clear p3
          try clear q3
          try clear hx3
          try clear qi3
          try clear c6
          try clear c6b0
          try clear c6b1
          try clear p6
          try clear c7
          try clear c8
          try clear c23
          try clear c23b0
          try clear c24
          try clear c24b0
          try clear c26
          try clear c26b0
          try clear c27
          try clear c27b0
          try clear c28
          try clear c35
          try clear c35b0
          try clear c35b1
          try clear p35
          try clear q35
          try clear hx35
          try clear c36
          try clear hcz22_0
          try clear hcz22_1
          try clear hcz22_2
          try clear hcz22_3
          try clear hcz22_4
          try clear hcz22_5
          try clear hcz22_6
          try clear hcz36_0
          try clear hcz36_1
          try clear hcz36_2
          try clear hcz36_3
          try clear hcz36_4
          try clear hcz36_5
          try clear hcz36_6
          try clear hfz22_0
          try clear hfz22_1
          try clear hfz22_2
          try clear hfz22_3
          try clear hfz22_4
          try clear hfz22_5
          try clear hfz22_6
          try clear hfz36_0
          try clear hfz36_1
          try clear hfz36_2
          try clear hfz36_3
          try clear hfz36_4
          try clear hfz36_5
          try clear hfz36_6
          try clear hx358_0
          try clear hx358_1
          try clear hx374_0
          try clear hx374_1
          try clear hx375_0
          try clear hx375_1
          try clear hx376_0
          try clear hx376_1
          try clear p2
          try clear p3
          try clear p358
          try clear p374
          try clear p375
          try clear p376
          try clear p6
          try clear q3
          try clear q358
          try clear q374
          try clear q375
          try clear q376
          obtain ⟨kq, x84_33, rfl, HA, HJ33, HO_5, HO_6, HO_12, BK373, HB⟩ := hcut
          cases kq with
          | zero => exact absurd HA.out (by simp [silversidelaw01_PlaneMeets.j2])
          | succ kj33 =>
           have H := HA.out
           clear HA
           simp only [silversidelaw01_PlaneMeets.j2] at H
           by_cases c37 : x84_33 = true
           ·subst c37
            have H1 : (some false) = some r := by rw [if_pos rfl] at H; exact H
            clear H
            have H := H1
            clear H1
            obtain rfl := Option.some.inj H
            go_wp2
            go_ret
            exact ⟨by first | rfl | (simp [errW_none, errW_some] <;> rfl) | (simp [*, errW_none, errW_some] <;> rfl), by repeat (first | (with_reducible first | exact HB.out | apply lA | apply lN | apply lD | refine lS ?_ GE373.out) | exact HB.out)⟩
           ·replace c37 := Bool.eq_false_iff.mpr c37
            subst c37
            have H1 : ((silversideref01_Valids.f kj33 x12_2).bind fun t383 => (if t383 = true then ((plane_Separate.f kj33 t349 x12_2).bind fun bt384 => (if bt384.2.2.2.2.2.2.2 = 0 then (if bt384.1 = true then (some false) else (silversidelaw01_PlaneMeets.j3 kj33 t349 t352)) else (some false))) else (silversidelaw01_PlaneMeets.j3 kj33 t349 t352))) = some r := by rw [if_neg (show ¬ (false = true) by decide)] at H; exact H
            clear H
            have H := H1
            clear H1
            replace H := Option.bind_eq_some_iff.mp H
            obtain ⟨t383, A380, H⟩ := H
            replace H : (if t383 = true then ((plane_Separate.f kj33 t349 x12_2).bind fun bt384 => (if bt384.2.2.2.2.2.2.2 = 0 then (if bt384.1 = true then (some false) else (silversidelaw01_PlaneMeets.j3 kj33 t349 t352)) else (some false))) else (silversidelaw01_PlaneMeets.j3 kj33 t349 t352)) = some r := H
            have A38 := Aside0.mk A380
            clear A380
            have HC39 := Aside0.mk H
            clear H
            obtain ⟨Ao40, co40, eo40⟩ := Kd.R_slice HO_12.out
            subst eo40
            go_upto_if 86 with (first | ((with_reducible refine gate_callee (f := 22) rfl ?_); refine goesL_ (some 86) rfl rfl Try.func22 (by kernel_rfl) rfl #[.slice Ao40 x12_2.length co40] rfl (by (try simp only [List.map_toArray, List.map_cons, List.map_nil]); first | done | rfl | (simp only [List.length_drop, List.length_take]; rfl)) ?_; (with_reducible refine (silversideref01_Valids.calls kj33 _ _ x12_2 t383 _ ?side1 ?side2 A38.out).mono ?_); (case side1 => repeat (first | exact (Kd.R_reads' HO_12.out).2.2 | (with_reducible refine Kd.C_alloc ?_ _) | (with_reducible refine Kd.C_drewN ?_ _) | (with_reducible refine Kd.C_drew ?_))); (case side2 => exact (Kd.R_reads' HO_12.out).2.1); rintro e w41 ⟨rfl, hb⟩; refine ⟨_, rfl, ?_⟩; have n0_ := Aside0.mk (Kd.R_below (rX HO_5.out) hb); have n1_ := Aside0.mk (Kd.R_below (rX HO_6.out) hb); have n2_ := Aside0.mk (Kd.R_below (rX HO_12.out) hb); have n3_ := Aside0.mk (blk_below (g := gb373) (o := .cells #[.bool t365, .int .i64 t366, .int .i64 t367, .int .i64 t368, .int .i64 t369, .int .i64 t370, .int .i64 t371] 44 (0, 0)) (kX BK373.out) hb); have n4_ := Aside0.mk (below_step (by repeat (first | (with_reducible first | exact HB.out | apply lA | apply lN | apply lD | refine lS ?_ GE373.out) | exact HB.out)) hb); clear HO_5; clear HO_6; clear HO_12; clear BK373; clear HB; have HO_5 := n0_; have HO_6 := n1_; have HO_12 := n2_; have BK373 := n3_; have HB := n4_; clear n0_ n1_ n2_ n3_ n4_; (try clear hb); (try clear hb2); (try clear hk); (try clear hi)))
            (try simp only [Act.put, sA, sB, sC])
            go_cut [] (fun wc => ∃ (kq : Nat), Aside0 (silversidelaw01_PlaneMeets.j3 kq t349 t352 = some r) ∧ Aside0 (kq ≤ kj33) ∧ Aside0 (Kd.R k31 31 wc w.heap.size (fun k_ => some k_ ≠ (v353 : Value).ownBlock) (.slice (some ad358) t349.length co12) t349) ∧ Aside0 (Kd.R k31 31 wc w.heap.size (fun k_ => some k_ ≠ ((.slice (some ad358) t349.length co12) : Value).ownBlock) v353 t352) ∧ Aside0 (wc.heap[gb373]? = some (.cells #[.bool t365, .int .i64 t366, .int .i64 t367, .int .i64 t368, .int .i64 t369, .int .i64 t370, .int .i64 t371] 44 (0, 0))) ∧ Aside0 (Below w.heap.size w wc))
            case first =>
             have H := HC39.out
             clear HC39
             by_cases c42 : t383 = true
             subst c42
             have H1 : ((plane_Separate.f kj33 t349 x12_2).bind fun bt384 => (if bt384.2.2.2.2.2.2.2 = 0 then (if bt384.1 = true then (some false) else (silversidelaw01_PlaneMeets.j3 kj33 t349 t352)) else (some false))) = some r := by rw [if_pos rfl] at H; exact H
             clear H
             have H := H1
             clear H1
             replace H := Option.bind_eq_some_iff.mp H
             obtain ⟨⟨t384, t385, t386, t387, t388, t389, t390, t391⟩, A430, H⟩ := H
             replace H : (if t391 = 0 then (if t384 = true then (some false) else (silversidelaw01_PlaneMeets.j3 kj33 t349 t352)) else (some false)) = some r := H
             have A43 := Aside0.mk A430
             clear A430
             by_cases c44 : t391 = 0
             rw [if_pos c44] at H
             have c44b0 : (t391 == 0) = true := beq_iff_eq.mpr c44
             have c44b1 : (t391 != 0) = false := bne_eq_false_iff_eq.mpr c44
             clear c44
             (first | rw [c44b0] | (simp only [i64_w, i32_w]; rw [c44b0]) | skip)
             by_cases c45 : t384 = true
             subst c45
             have H1 : (some false) = some r := by rw [if_pos rfl] at H; exact H
             clear H
             have H := H1
             clear H1
             obtain rfl := Option.some.inj H
             rotate_left 1
             replace c45 := Bool.eq_false_iff.mpr c45
             subst c45
             have H1 : (silversidelaw01_PlaneMeets.j3 kj33 t349 t352) = some r := by rw [if_neg (show ¬ (false = true) by decide)] at H; exact H
             clear H
             have H := H1
             clear H1
             have H' := Aside0.mk H
             clear H
             rotate_left 1
             rw [if_neg c44] at H
             have c44b0 : (t391 == 0) = false := beq_eq_false_iff_ne.mpr c44
             have c44b1 : (t391 != 0) = true := bne_iff_ne.mpr c44
             (first | rw [c44b0] | (simp only [i64_w, i32_w]; rw [c44b0]) | skip)
             obtain rfl := Option.some.inj H
             rotate_left 1
             replace c42 := Bool.eq_false_iff.mpr c42
             subst c42
             have H1 : (silversidelaw01_PlaneMeets.j3 kj33 t349 t352) = some r := by rw [if_neg (show ¬ (false = true) by decide)] at H; exact H
             clear H
             have H := H1
             clear H1
             have H' := Aside0.mk H
             clear H
             all_goals go_wp2_with (first | ((with_reducible refine gate_callee (f := 37) rfl ?_); refine goesL_ (some 90) rfl rfl Try.func37 (by kernel_rfl) rfl #[.slice (some ad358) t349.length co12, .slice Ao40 x12_2.length co40] rfl (by (try simp only [List.map_toArray, List.map_cons, List.map_nil]); first | done | rfl | (simp only [List.length_drop, List.length_take]; rfl)) ?_; (with_reducible refine (plane_Separate.calls kj33 _ _ t349 _ _ x12_2 t384 t385 t386 t387 t388 t389 t390 t391 _ ?side1 ?side2 ?side3 ?side4 A43.out).mono ?_); (case side1 => repeat (first | exact (Kd.R_reads' HO_5.out).2.2 | (with_reducible refine Kd.C_alloc ?_ _) | (with_reducible refine Kd.C_drewN ?_ _) | (with_reducible refine Kd.C_drew ?_))); (case side2 => exact (Kd.R_reads' HO_5.out).2.1); (case side3 => repeat (first | exact (Kd.R_reads' HO_12.out).2.2 | (with_reducible refine Kd.C_alloc ?_ _) | (with_reducible refine Kd.C_drewN ?_ _) | (with_reducible refine Kd.C_drew ?_))); (case side4 => exact (Kd.R_reads' HO_12.out).2.1); rintro e wz0 ⟨rfl, hb⟩; refine ⟨_, rfl, ?_⟩; have n0_ := Aside0.mk (Kd.R_below (rX HO_5.out) hb); have n1_ := Aside0.mk (Kd.R_below (rX HO_6.out) hb); have n2_ := Aside0.mk (Kd.R_below (rX HO_12.out) hb); have n3_ := Aside0.mk (blk_below (g := gb373) (o := .cells #[.bool t365, .int .i64 t366, .int .i64 t367, .int .i64 t368, .int .i64 t369, .int .i64 t370, .int .i64 t371] 44 (0, 0)) (kX BK373.out) hb); have n4_ := Aside0.mk (below_step (by repeat (first | (with_reducible first | exact HB.out | apply lA | apply lN | apply lD | refine lS ?_ GE373.out) | exact HB.out)) hb); clear HO_5; clear HO_6; clear HO_12; clear BK373; clear HB; have HO_5 := n0_; have HO_6 := n1_; have HO_12 := n2_; have BK373 := n3_; have HB := n4_; clear n0_ n1_ n2_ n3_ n4_; (try clear hb); (try clear hb2); (try clear hk); (try clear hi)) | ((with_reducible refine gate_callee (f := 37) rfl ?_); refine goesL_ (some 90) rfl rfl Try.func37 (by kernel_rfl) rfl #[.slice (some ad358) t349.length co12, .slice Ao40 x12_2.length co40] rfl (by (try simp only [List.map_toArray, List.map_cons, List.map_nil]); first | done | rfl | (simp only [List.length_drop, List.length_take]; rfl)) ?_; (with_reducible refine (plane_Separate.calls kj33 _ _ t349 _ _ x12_2 false t385 t386 t387 t388 t389 t390 t391 _ ?side1 ?side2 ?side3 ?side4 A43.out).mono ?_); (case side1 => repeat (first | exact (Kd.R_reads' HO_5.out).2.2 | (with_reducible refine Kd.C_alloc ?_ _) | (with_reducible refine Kd.C_drewN ?_ _) | (with_reducible refine Kd.C_drew ?_))); (case side2 => exact (Kd.R_reads' HO_5.out).2.1); (case side3 => repeat (first | exact (Kd.R_reads' HO_12.out).2.2 | (with_reducible refine Kd.C_alloc ?_ _) | (with_reducible refine Kd.C_drewN ?_ _) | (with_reducible refine Kd.C_drew ?_))); (case side4 => exact (Kd.R_reads' HO_12.out).2.1); rintro e wz0 ⟨rfl, hb⟩; refine ⟨_, rfl, ?_⟩; have n0_ := Aside0.mk (Kd.R_below (rX HO_5.out) hb); have n1_ := Aside0.mk (Kd.R_below (rX HO_6.out) hb); have n2_ := Aside0.mk (Kd.R_below (rX HO_12.out) hb); have n3_ := Aside0.mk (blk_below (g := gb373) (o := .cells #[.bool t365, .int .i64 t366, .int .i64 t367, .int .i64 t368, .int .i64 t369, .int .i64 t370, .int .i64 t371] 44 (0, 0)) (kX BK373.out) hb); have n4_ := Aside0.mk (below_step (by repeat (first | (with_reducible first | exact HB.out | apply lA | apply lN | apply lD | refine lS ?_ GE373.out) | exact HB.out)) hb); clear HO_5; clear HO_6; clear HO_12; clear BK373; clear HB; have HO_5 := n0_; have HO_6 := n1_; have HO_12 := n2_; have BK373 := n3_; have HB := n4_; clear n0_ n1_ n2_ n3_ n4_; (try clear hb); (try clear hb2); (try clear hk); (try clear hi)) | ((with_reducible refine gate_callee (f := 37) rfl ?_); refine goesL_ (some 90) rfl rfl Try.func37 (by kernel_rfl) rfl #[.slice (some ad358) t349.length co12, .slice Ao40 x12_2.length co40] rfl (by (try simp only [List.map_toArray, List.map_cons, List.map_nil]); first | done | rfl | (simp only [List.length_drop, List.length_take]; rfl)) ?_; (with_reducible refine (plane_Separate.calls kj33 _ _ t349 _ _ x12_2 true t385 t386 t387 t388 t389 t390 t391 _ ?side1 ?side2 ?side3 ?side4 A43.out).mono ?_); (case side1 => repeat (first | exact (Kd.R_reads' HO_5.out).2.2 | (with_reducible refine Kd.C_alloc ?_ _) | (with_reducible refine Kd.C_drewN ?_ _) | (with_reducible refine Kd.C_drew ?_))); (case side2 => exact (Kd.R_reads' HO_5.out).2.1); (case side3 => repeat (first | exact (Kd.R_reads' HO_12.out).2.2 | (with_reducible refine Kd.C_alloc ?_ _) | (with_reducible refine Kd.C_drewN ?_ _) | (with_reducible refine Kd.C_drew ?_))); (case side4 => exact (Kd.R_reads' HO_12.out).2.1); rintro e wz0 ⟨rfl, hb⟩; refine ⟨_, rfl, ?_⟩; have n0_ := Aside0.mk (Kd.R_below (rX HO_5.out) hb); have n1_ := Aside0.mk (Kd.R_below (rX HO_6.out) hb); have n2_ := Aside0.mk (Kd.R_below (rX HO_12.out) hb); have n3_ := Aside0.mk (blk_below (g := gb373) (o := .cells #[.bool t365, .int .i64 t366, .int .i64 t367, .int .i64 t368, .int .i64 t369, .int .i64 t370, .int .i64 t371] 44 (0, 0)) (kX BK373.out) hb); have n4_ := Aside0.mk (below_step (by repeat (first | (with_reducible first | exact HB.out | apply lA | apply lN | apply lD | refine lS ?_ GE373.out) | exact HB.out)) hb); clear HO_5; clear HO_6; clear HO_12; clear BK373; clear HB; have HO_5 := n0_; have HO_6 := n1_; have HO_12 := n2_; have BK373 := n3_; have HB := n4_; clear n0_ n1_ n2_ n3_ n4_; (try clear hb); (try clear hb2); (try clear hk); (try clear hi)) | ((with_reducible refine gate_dst (N := 14) rfl ?_); refine box_event ?hg (N := 14) ?hd (cs := #[.bool false, .int .i64 0, .int .i64 0, .int .i64 0, .int .i64 0, .int .i64 0, .int .i64 0]) (t := 44) ?hr ?_; (case hd => rfl); (case hg => rfl); (case hr => first | (go_simp; done) | (go_simp; rfl)); intro gb392 hg wz1 hbox hb; have n0_ := Aside0.mk (Kd.R_below (rX HO_5.out) hb); have n1_ := Aside0.mk (Kd.R_below (rX HO_6.out) hb); have n2_ := Aside0.mk (Kd.R_below (rX HO_12.out) hb); have n3_ := Aside0.mk (blk_below (g := gb373) (o := .cells #[.bool t365, .int .i64 t366, .int .i64 t367, .int .i64 t368, .int .i64 t369, .int .i64 t370, .int .i64 t371] 44 (0, 0)) (kX BK373.out) hb); have n4_ := Aside0.mk (below_step (by repeat (first | (with_reducible first | exact HB.out | apply lA | apply lN | apply lD | refine lS ?_ GE373.out) | exact HB.out)) hb); have n5_ := Aside0.mk (hbox); have n6_ := Aside0.mk ((by rw [hg]; exact (below_size (by repeat (first | (with_reducible first | exact HB.out | apply lA | apply lN | apply lD | refine lS ?_ GE373.out) | exact HB.out))) : w.heap.size ≤ gb392)); have n7_ := Aside0.mk ((by rw [hg]; exact (below_size (by repeat (first | (with_reducible first | exact HB.out | apply lA | apply lN | apply lD | refine lS ?_ GE373.out) | exact HB.out))) : w.heap.size ≤ gb392)); have n8_ := Aside0.mk ((by rw [hg]; exact Nat.ne_of_lt (blk_lt (g := gb373) (o := .cells #[.bool t365, .int .i64 t366, .int .i64 t367, .int .i64 t368, .int .i64 t369, .int .i64 t370, .int .i64 t371] 44 (0, 0)) (kX BK373.out)) : gb373 ≠ gb392)); have n9_ := Aside0.mk ((by rw [hg]; exact Nat.ne_of_gt (blk_lt (g := gb373) (o := .cells #[.bool t365, .int .i64 t366, .int .i64 t367, .int .i64 t368, .int .i64 t369, .int .i64 t370, .int .i64 t371] 44 (0, 0)) (kX BK373.out)) : gb392 ≠ gb373)); clear HO_5; clear HO_6; clear HO_12; clear BK373; clear HB; have HO_5 := n0_; have HO_6 := n1_; have HO_12 := n2_; have BK373 := n3_; have HB := n4_; have BK392 := n5_; have GW392 := n6_; have GE392 := n7_; have NB373_392 := n8_; have NB392_373 := n9_; clear n0_ n1_ n2_ n3_ n4_ n5_ n6_ n7_ n8_ n9_; clear hb hbox hg; have hnb48 := NB392_373.out; have hnc48 := NB373_392.out; have hcz49_0 : wz1.cell? ⟨gb392, 0, none⟩ = some (.bool false) := (blk_cell BK392.out 0).trans rfl; have hcz49_1 : wz1.cell? ⟨gb392, 1, none⟩ = some (.int .i64 0) := (blk_cell BK392.out 1).trans rfl; have hcz49_2 : wz1.cell? ⟨gb392, 2, none⟩ = some (.int .i64 0) := (blk_cell BK392.out 2).trans rfl; have hcz49_3 : wz1.cell? ⟨gb392, 3, none⟩ = some (.int .i64 0) := (blk_cell BK392.out 3).trans rfl; have hcz49_4 : wz1.cell? ⟨gb392, 4, none⟩ = some (.int .i64 0) := (blk_cell BK392.out 4).trans rfl; have hcz49_5 : wz1.cell? ⟨gb392, 5, none⟩ = some (.int .i64 0) := (blk_cell BK392.out 5).trans rfl; have hcz49_6 : wz1.cell? ⟨gb392, 6, none⟩ = some (.int .i64 0) := (blk_cell BK392.out 6).trans rfl; have hfz49_0 := blk_frozen BK392.out 0; have hfz49_1 := blk_frozen BK392.out 1; have hfz49_2 := blk_frozen BK392.out 2; have hfz49_3 := blk_frozen BK392.out 3; have hfz49_4 := blk_frozen BK392.out 4; have hfz49_5 := blk_frozen BK392.out 5; have hfz49_6 := blk_frozen BK392.out 6))
             all_goals first
               | (go_ret
                  exact ⟨by first | rfl | (simp [errW_none, errW_some] <;> rfl) | (simp [*, errW_none, errW_some] <;> rfl), by repeat (first | (with_reducible first | exact HB.out | apply lA | apply lN | apply lD | refine lS ?_ GE373.out | refine lS ?_ GE392.out) | exact HB.out)⟩)
               | (go_meet
                  case rel => exact ⟨_, H', ⟨by have := HK1.out; have := HK2.out; have := HJ33.out; first | omega | exact Nat.le_refl _⟩, ⟨rX (Kd.R_mono (Kd.R_far (p := ⟨gb392, 6, none⟩) (Kd.R_far (p := ⟨gb392, 5, none⟩) (Kd.R_far (p := ⟨gb392, 4, none⟩) (Kd.R_far (p := ⟨gb392, 3, none⟩) (Kd.R_far (p := ⟨gb392, 2, none⟩) (Kd.R_far (p := ⟨gb392, 1, none⟩) (Kd.R_far (p := ⟨gb392, 0, none⟩) (Kd.R_types HO_5.out BK392.out (by decide)) (fun _ hk => hk.2) (.bool false)) (fun _ hk => hk.2) (.int .i64 t385)) (fun _ hk => hk.2) (.int .i64 t386)) (fun _ hk => hk.2) (.int .i64 t387)) (fun _ hk => hk.2) (.int .i64 t388)) (fun _ hk => hk.2) (.int .i64 t389)) (fun _ hk => hk.2) (.int .i64 t390)) (fun _ hk => hk.1.1))⟩, ⟨rX (Kd.R_mono (Kd.R_far (p := ⟨gb392, 6, none⟩) (Kd.R_far (p := ⟨gb392, 5, none⟩) (Kd.R_far (p := ⟨gb392, 4, none⟩) (Kd.R_far (p := ⟨gb392, 3, none⟩) (Kd.R_far (p := ⟨gb392, 2, none⟩) (Kd.R_far (p := ⟨gb392, 1, none⟩) (Kd.R_far (p := ⟨gb392, 0, none⟩) (Kd.R_types HO_6.out BK392.out (by decide)) (fun _ hk => hk.2) (.bool false)) (fun _ hk => hk.2) (.int .i64 t385)) (fun _ hk => hk.2) (.int .i64 t386)) (fun _ hk => hk.2) (.int .i64 t387)) (fun _ hk => hk.2) (.int .i64 t388)) (fun _ hk => hk.2) (.int .i64 t389)) (fun _ hk => hk.2) (.int .i64 t390)) (fun _ hk => hk.1.1))⟩, ⟨by (with_reducible repeat (first | refine kN ?_ _ | refine kD ?_ | refine kA ?_ _)); refine blk_far ?_ NB373_392.out _; (with_reducible repeat (first | refine kN ?_ _ | refine kD ?_ | refine kA ?_ _)); refine blk_far ?_ NB373_392.out _; (with_reducible repeat (first | refine kN ?_ _ | refine kD ?_ | refine kA ?_ _)); refine blk_far ?_ NB373_392.out _; (with_reducible repeat (first | refine kN ?_ _ | refine kD ?_ | refine kA ?_ _)); refine blk_far ?_ NB373_392.out _; (with_reducible repeat (first | refine kN ?_ _ | refine kD ?_ | refine kA ?_ _)); refine blk_far ?_ NB373_392.out _; (with_reducible repeat (first | refine kN ?_ _ | refine kD ?_ | refine kA ?_ _)); refine blk_far ?_ NB373_392.out _; (with_reducible repeat (first | refine kN ?_ _ | refine kD ?_ | refine kA ?_ _)); refine blk_far ?_ NB373_392.out _; (with_reducible repeat (first | refine kN ?_ _ | refine kD ?_ | refine kA ?_ _)); exact BK373.out⟩, ⟨by repeat (first | (with_reducible first | exact HB.out | apply lA | apply lN | apply lD | refine lS ?_ GE373.out | refine lS ?_ GE392.out) | exact HB.out)⟩⟩)
               | (go_meet
                  case rel => exact ⟨_, H', ⟨by have := HK1.out; have := HK2.out; have := HJ33.out; first | omega | exact Nat.le_refl _⟩, ⟨rX (Kd.R_mono HO_5.out (fun _ hk => hk.1))⟩, ⟨rX (Kd.R_mono HO_6.out (fun _ hk => hk.1))⟩, ⟨kX BK373.out⟩, ⟨by repeat (first | (with_reducible first | exact HB.out | apply lA | apply lN | apply lD | refine lS ?_ GE373.out) | exact HB.out)⟩⟩)
            case rest =>
             clear HC39
             try clear c1
             try clear c2
             try clear p2
             try clear c3
             try clear p3
             try clear q3
             try clear hx3
             try clear qi3
             try clear c4
             try clear c5
             try clear c6
             try clear c6b0
             try clear c6b1
             try clear p6
             try clear c7
             try clear c8
             try clear c22
             try clear c23
             try clear c23b0
             try clear c24
             try clear c24b0
             try clear c26
             try clear c26b0
             try clear c27
             try clear c27b0
             try clear c28
             try clear c35
             try clear c35b0
             try clear c35b1
             try clear p35
             try clear q35
             try clear hx35
             try clear c36
             try clear c37
             try clear p37
             try clear q37
             try clear hx37
             try clear c42
             try clear c44
             try clear c44b0
             try clear c44b1
             try clear c45
             try clear c48
             try clear c52
             try clear c56
             try clear hcz22_0
             try clear hcz22_1
             try clear hcz22_2
             try clear hcz22_3
             try clear hcz22_4
             try clear hcz22_5
             try clear hcz22_6
             try clear hcz36_0
             try clear hcz36_1
             try clear hcz36_2
             try clear hcz36_3
             try clear hcz36_4
             try clear hcz36_5
             try clear hcz36_6
             try clear hcz49_0
             try clear hcz49_1
             try clear hcz49_2
             try clear hcz49_3
             try clear hcz49_4
             try clear hcz49_5
             try clear hcz49_6
             try clear hcz53_0
             try clear hcz53_1
             try clear hcz53_2
             try clear hcz53_3
             try clear hcz53_4
             try clear hcz53_5
             try clear hcz53_6
             try clear hcz57_0
             try clear hcz57_1
             try clear hcz57_2
             try clear hcz57_3
             try clear hcz57_4
             try clear hcz57_5
             try clear hcz57_6
             try clear hfz22_0
             try clear hfz22_1
             try clear hfz22_2
             try clear hfz22_3
             try clear hfz22_4
             try clear hfz22_5
             try clear hfz22_6
             try clear hfz36_0
             try clear hfz36_1
             try clear hfz36_2
             try clear hfz36_3
             try clear hfz36_4
             try clear hfz36_5
             try clear hfz36_6
             try clear hfz49_0
             try clear hfz49_1
             try clear hfz49_2
             try clear hfz49_3
             try clear hfz49_4
             try clear hfz49_5
             try clear hfz49_6
             try clear hfz53_0
             try clear hfz53_1
             try clear hfz53_2
             try clear hfz53_3
             try clear hfz53_4
             try clear hfz53_5
             try clear hfz53_6
             try clear hfz57_0
             try clear hfz57_1
             try clear hfz57_2
             try clear hfz57_3
             try clear hfz57_4
             try clear hfz57_5
             try clear hfz57_6
             try clear hx358_0
             try clear hx358_1
             try clear hx374_0
             try clear hx374_1
             try clear hx375_0
             try clear hx375_1
             try clear hx376_0
             try clear hx376_1
             try clear p2
             try clear p3
             try clear p35
             try clear p358
             try clear p374
             try clear p375
             try clear p376
             try clear p6
             try clear q3
             try clear q35
             try clear q358
             try clear q374
             try clear q375
             try clear q376
             obtain ⟨kq, HA, HJ38, HO_5, HO_6, BK373, HB⟩ := hcut
             cases kq with
             | zero => exact absurd HA.out (by simp [silversidelaw01_PlaneMeets.j3])
             | succ kj38 =>
              have H := HA.out
              clear HA
              simp only [silversidelaw01_PlaneMeets.j3] at H
              replace H := Option.bind_eq_some_iff.mp H
              obtain ⟨⟨t393, t394⟩, A580, H⟩ := H
              replace H : ((plane_Hull.f t352).bind fun bt397 => (if t394 = 0 then (if bt397.2 = 0 then ((silversideref01_Set.f kj38 t393).bind fun t401 => (if t401 = true then ((silversideref01_Set.f kj38 bt397.1).bind fun t402 => (silversidelaw01_PlaneMeets.j4 kj38 t349 t352 t393 bt397.1 (!t402))) else (silversidelaw01_PlaneMeets.j4 kj38 t349 t352 t393 bt397.1 true))) else (silversidelaw01_PlaneMeets.j4 kj38 t349 t352 t393 bt397.1 true)) else (silversidelaw01_PlaneMeets.j4 kj38 t349 t352 t393 bt397.1 true))) = some r := H
              have A58 := Aside0.mk A580
              clear A580
              replace H := Option.bind_eq_some_iff.mp H
              obtain ⟨⟨t397, t398⟩, A590, H⟩ := H
              replace H : (if t394 = 0 then (if t398 = 0 then ((silversideref01_Set.f kj38 t393).bind fun t401 => (if t401 = true then ((silversideref01_Set.f kj38 t397).bind fun t402 => (silversidelaw01_PlaneMeets.j4 kj38 t349 t352 t393 t397 (!t402))) else (silversidelaw01_PlaneMeets.j4 kj38 t349 t352 t393 t397 true))) else (silversidelaw01_PlaneMeets.j4 kj38 t349 t352 t393 t397 true)) else (silversidelaw01_PlaneMeets.j4 kj38 t349 t352 t393 t397 true)) = some r := H
              have A59 := Aside0.mk A590
              clear A590
              have HC60 := Aside0.mk H
              clear H
              go_upto_region 22 with (first | ((with_reducible refine gate_callee (f := 32) rfl ?_); refine goesL_ (some 101) rfl rfl Try.func32 (by kernel_rfl) rfl #[.slice (some ad358) t349.length co12] rfl (by (try simp only [List.map_toArray, List.map_cons, List.map_nil]); first | done | rfl | (simp only [List.length_drop, List.length_take]; rfl)) ?_; (with_reducible refine (plane_Hull.calls _ _ t349 t393 t394 _ ?side1 ?side2 A58.out).mono ?_); (case side1 => repeat (first | exact (Kd.R_reads' HO_5.out).2.2 | (with_reducible refine Kd.C_alloc ?_ _) | (with_reducible refine Kd.C_drewN ?_ _) | (with_reducible refine Kd.C_drew ?_))); (case side2 => exact (Kd.R_reads' HO_5.out).2.1); rintro e w61 ⟨v395, rfl, ho0, hb⟩; refine ⟨_, rfl, ?_⟩; have n0_ := Aside0.mk (Kd.R_elder' (rX HO_5.out) (Kd.R_base ho0) hb); have n1_ := Aside0.mk (Kd.R_elder' (rX HO_6.out) (Kd.R_base ho0) hb); have n2_ := Aside0.mk (Kd.R_lower (Kd.R_new' (Kd.R_new' ho0 (Kd.R_lt (rX HO_5.out))) (Kd.R_lt (rX HO_6.out))) (below_size (by repeat (first | (with_reducible first | exact HB.out | apply lA | apply lN | apply lD | refine lS ?_ GE373.out) | exact HB.out)))); have n3_ := Aside0.mk (blk_below (g := gb373) (o := .cells #[.bool t365, .int .i64 t366, .int .i64 t367, .int .i64 t368, .int .i64 t369, .int .i64 t370, .int .i64 t371] 44 (0, 0)) (kX BK373.out) hb); have n4_ := Aside0.mk (below_step (by repeat (first | (with_reducible first | exact HB.out | apply lA | apply lN | apply lD | refine lS ?_ GE373.out) | exact HB.out)) hb); clear HO_5; clear HO_6; clear BK373; clear HB; have HO_5 := n0_; have HO_6 := n1_; have HO396 := n2_; have BK373 := n3_; have HB := n4_; clear n0_ n1_ n2_ n3_ n4_; (try clear hb); (try clear hb2); (try clear hk); (try clear hi); (try clear ho0); obtain ⟨Ao62, co62, eo62⟩ := Kd.R_slice HO_6.out; subst eo62) | ((with_reducible refine gate_callee (f := 32) rfl ?_); refine goesL_ (some 106) rfl rfl Try.func32 (by kernel_rfl) rfl #[.slice Ao62 t352.length co62] rfl (by (try simp only [List.map_toArray, List.map_cons, List.map_nil]); first | done | rfl | (simp only [List.length_drop, List.length_take]; rfl)) ?_; (with_reducible refine (plane_Hull.calls _ _ t352 t397 t398 _ ?side1 ?side2 A59.out).mono ?_); (case side1 => repeat (first | exact (Kd.R_reads' HO_6.out).2.2 | (with_reducible refine Kd.C_alloc ?_ _) | (with_reducible refine Kd.C_drewN ?_ _) | (with_reducible refine Kd.C_drew ?_))); (case side2 => exact (Kd.R_reads' HO_6.out).2.1); rintro e w63 ⟨v399, rfl, ho0, hb⟩; refine ⟨_, rfl, ?_⟩; have n0_ := Aside0.mk (Kd.R_elder' (rX HO_5.out) (Kd.R_base ho0) hb); have n1_ := Aside0.mk (Kd.R_elder' (rX HO_6.out) (Kd.R_base ho0) hb); have n2_ := Aside0.mk (Kd.R_elder' (rX HO396.out) (Kd.R_base ho0) hb); have n3_ := Aside0.mk (Kd.R_lower (Kd.R_new' (Kd.R_new' (Kd.R_new' ho0 (Kd.R_lt (rX HO_5.out))) (Kd.R_lt (rX HO_6.out))) (Kd.R_lt (rX HO396.out))) (below_size (by repeat (first | (with_reducible first | exact HB.out | apply lA | apply lN | apply lD | refine lS ?_ GE373.out) | exact HB.out)))); have n4_ := Aside0.mk (blk_below (g := gb373) (o := .cells #[.bool t365, .int .i64 t366, .int .i64 t367, .int .i64 t368, .int .i64 t369, .int .i64 t370, .int .i64 t371] 44 (0, 0)) (kX BK373.out) hb); have n5_ := Aside0.mk (below_step (by repeat (first | (with_reducible first | exact HB.out | apply lA | apply lN | apply lD | refine lS ?_ GE373.out) | exact HB.out)) hb); clear HO_5; clear HO_6; clear HO396; clear BK373; clear HB; have HO_5 := n0_; have HO_6 := n1_; have HO396 := n2_; have HO400 := n3_; have BK373 := n4_; have HB := n5_; clear n0_ n1_ n2_ n3_ n4_ n5_; (try clear hb); (try clear hb2); (try clear hk); (try clear hi); (try clear ho0)))
              (try simp only [Act.put, sA, sB, sC])
              go_cut [124] (fun v124 wc => ∃ (kq : Nat) (x124_59 : Bool), v124 = .bool x124_59 ∧ Aside0 (silversidelaw01_PlaneMeets.j4 kq t349 t352 t393 t397 x124_59 = some r) ∧ Aside0 (kq ≤ kj38) ∧ Aside0 (Kd.R k31 31 wc w.heap.size (fun k_ => some k_ ≠ ((.slice Ao62 t352.length co62) : Value).ownBlock ∧ some k_ ≠ (v395 : Value).ownBlock ∧ some k_ ≠ (v399 : Value).ownBlock) (.slice (some ad358) t349.length co12) t349) ∧ Aside0 (Kd.R k31 31 wc w.heap.size (fun k_ => some k_ ≠ ((.slice (some ad358) t349.length co12) : Value).ownBlock ∧ some k_ ≠ (v395 : Value).ownBlock ∧ some k_ ≠ (v399 : Value).ownBlock) (.slice Ao62 t352.length co62) t352) ∧ Aside0 (Kd.R k31 31 wc w.heap.size (fun k_ => some k_ ≠ ((.slice (some ad358) t349.length co12) : Value).ownBlock ∧ some k_ ≠ ((.slice Ao62 t352.length co62) : Value).ownBlock ∧ some k_ ≠ (v399 : Value).ownBlock) v395 t393) ∧ Aside0 (Kd.R k31 31 wc w.heap.size (fun k_ => some k_ ≠ ((.slice (some ad358) t349.length co12) : Value).ownBlock ∧ some k_ ≠ ((.slice Ao62 t352.length co62) : Value).ownBlock ∧ some k_ ≠ (v395 : Value).ownBlock) v399 t397) ∧ Aside0 (wc.heap[gb373]? = some (.cells #[.bool t365, .int .i64 t366, .int .i64 t367, .int .i64 t368, .int .i64 t369, .int .i64 t370, .int .i64 t371] 44 (0, 0))) ∧ Aside0 (Below w.heap.size w wc))
              case first =>
               have H := HC60.out
               clear HC60
               by_cases c64 : t394 = 0
               rw [if_pos c64] at H
               have c64b0 : (t394 == 0) = true := beq_iff_eq.mpr c64
               have c64b1 : (t394 != 0) = false := bne_eq_false_iff_eq.mpr c64
               clear c64
               (first | rw [c64b0] | (simp only [i64_w, i32_w]; rw [c64b0]) | skip)
               by_cases c65 : t398 = 0
               rw [if_pos c65] at H
               have c65b0 : (t398 == 0) = true := beq_iff_eq.mpr c65
               have c65b1 : (t398 != 0) = false := bne_eq_false_iff_eq.mpr c65
               clear c65
               replace H := Option.bind_eq_some_iff.mp H
               obtain ⟨t401, A660, H⟩ := H
               replace H : (if t401 = true then ((silversideref01_Set.f kj38 t397).bind fun t402 => (silversidelaw01_PlaneMeets.j4 kj38 t349 t352 t393 t397 (!t402))) else (silversidelaw01_PlaneMeets.j4 kj38 t349 t352 t393 t397 true)) = some r := H
               have A66 := Aside0.mk A660
               clear A660
               by_cases c67 : t401 = true
               subst c67
               have H1 : ((silversideref01_Set.f kj38 t397).bind fun t402 => (silversidelaw01_PlaneMeets.j4 kj38 t349 t352 t393 t397 (!t402))) = some r := by rw [if_pos rfl] at H; exact H
               clear H
               have H := H1
               clear H1
               replace H := Option.bind_eq_some_iff.mp H
               obtain ⟨t402, A680, H⟩ := H
               replace H : (silversidelaw01_PlaneMeets.j4 kj38 t349 t352 t393 t397 (!t402)) = some r := H
               have A68 := Aside0.mk A680
               clear A680
               have H' := Aside0.mk H
               clear H
               obtain ⟨Ao69, co69, eo69⟩ := Kd.R_slice HO396.out
               subst eo69
               rotate_left 1
               replace c67 := Bool.eq_false_iff.mpr c67
               subst c67
               have H1 : (silversidelaw01_PlaneMeets.j4 kj38 t349 t352 t393 t397 true) = some r := by rw [if_neg (show ¬ (false = true) by decide)] at H; exact H
               clear H
               have H := H1
               clear H1
               have H' := Aside0.mk H
               clear H
               obtain ⟨Ao73, co73, eo73⟩ := Kd.R_slice HO396.out
               subst eo73
               rotate_left 1
               rw [if_neg c65] at H
               have c65b0 : (t398 == 0) = false := beq_eq_false_iff_ne.mpr c65
               have c65b1 : (t398 != 0) = true := bne_iff_ne.mpr c65
               have H' := Aside0.mk H
               clear H
               rotate_left 1
               rw [if_neg c64] at H
               have c64b0 : (t394 == 0) = false := beq_eq_false_iff_ne.mpr c64
               have c64b1 : (t394 != 0) = true := bne_iff_ne.mpr c64
               (first | rw [c64b0] | (simp only [i64_w, i32_w]; rw [c64b0]) | skip)
               have H' := Aside0.mk H
               clear H
               all_goals go_wp2_with (first | (go_at_call 33; (with_reducible refine (silversideref01_Set.calls kj38 _ _ t393 false _ ?side1 ?side2 A66.out).mono ?_); (case side1 => repeat (first | exact (Kd.R_reads' HO396.out).2.2 | (with_reducible refine Kd.C_alloc ?_ _) | (with_reducible refine Kd.C_drewN ?_ _) | (with_reducible refine Kd.C_drew ?_))); (case side2 => exact (Kd.R_reads' HO396.out).2.1); rintro e wz0 ⟨rfl, hb⟩; have n0_ := Aside0.mk (Kd.R_below (rX HO_5.out) hb); have n1_ := Aside0.mk (Kd.R_below (rX HO_6.out) hb); have n2_ := Aside0.mk (Kd.R_below (rX HO396.out) hb); have n3_ := Aside0.mk (Kd.R_below (rX HO400.out) hb); have n4_ := Aside0.mk (blk_below (g := gb373) (o := .cells #[.bool t365, .int .i64 t366, .int .i64 t367, .int .i64 t368, .int .i64 t369, .int .i64 t370, .int .i64 t371] 44 (0, 0)) (kX BK373.out) hb); have n5_ := Aside0.mk (below_step (by repeat (first | (with_reducible first | exact HB.out | apply lA | apply lN | apply lD | refine lS ?_ GE373.out) | exact HB.out)) hb); clear HO_5; clear HO_6; clear HO396; clear HO400; clear BK373; clear HB; have HO_5 := n0_; have HO_6 := n1_; have HO396 := n2_; have HO400 := n3_; have BK373 := n4_; have HB := n5_; clear n0_ n1_ n2_ n3_ n4_ n5_; (try clear hb); (try clear hb2); (try clear hk); (try clear hi)) | (go_at_call 33; (with_reducible refine (silversideref01_Set.calls kj38 _ _ t393 true _ ?side1 ?side2 A66.out).mono ?_); (case side1 => repeat (first | exact (Kd.R_reads' HO396.out).2.2 | (with_reducible refine Kd.C_alloc ?_ _) | (with_reducible refine Kd.C_drewN ?_ _) | (with_reducible refine Kd.C_drew ?_))); (case side2 => exact (Kd.R_reads' HO396.out).2.1); rintro e wz0 ⟨rfl, hb⟩; have n0_ := Aside0.mk (Kd.R_below (rX HO_5.out) hb); have n1_ := Aside0.mk (Kd.R_below (rX HO_6.out) hb); have n2_ := Aside0.mk (Kd.R_below (rX HO396.out) hb); have n3_ := Aside0.mk (Kd.R_below (rX HO400.out) hb); have n4_ := Aside0.mk (blk_below (g := gb373) (o := .cells #[.bool t365, .int .i64 t366, .int .i64 t367, .int .i64 t368, .int .i64 t369, .int .i64 t370, .int .i64 t371] 44 (0, 0)) (kX BK373.out) hb); have n5_ := Aside0.mk (below_step (by repeat (first | (with_reducible first | exact HB.out | apply lA | apply lN | apply lD | refine lS ?_ GE373.out) | exact HB.out)) hb); clear HO_5; clear HO_6; clear HO396; clear HO400; clear BK373; clear HB; have HO_5 := n0_; have HO_6 := n1_; have HO396 := n2_; have HO400 := n3_; have BK373 := n4_; have HB := n5_; clear n0_ n1_ n2_ n3_ n4_ n5_; (try clear hb); (try clear hb2); (try clear hk); (try clear hi); obtain ⟨Aoz1, coz2, eoz3⟩ := Kd.R_slice HO400.out; subst eoz3) | (go_at_call 33; (with_reducible refine (silversideref01_Set.calls kj38 _ _ t397 t402 _ ?side1 ?side2 A68.out).mono ?_); (case side1 => repeat (first | exact (Kd.R_reads' HO400.out).2.2 | (with_reducible refine Kd.C_alloc ?_ _) | (with_reducible refine Kd.C_drewN ?_ _) | (with_reducible refine Kd.C_drew ?_))); (case side2 => exact (Kd.R_reads' HO400.out).2.1); rintro e wz4 ⟨rfl, hb⟩; have n0_ := Aside0.mk (Kd.R_below (rX HO_5.out) hb); have n1_ := Aside0.mk (Kd.R_below (rX HO_6.out) hb); have n2_ := Aside0.mk (Kd.R_below (rX HO396.out) hb); have n3_ := Aside0.mk (Kd.R_below (rX HO400.out) hb); have n4_ := Aside0.mk (blk_below (g := gb373) (o := .cells #[.bool t365, .int .i64 t366, .int .i64 t367, .int .i64 t368, .int .i64 t369, .int .i64 t370, .int .i64 t371] 44 (0, 0)) (kX BK373.out) hb); have n5_ := Aside0.mk (below_step (by repeat (first | (with_reducible first | exact HB.out | apply lA | apply lN | apply lD | refine lS ?_ GE373.out) | exact HB.out)) hb); clear HO_5; clear HO_6; clear HO396; clear HO400; clear BK373; clear HB; have HO_5 := n0_; have HO_6 := n1_; have HO396 := n2_; have HO400 := n3_; have BK373 := n4_; have HB := n5_; clear n0_ n1_ n2_ n3_ n4_ n5_; (try clear hb); (try clear hb2); (try clear hk); (try clear hi)))
               all_goals first
                 | (go_meet
                    case rel => exact ⟨_, (!t402), (by first | rfl | (simp; done) | (simp [*]; done)), H', ⟨by have := HK1.out; have := HK2.out; have := HJ33.out; have := HJ38.out; first | omega | exact Nat.le_refl _⟩, ⟨rX (Kd.R_mono HO_5.out (fun _ hk => ⟨hk.1.1, ⟨hk.1.2, hk.2⟩⟩))⟩, ⟨rX (Kd.R_mono HO_6.out (fun _ hk => ⟨hk.1.1, ⟨hk.1.2, hk.2⟩⟩))⟩, ⟨rX (Kd.R_mono HO396.out (fun _ hk => ⟨hk.1.1.2, ⟨hk.1.2, hk.2⟩⟩))⟩, ⟨rX (Kd.R_mono HO400.out (fun _ hk => ⟨hk.1.1.2, ⟨hk.1.2, hk.2⟩⟩))⟩, ⟨kX BK373.out⟩, ⟨by repeat (first | (with_reducible first | exact HB.out | apply lA | apply lN | apply lD | refine lS ?_ GE373.out) | exact HB.out)⟩⟩)
                 | (go_meet
                    case rel => exact ⟨_, (true), (by first | rfl | (simp; done) | (simp [*]; done)), H', ⟨by have := HK1.out; have := HK2.out; have := HJ33.out; have := HJ38.out; first | omega | exact Nat.le_refl _⟩, ⟨rX (Kd.R_mono HO_5.out (fun _ hk => ⟨hk.1.1, ⟨hk.1.2, hk.2⟩⟩))⟩, ⟨rX (Kd.R_mono HO_6.out (fun _ hk => ⟨hk.1.1, ⟨hk.1.2, hk.2⟩⟩))⟩, ⟨rX (Kd.R_mono HO396.out (fun _ hk => ⟨hk.1.1.2, ⟨hk.1.2, hk.2⟩⟩))⟩, ⟨rX (Kd.R_mono HO400.out (fun _ hk => ⟨hk.1.1.2, ⟨hk.1.2, hk.2⟩⟩))⟩, ⟨kX BK373.out⟩, ⟨by repeat (first | (with_reducible first | exact HB.out | apply lA | apply lN | apply lD | refine lS ?_ GE373.out) | exact HB.out)⟩⟩)
              case rest =>
               clear HC60
               try clear c1
               try clear c2
               try clear p2
               try clear c3
               try clear p3
               try clear q3
               try clear hx3
               try clear qi3
               try clear c4
               try clear c5
               try clear c6
               try clear c6b0
               try clear c6b1
               try clear p6
               try clear c7
               try clear c8
               try clear c22
               try clear c23
               try clear c23b0
               try clear c24
               try clear c24b0
               try clear c26
               try clear c26b0
               try clear c27
               try clear c27b0
               try clear c28
               try clear c32
               try clear c35
               try clear c35b0
               try clear c35b1
               try clear p35
               try clear q35
               try clear hx35
               try clear c36
               try clear c37
               try clear p37
               try clear q37
               try clear hx37
               try clear c42
               try clear c44
               try clear c44b0
               try clear c44b1
               try clear c45
               try clear c48
               try clear c52
               try clear c56
               try clear c64
               try clear c64b0
               try clear c64b1
               try clear p64
               try clear c65
               try clear c65b0
               try clear c65b1
               try clear c67
               try clear hcz22_0
               try clear hcz22_1
               try clear hcz22_2
               try clear hcz22_3
               try clear hcz22_4
               try clear hcz22_5
               try clear hcz22_6
               try clear hcz36_0
               try clear hcz36_1
               try clear hcz36_2
               try clear hcz36_3
               try clear hcz36_4
               try clear hcz36_5
               try clear hcz36_6
               try clear hcz49_0
               try clear hcz49_1
               try clear hcz49_2
               try clear hcz49_3
               try clear hcz49_4
               try clear hcz49_5
               try clear hcz49_6
               try clear hcz53_0
               try clear hcz53_1
               try clear hcz53_2
               try clear hcz53_3
               try clear hcz53_4
               try clear hcz53_5
               try clear hcz53_6
               try clear hcz57_0
               try clear hcz57_1
               try clear hcz57_2
               try clear hcz57_3
               try clear hcz57_4
               try clear hcz57_5
               try clear hcz57_6
               try clear hfz22_0
               try clear hfz22_1
               try clear hfz22_2
               try clear hfz22_3
               try clear hfz22_4
               try clear hfz22_5
               try clear hfz22_6
               try clear hfz36_0
               try clear hfz36_1
               try clear hfz36_2
               try clear hfz36_3
               try clear hfz36_4
               try clear hfz36_5
               try clear hfz36_6
               try clear hfz49_0
               try clear hfz49_1
               try clear hfz49_2
               try clear hfz49_3
               try clear hfz49_4
               try clear hfz49_5
               try clear hfz49_6
               try clear hfz53_0
               try clear hfz53_1
               try clear hfz53_2
               try clear hfz53_3
               try clear hfz53_4
               try clear hfz53_5
               try clear hfz53_6
               try clear hfz57_0
               try clear hfz57_1
               try clear hfz57_2
               try clear hfz57_3
               try clear hfz57_4
               try clear hfz57_5
               try clear hfz57_6
               try clear hx358_0
               try clear hx358_1
               try clear hx374_0
               try clear hx374_1
               try clear hx375_0
               try clear hx375_1
               try clear hx376_0
               try clear hx376_1
               try clear p2
               try clear p3
               try clear p35
               try clear p358
               try clear p37
               try clear p374
               try clear p375
               try clear p376
               try clear p6
               try clear q3
               try clear q35
               try clear q358
               try clear q37
               try clear q374
               try clear q375
               try clear q376
               obtain ⟨kq, x124_59, rfl, HA, HJ59, HO_5, HO_6, HO_16, HO_18, BK373, HB⟩ := hcut
               cases kq with
               | zero => exact absurd HA.out (by simp [silversidelaw01_PlaneMeets.j4])
               | succ kj59 =>
                have H := HA.out
                clear HA
                simp only [silversidelaw01_PlaneMeets.j4] at H
                by_cases c75 : x124_59 = true
                ·subst c75
                 have H1 : (some false) = some r := by rw [if_pos rfl] at H; exact H
                 clear H
                 have H := H1
                 clear H1
                 obtain rfl := Option.some.inj H
                 go_wp2
                 go_ret
                 exact ⟨by first | rfl | (simp [errW_none, errW_some] <;> rfl) | (simp [*, errW_none, errW_some] <;> rfl), by repeat (first | (with_reducible first | exact HB.out | apply lA | apply lN | apply lD | refine lS ?_ GE373.out) | exact HB.out)⟩
                ·replace c75 := Bool.eq_false_iff.mpr c75
                 subst c75
                 have H1 : ((plane_Separate.f kj59 t349 t352).bind fun bt403 => ((plane_Separate.f kj59 t393 t397).bind fun bt412 => (if bt403.2.2.2.2.2.2.2 = 0 then (if bt412.2.2.2.2.2.2.2 = 0 then (if (bt403.1 == bt412.1) = true then ((silversidelaw01_awake.f kj59).bind fun t421 => (some t421)) else (some false)) else (some false)) else (some false)))) = some r := by rw [if_neg (show ¬ (false = true) by decide)] at H; exact H
                 clear H
                 have H := H1
                 clear H1
                 replace H := Option.bind_eq_some_iff.mp H
                 obtain ⟨⟨t403, t404, t405, t406, t407, t408, t409, t410⟩, A760, H⟩ := H
                 replace H : ((plane_Separate.f kj59 t393 t397).bind fun bt412 => (if t410 = 0 then (if bt412.2.2.2.2.2.2.2 = 0 then (if (t403 == bt412.1) = true then ((silversidelaw01_awake.f kj59).bind fun t421 => (some t421)) else (some false)) else (some false)) else (some false))) = some r := H
                 have A76 := Aside0.mk A760
                 clear A760
                 replace H := Option.bind_eq_some_iff.mp H
                 obtain ⟨⟨t412, t413, t414, t415, t416, t417, t418, t419⟩, A770, H⟩ := H
                 replace H : (if t410 = 0 then (if t419 = 0 then (if (t403 == t412) = true then ((silversidelaw01_awake.f kj59).bind fun t421 => (some t421)) else (some false)) else (some false)) else (some false)) = some r := H
                 have A77 := Aside0.mk A770
                 clear A770
                 by_cases c78 : t410 = 0
                 ·rw [if_pos c78] at H
                  have c78b0 : (t410 == 0) = true := beq_iff_eq.mpr c78
                  have c78b1 : (t410 != 0) = false := bne_eq_false_iff_eq.mpr c78
                  clear c78
                  by_cases c79 : t419 = 0
                  ·rw [if_pos c79] at H
                   have c79b0 : (t419 == 0) = true := beq_iff_eq.mpr c79
                   have c79b1 : (t419 != 0) = false := bne_eq_false_iff_eq.mpr c79
                   clear c79
                   by_cases c80 : (t403 == t412) = true
                   ·rw [if_pos c80] at H
                    have c80b0 : (t403 == t412) = true := c80
                    (try (have c80b1 : decide (t403 = t412) = true := by simpa using c80))
                    (try (have c80b2 : (t403 == t412) = true := by simpa using c80))
                    clear c80
                    replace H := Option.bind_eq_some_iff.mp H
                    obtain ⟨t421, A810, H⟩ := H
                    replace H : (some t421) = some r := H
                    have A81 := Aside0.mk A810
                    clear A810
                    obtain rfl := Option.some.inj H
                    go_wp2_with (first | ((with_reducible refine gate_callee (f := 37) rfl ?_); refine goesL_ (some 128) rfl rfl Try.func37 (by kernel_rfl) rfl #[.slice (some ad358) t349.length co12, .slice Ao62 t352.length co62] rfl (by (try simp only [List.map_toArray, List.map_cons, List.map_nil]); first | done | rfl | (simp only [List.length_drop, List.length_take]; rfl)) ?_; (with_reducible refine (plane_Separate.calls kj59 _ _ t349 _ _ t352 t403 t404 t405 t406 t407 t408 t409 t410 _ ?side1 ?side2 ?side3 ?side4 A76.out).mono ?_); (case side1 => repeat (first | exact (Kd.R_reads' HO_5.out).2.2 | (with_reducible refine Kd.C_alloc ?_ _) | (with_reducible refine Kd.C_drewN ?_ _) | (with_reducible refine Kd.C_drew ?_))); (case side2 => exact (Kd.R_reads' HO_5.out).2.1); (case side3 => repeat (first | exact (Kd.R_reads' HO_6.out).2.2 | (with_reducible refine Kd.C_alloc ?_ _) | (with_reducible refine Kd.C_drewN ?_ _) | (with_reducible refine Kd.C_drew ?_))); (case side4 => exact (Kd.R_reads' HO_6.out).2.1); rintro e w82 ⟨rfl, hb⟩; refine ⟨_, rfl, ?_⟩; have n0_ := Aside0.mk (Kd.R_below (rX HO_5.out) hb); have n1_ := Aside0.mk (Kd.R_below (rX HO_6.out) hb); have n2_ := Aside0.mk (Kd.R_below (rX HO_16.out) hb); have n3_ := Aside0.mk (Kd.R_below (rX HO_18.out) hb); have n4_ := Aside0.mk (blk_below (g := gb373) (o := .cells #[.bool t365, .int .i64 t366, .int .i64 t367, .int .i64 t368, .int .i64 t369, .int .i64 t370, .int .i64 t371] 44 (0, 0)) (kX BK373.out) hb); have n5_ := Aside0.mk (below_step (by repeat (first | (with_reducible first | exact HB.out | apply lA | apply lN | apply lD | refine lS ?_ GE373.out) | exact HB.out)) hb); clear HO_5; clear HO_6; clear HO_16; clear HO_18; clear BK373; clear HB; have HO_5 := n0_; have HO_6 := n1_; have HO_16 := n2_; have HO_18 := n3_; have BK373 := n4_; have HB := n5_; clear n0_ n1_ n2_ n3_ n4_ n5_; (try clear hb); (try clear hb2); (try clear hk); (try clear hi)) | ((with_reducible refine gate_dst (N := 20) rfl ?_); refine box_event ?hg (N := 20) ?hd (cs := #[.bool false, .int .i64 0, .int .i64 0, .int .i64 0, .int .i64 0, .int .i64 0, .int .i64 0]) (t := 44) ?hr ?_; (case hd => rfl); (case hg => rfl); (case hr => first | (go_simp; done) | (go_simp; rfl)); intro gb411 hg w83 hbox hb; have n0_ := Aside0.mk (Kd.R_below (rX HO_5.out) hb); have n1_ := Aside0.mk (Kd.R_below (rX HO_6.out) hb); have n2_ := Aside0.mk (Kd.R_below (rX HO_16.out) hb); have n3_ := Aside0.mk (Kd.R_below (rX HO_18.out) hb); have n4_ := Aside0.mk (blk_below (g := gb373) (o := .cells #[.bool t365, .int .i64 t366, .int .i64 t367, .int .i64 t368, .int .i64 t369, .int .i64 t370, .int .i64 t371] 44 (0, 0)) (kX BK373.out) hb); have n5_ := Aside0.mk (below_step (by repeat (first | (with_reducible first | exact HB.out | apply lA | apply lN | apply lD | refine lS ?_ GE373.out) | exact HB.out)) hb); have n6_ := Aside0.mk (hbox); have n7_ := Aside0.mk ((by rw [hg]; exact (below_size (by repeat (first | (with_reducible first | exact HB.out | apply lA | apply lN | apply lD | refine lS ?_ GE373.out) | exact HB.out))) : w.heap.size ≤ gb411)); have n8_ := Aside0.mk ((by rw [hg]; exact (below_size (by repeat (first | (with_reducible first | exact HB.out | apply lA | apply lN | apply lD | refine lS ?_ GE373.out) | exact HB.out))) : w.heap.size ≤ gb411)); have n9_ := Aside0.mk ((by rw [hg]; exact Nat.ne_of_lt (blk_lt (g := gb373) (o := .cells #[.bool t365, .int .i64 t366, .int .i64 t367, .int .i64 t368, .int .i64 t369, .int .i64 t370, .int .i64 t371] 44 (0, 0)) (kX BK373.out)) : gb373 ≠ gb411)); have n10_ := Aside0.mk ((by rw [hg]; exact Nat.ne_of_gt (blk_lt (g := gb373) (o := .cells #[.bool t365, .int .i64 t366, .int .i64 t367, .int .i64 t368, .int .i64 t369, .int .i64 t370, .int .i64 t371] 44 (0, 0)) (kX BK373.out)) : gb411 ≠ gb373)); clear HO_5; clear HO_6; clear HO_16; clear HO_18; clear BK373; clear HB; have HO_5 := n0_; have HO_6 := n1_; have HO_16 := n2_; have HO_18 := n3_; have BK373 := n4_; have HB := n5_; have BK411 := n6_; have GW411 := n7_; have GE411 := n8_; have NB373_411 := n9_; have NB411_373 := n10_; clear n0_ n1_ n2_ n3_ n4_ n5_ n6_ n7_ n8_ n9_ n10_; clear hb hbox hg; have hnb84 := NB411_373.out; have hnc84 := NB373_411.out; have hcz85_0 : w83.cell? ⟨gb411, 0, none⟩ = some (.bool false) := (blk_cell BK411.out 0).trans rfl; have hcz85_1 : w83.cell? ⟨gb411, 1, none⟩ = some (.int .i64 0) := (blk_cell BK411.out 1).trans rfl; have hcz85_2 : w83.cell? ⟨gb411, 2, none⟩ = some (.int .i64 0) := (blk_cell BK411.out 2).trans rfl; have hcz85_3 : w83.cell? ⟨gb411, 3, none⟩ = some (.int .i64 0) := (blk_cell BK411.out 3).trans rfl; have hcz85_4 : w83.cell? ⟨gb411, 4, none⟩ = some (.int .i64 0) := (blk_cell BK411.out 4).trans rfl; have hcz85_5 : w83.cell? ⟨gb411, 5, none⟩ = some (.int .i64 0) := (blk_cell BK411.out 5).trans rfl; have hcz85_6 : w83.cell? ⟨gb411, 6, none⟩ = some (.int .i64 0) := (blk_cell BK411.out 6).trans rfl; have hfz85_0 := blk_frozen BK411.out 0; have hfz85_1 := blk_frozen BK411.out 1; have hfz85_2 := blk_frozen BK411.out 2; have hfz85_3 := blk_frozen BK411.out 3; have hfz85_4 := blk_frozen BK411.out 4; have hfz85_5 := blk_frozen BK411.out 5; have hfz85_6 := blk_frozen BK411.out 6; obtain ⟨Ao86, co86, eo86⟩ := Kd.R_slice HO_16.out; subst eo86; obtain ⟨Ao87, co87, eo87⟩ := Kd.R_slice HO_18.out; subst eo87) | ((with_reducible refine gate_callee (f := 37) rfl ?_); refine goesL_ (some 134) rfl rfl Try.func37 (by kernel_rfl) rfl #[.slice Ao86 t393.length co86, .slice Ao87 t397.length co87] rfl (by (try simp only [List.map_toArray, List.map_cons, List.map_nil]); first | done | rfl | (simp only [List.length_drop, List.length_take]; rfl)) ?_; (with_reducible refine (plane_Separate.calls kj59 _ _ t393 _ _ t397 t412 t413 t414 t415 t416 t417 t418 t419 _ ?side1 ?side2 ?side3 ?side4 A77.out).mono ?_); (case side1 => refine (Kd.R_reads' (e := 31) (base := w.heap.size) (ok := fun k_ => (some k_ ≠ (.slice (some ad358) t349.length co12 : Value).ownBlock ∧ (some k_ ≠ (.slice Ao62 t352.length co62 : Value).ownBlock ∧ some k_ ≠ (.slice Ao87 t397.length co87 : Value).ownBlock))) (n := t393.length) (c := co86) ?_).2.2; exact (rX (Kd.R_mono (Kd.R_far (p := ⟨gb411, 6, none⟩) (Kd.R_far (p := ⟨gb411, 5, none⟩) (Kd.R_far (p := ⟨gb411, 4, none⟩) (Kd.R_far (p := ⟨gb411, 3, none⟩) (Kd.R_far (p := ⟨gb411, 2, none⟩) (Kd.R_far (p := ⟨gb411, 1, none⟩) (Kd.R_far (p := ⟨gb411, 0, none⟩) (Kd.R_types HO_16.out BK411.out (by decide)) (fun _ hk => hk.2) (.bool t403)) (fun _ hk => hk.2) (.int .i64 t404)) (fun _ hk => hk.2) (.int .i64 t405)) (fun _ hk => hk.2) (.int .i64 t406)) (fun _ hk => hk.2) (.int .i64 t407)) (fun _ hk => hk.2) (.int .i64 t408)) (fun _ hk => hk.2) (.int .i64 t409)) (fun _ h_ => h_.1)))); (case side2 => exact (Kd.R_reads' HO_16.out).2.1); (case side3 => refine (Kd.R_reads' (e := 31) (base := w.heap.size) (ok := fun k_ => (some k_ ≠ (.slice (some ad358) t349.length co12 : Value).ownBlock ∧ (some k_ ≠ (.slice Ao62 t352.length co62 : Value).ownBlock ∧ some k_ ≠ (.slice Ao86 t393.length co86 : Value).ownBlock))) (n := t397.length) (c := co87) ?_).2.2; exact (rX (Kd.R_mono (Kd.R_far (p := ⟨gb411, 6, none⟩) (Kd.R_far (p := ⟨gb411, 5, none⟩) (Kd.R_far (p := ⟨gb411, 4, none⟩) (Kd.R_far (p := ⟨gb411, 3, none⟩) (Kd.R_far (p := ⟨gb411, 2, none⟩) (Kd.R_far (p := ⟨gb411, 1, none⟩) (Kd.R_far (p := ⟨gb411, 0, none⟩) (Kd.R_types HO_18.out BK411.out (by decide)) (fun _ hk => hk.2) (.bool t403)) (fun _ hk => hk.2) (.int .i64 t404)) (fun _ hk => hk.2) (.int .i64 t405)) (fun _ hk => hk.2) (.int .i64 t406)) (fun _ hk => hk.2) (.int .i64 t407)) (fun _ hk => hk.2) (.int .i64 t408)) (fun _ hk => hk.2) (.int .i64 t409)) (fun _ h_ => h_.1)))); (case side4 => exact (Kd.R_reads' HO_18.out).2.1); rintro e w88 ⟨rfl, hb⟩; refine ⟨_, rfl, ?_⟩; have n0_ := Aside0.mk (Kd.R_below (rX (Kd.R_mono (Kd.R_far (p := ⟨gb411, 6, none⟩) (Kd.R_far (p := ⟨gb411, 5, none⟩) (Kd.R_far (p := ⟨gb411, 4, none⟩) (Kd.R_far (p := ⟨gb411, 3, none⟩) (Kd.R_far (p := ⟨gb411, 2, none⟩) (Kd.R_far (p := ⟨gb411, 1, none⟩) (Kd.R_far (p := ⟨gb411, 0, none⟩) (Kd.R_types HO_5.out BK411.out (by decide)) (fun _ hk => hk.2) (.bool t403)) (fun _ hk => hk.2) (.int .i64 t404)) (fun _ hk => hk.2) (.int .i64 t405)) (fun _ hk => hk.2) (.int .i64 t406)) (fun _ hk => hk.2) (.int .i64 t407)) (fun _ hk => hk.2) (.int .i64 t408)) (fun _ hk => hk.2) (.int .i64 t409)) (fun _ h_ => h_.1))) hb); have n1_ := Aside0.mk (Kd.R_below (rX (Kd.R_mono (Kd.R_far (p := ⟨gb411, 6, none⟩) (Kd.R_far (p := ⟨gb411, 5, none⟩) (Kd.R_far (p := ⟨gb411, 4, none⟩) (Kd.R_far (p := ⟨gb411, 3, none⟩) (Kd.R_far (p := ⟨gb411, 2, none⟩) (Kd.R_far (p := ⟨gb411, 1, none⟩) (Kd.R_far (p := ⟨gb411, 0, none⟩) (Kd.R_types HO_6.out BK411.out (by decide)) (fun _ hk => hk.2) (.bool t403)) (fun _ hk => hk.2) (.int .i64 t404)) (fun _ hk => hk.2) (.int .i64 t405)) (fun _ hk => hk.2) (.int .i64 t406)) (fun _ hk => hk.2) (.int .i64 t407)) (fun _ hk => hk.2) (.int .i64 t408)) (fun _ hk => hk.2) (.int .i64 t409)) (fun _ h_ => h_.1))) hb); have n2_ := Aside0.mk (Kd.R_below (rX (Kd.R_mono (Kd.R_far (p := ⟨gb411, 6, none⟩) (Kd.R_far (p := ⟨gb411, 5, none⟩) (Kd.R_far (p := ⟨gb411, 4, none⟩) (Kd.R_far (p := ⟨gb411, 3, none⟩) (Kd.R_far (p := ⟨gb411, 2, none⟩) (Kd.R_far (p := ⟨gb411, 1, none⟩) (Kd.R_far (p := ⟨gb411, 0, none⟩) (Kd.R_types HO_16.out BK411.out (by decide)) (fun _ hk => hk.2) (.bool t403)) (fun _ hk => hk.2) (.int .i64 t404)) (fun _ hk => hk.2) (.int .i64 t405)) (fun _ hk => hk.2) (.int .i64 t406)) (fun _ hk => hk.2) (.int .i64 t407)) (fun _ hk => hk.2) (.int .i64 t408)) (fun _ hk => hk.2) (.int .i64 t409)) (fun _ h_ => h_.1))) hb); have n3_ := Aside0.mk (Kd.R_below (rX (Kd.R_mono (Kd.R_far (p := ⟨gb411, 6, none⟩) (Kd.R_far (p := ⟨gb411, 5, none⟩) (Kd.R_far (p := ⟨gb411, 4, none⟩) (Kd.R_far (p := ⟨gb411, 3, none⟩) (Kd.R_far (p := ⟨gb411, 2, none⟩) (Kd.R_far (p := ⟨gb411, 1, none⟩) (Kd.R_far (p := ⟨gb411, 0, none⟩) (Kd.R_types HO_18.out BK411.out (by decide)) (fun _ hk => hk.2) (.bool t403)) (fun _ hk => hk.2) (.int .i64 t404)) (fun _ hk => hk.2) (.int .i64 t405)) (fun _ hk => hk.2) (.int .i64 t406)) (fun _ hk => hk.2) (.int .i64 t407)) (fun _ hk => hk.2) (.int .i64 t408)) (fun _ hk => hk.2) (.int .i64 t409)) (fun _ h_ => h_.1))) hb); have n4_ := Aside0.mk (blk_below (g := gb373) (o := .cells #[.bool t365, .int .i64 t366, .int .i64 t367, .int .i64 t368, .int .i64 t369, .int .i64 t370, .int .i64 t371] 44 (0, 0)) (by (with_reducible repeat (first | refine kN ?_ _ | refine kD ?_ | refine kA ?_ _)); refine blk_far ?_ NB373_411.out _; (with_reducible repeat (first | refine kN ?_ _ | refine kD ?_ | refine kA ?_ _)); refine blk_far ?_ NB373_411.out _; (with_reducible repeat (first | refine kN ?_ _ | refine kD ?_ | refine kA ?_ _)); refine blk_far ?_ NB373_411.out _; (with_reducible repeat (first | refine kN ?_ _ | refine kD ?_ | refine kA ?_ _)); refine blk_far ?_ NB373_411.out _; (with_reducible repeat (first | refine kN ?_ _ | refine kD ?_ | refine kA ?_ _)); refine blk_far ?_ NB373_411.out _; (with_reducible repeat (first | refine kN ?_ _ | refine kD ?_ | refine kA ?_ _)); refine blk_far ?_ NB373_411.out _; (with_reducible repeat (first | refine kN ?_ _ | refine kD ?_ | refine kA ?_ _)); refine blk_far ?_ NB373_411.out _; (with_reducible repeat (first | refine kN ?_ _ | refine kD ?_ | refine kA ?_ _)); exact BK373.out) hb); have n5_ := Aside0.mk (blk_below (g := gb411) (o := .cells #[.bool t403, .int .i64 t404, .int .i64 t405, .int .i64 t406, .int .i64 t407, .int .i64 t408, .int .i64 t409] 44 (0, 0)) (by (with_reducible repeat (first | refine kN ?_ _ | refine kD ?_ | refine kA ?_ _)); refine blk_put (cs := #[.bool t403, .int .i64 t404, .int .i64 t405, .int .i64 t406, .int .i64 t407, .int .i64 t408, .int .i64 0]) ?_ 6 _ rfl; (with_reducible repeat (first | refine kN ?_ _ | refine kD ?_ | refine kA ?_ _)); refine blk_put (cs := #[.bool t403, .int .i64 t404, .int .i64 t405, .int .i64 t406, .int .i64 t407, .int .i64 0, .int .i64 0]) ?_ 5 _ rfl; (with_reducible repeat (first | refine kN ?_ _ | refine kD ?_ | refine kA ?_ _)); refine blk_put (cs := #[.bool t403, .int .i64 t404, .int .i64 t405, .int .i64 t406, .int .i64 0, .int .i64 0, .int .i64 0]) ?_ 4 _ rfl; (with_reducible repeat (first | refine kN ?_ _ | refine kD ?_ | refine kA ?_ _)); refine blk_put (cs := #[.bool t403, .int .i64 t404, .int .i64 t405, .int .i64 0, .int .i64 0, .int .i64 0, .int .i64 0]) ?_ 3 _ rfl; (with_reducible repeat (first | refine kN ?_ _ | refine kD ?_ | refine kA ?_ _)); refine blk_put (cs := #[.bool t403, .int .i64 t404, .int .i64 0, .int .i64 0, .int .i64 0, .int .i64 0, .int .i64 0]) ?_ 2 _ rfl; (with_reducible repeat (first | refine kN ?_ _ | refine kD ?_ | refine kA ?_ _)); refine blk_put (cs := #[.bool t403, .int .i64 0, .int .i64 0, .int .i64 0, .int .i64 0, .int .i64 0, .int .i64 0]) ?_ 1 _ rfl; (with_reducible repeat (first | refine kN ?_ _ | refine kD ?_ | refine kA ?_ _)); refine blk_put (cs := #[.bool false, .int .i64 0, .int .i64 0, .int .i64 0, .int .i64 0, .int .i64 0, .int .i64 0]) ?_ 0 _ rfl; (with_reducible repeat (first | refine kN ?_ _ | refine kD ?_ | refine kA ?_ _)); exact BK411.out) hb); have n6_ := Aside0.mk (below_step (by repeat (first | (with_reducible first | exact HB.out | apply lA | apply lN | apply lD | refine lS ?_ GE373.out | refine lS ?_ GE411.out) | exact HB.out)) hb); clear HO_5; clear HO_6; clear HO_16; clear HO_18; clear BK373; clear BK411; clear HB; have HO_5 := n0_; have HO_6 := n1_; have HO_16 := n2_; have HO_18 := n3_; have BK373 := n4_; have BK411 := n5_; have HB := n6_; clear n0_ n1_ n2_ n3_ n4_ n5_ n6_; (try clear hb); (try clear hb2); (try clear hk); (try clear hi)) | ((with_reducible refine gate_dst (N := 22) rfl ?_); refine box_event ?hg (N := 22) ?hd (cs := #[.bool false, .int .i64 0, .int .i64 0, .int .i64 0, .int .i64 0, .int .i64 0, .int .i64 0]) (t := 44) ?hr ?_; (case hd => rfl); (case hg => rfl); (case hr => first | (go_simp; done) | (go_simp; rfl)); intro gb420 hg w89 hbox hb; have n0_ := Aside0.mk (Kd.R_below (rX HO_5.out) hb); have n1_ := Aside0.mk (Kd.R_below (rX HO_6.out) hb); have n2_ := Aside0.mk (Kd.R_below (rX HO_16.out) hb); have n3_ := Aside0.mk (Kd.R_below (rX HO_18.out) hb); have n4_ := Aside0.mk (blk_below (g := gb373) (o := .cells #[.bool t365, .int .i64 t366, .int .i64 t367, .int .i64 t368, .int .i64 t369, .int .i64 t370, .int .i64 t371] 44 (0, 0)) (kX BK373.out) hb); have n5_ := Aside0.mk (blk_below (g := gb411) (o := .cells #[.bool t403, .int .i64 t404, .int .i64 t405, .int .i64 t406, .int .i64 t407, .int .i64 t408, .int .i64 t409] 44 (0, 0)) (kX BK411.out) hb); have n6_ := Aside0.mk (below_step (by repeat (first | (with_reducible first | exact HB.out | apply lA | apply lN | apply lD | refine lS ?_ GE373.out | refine lS ?_ GE411.out) | exact HB.out)) hb); have n7_ := Aside0.mk (hbox); have n8_ := Aside0.mk ((by rw [hg]; exact (below_size (by repeat (first | (with_reducible first | exact HB.out | apply lA | apply lN | apply lD | refine lS ?_ GE373.out | refine lS ?_ GE411.out) | exact HB.out))) : w.heap.size ≤ gb420)); have n9_ := Aside0.mk ((by rw [hg]; exact (below_size (by repeat (first | (with_reducible first | exact HB.out | apply lA | apply lN | apply lD | refine lS ?_ GE373.out | refine lS ?_ GE411.out) | exact HB.out))) : w.heap.size ≤ gb420)); have n10_ := Aside0.mk ((by rw [hg]; exact Nat.ne_of_lt (blk_lt (g := gb373) (o := .cells #[.bool t365, .int .i64 t366, .int .i64 t367, .int .i64 t368, .int .i64 t369, .int .i64 t370, .int .i64 t371] 44 (0, 0)) (kX BK373.out)) : gb373 ≠ gb420)); have n11_ := Aside0.mk ((by rw [hg]; exact Nat.ne_of_gt (blk_lt (g := gb373) (o := .cells #[.bool t365, .int .i64 t366, .int .i64 t367, .int .i64 t368, .int .i64 t369, .int .i64 t370, .int .i64 t371] 44 (0, 0)) (kX BK373.out)) : gb420 ≠ gb373)); have n12_ := Aside0.mk ((by rw [hg]; exact Nat.ne_of_lt (blk_lt (g := gb411) (o := .cells #[.bool t403, .int .i64 t404, .int .i64 t405, .int .i64 t406, .int .i64 t407, .int .i64 t408, .int .i64 t409] 44 (0, 0)) (kX BK411.out)) : gb411 ≠ gb420)); have n13_ := Aside0.mk ((by rw [hg]; exact Nat.ne_of_gt (blk_lt (g := gb411) (o := .cells #[.bool t403, .int .i64 t404, .int .i64 t405, .int .i64 t406, .int .i64 t407, .int .i64 t408, .int .i64 t409] 44 (0, 0)) (kX BK411.out)) : gb420 ≠ gb411)); clear HO_5; clear HO_6; clear HO_16; clear HO_18; clear BK373; clear BK411; clear HB; have HO_5 := n0_; have HO_6 := n1_; have HO_16 := n2_; have HO_18 := n3_; have BK373 := n4_; have BK411 := n5_; have HB := n6_; have BK420 := n7_; have GW420 := n8_; have GE420 := n9_; have NB373_420 := n10_; have NB420_373 := n11_; have NB411_420 := n12_; have NB420_411 := n13_; clear n0_ n1_ n2_ n3_ n4_ n5_ n6_ n7_ n8_ n9_ n10_ n11_ n12_ n13_; clear hb hbox hg; have hnb90 := NB420_373.out; have hnc90 := NB373_420.out; have hnb91 := NB420_411.out; have hnc91 := NB411_420.out; have hcz92_0 : w89.cell? ⟨gb420, 0, none⟩ = some (.bool false) := (blk_cell BK420.out 0).trans rfl; have hcz92_1 : w89.cell? ⟨gb420, 1, none⟩ = some (.int .i64 0) := (blk_cell BK420.out 1).trans rfl; have hcz92_2 : w89.cell? ⟨gb420, 2, none⟩ = some (.int .i64 0) := (blk_cell BK420.out 2).trans rfl; have hcz92_3 : w89.cell? ⟨gb420, 3, none⟩ = some (.int .i64 0) := (blk_cell BK420.out 3).trans rfl; have hcz92_4 : w89.cell? ⟨gb420, 4, none⟩ = some (.int .i64 0) := (blk_cell BK420.out 4).trans rfl; have hcz92_5 : w89.cell? ⟨gb420, 5, none⟩ = some (.int .i64 0) := (blk_cell BK420.out 5).trans rfl; have hcz92_6 : w89.cell? ⟨gb420, 6, none⟩ = some (.int .i64 0) := (blk_cell BK420.out 6).trans rfl; have hfz92_0 := blk_frozen BK420.out 0; have hfz92_1 := blk_frozen BK420.out 1; have hfz92_2 := blk_frozen BK420.out 2; have hfz92_3 := blk_frozen BK420.out 3; have hfz92_4 := blk_frozen BK420.out 4; have hfz92_5 := blk_frozen BK420.out 5; have hfz92_6 := blk_frozen BK420.out 6; have hcz93_0 : w89.cell? ⟨gb411, 0, none⟩ = some (.bool t403) := (blk_cell BK411.out 0).trans rfl; have hcz93_1 : w89.cell? ⟨gb411, 1, none⟩ = some (.int .i64 t404) := (blk_cell BK411.out 1).trans rfl; have hcz93_2 : w89.cell? ⟨gb411, 2, none⟩ = some (.int .i64 t405) := (blk_cell BK411.out 2).trans rfl; have hcz93_3 : w89.cell? ⟨gb411, 3, none⟩ = some (.int .i64 t406) := (blk_cell BK411.out 3).trans rfl; have hcz93_4 : w89.cell? ⟨gb411, 4, none⟩ = some (.int .i64 t407) := (blk_cell BK411.out 4).trans rfl; have hcz93_5 : w89.cell? ⟨gb411, 5, none⟩ = some (.int .i64 t408) := (blk_cell BK411.out 5).trans rfl; have hcz93_6 : w89.cell? ⟨gb411, 6, none⟩ = some (.int .i64 t409) := (blk_cell BK411.out 6).trans rfl; have hfz93_0 := blk_frozen BK411.out 0; have hfz93_1 := blk_frozen BK411.out 1; have hfz93_2 := blk_frozen BK411.out 2; have hfz93_3 := blk_frozen BK411.out 3; have hfz93_4 := blk_frozen BK411.out 4; have hfz93_5 := blk_frozen BK411.out 5; have hfz93_6 := blk_frozen BK411.out 6) | (go_at_call 23; (with_reducible refine (silversidelaw01_awake.calls kj59  t421 _ A81.out).mono ?_); rintro e w94 ⟨rfl, hb⟩; have n0_ := Aside0.mk (Kd.R_below (rX (Kd.R_mono (Kd.R_far (p := ⟨gb420, 6, none⟩) (Kd.R_far (p := ⟨gb420, 5, none⟩) (Kd.R_far (p := ⟨gb420, 4, none⟩) (Kd.R_far (p := ⟨gb420, 3, none⟩) (Kd.R_far (p := ⟨gb420, 2, none⟩) (Kd.R_far (p := ⟨gb420, 1, none⟩) (Kd.R_far (p := ⟨gb420, 0, none⟩) (Kd.R_types HO_5.out BK420.out (by decide)) (fun _ hk => hk.2) (.bool t412)) (fun _ hk => hk.2) (.int .i64 t413)) (fun _ hk => hk.2) (.int .i64 t414)) (fun _ hk => hk.2) (.int .i64 t415)) (fun _ hk => hk.2) (.int .i64 t416)) (fun _ hk => hk.2) (.int .i64 t417)) (fun _ hk => hk.2) (.int .i64 t418)) (fun _ h_ => h_.1))) hb); have n1_ := Aside0.mk (Kd.R_below (rX (Kd.R_mono (Kd.R_far (p := ⟨gb420, 6, none⟩) (Kd.R_far (p := ⟨gb420, 5, none⟩) (Kd.R_far (p := ⟨gb420, 4, none⟩) (Kd.R_far (p := ⟨gb420, 3, none⟩) (Kd.R_far (p := ⟨gb420, 2, none⟩) (Kd.R_far (p := ⟨gb420, 1, none⟩) (Kd.R_far (p := ⟨gb420, 0, none⟩) (Kd.R_types HO_6.out BK420.out (by decide)) (fun _ hk => hk.2) (.bool t412)) (fun _ hk => hk.2) (.int .i64 t413)) (fun _ hk => hk.2) (.int .i64 t414)) (fun _ hk => hk.2) (.int .i64 t415)) (fun _ hk => hk.2) (.int .i64 t416)) (fun _ hk => hk.2) (.int .i64 t417)) (fun _ hk => hk.2) (.int .i64 t418)) (fun _ h_ => h_.1))) hb); have n2_ := Aside0.mk (Kd.R_below (rX (Kd.R_mono (Kd.R_far (p := ⟨gb420, 6, none⟩) (Kd.R_far (p := ⟨gb420, 5, none⟩) (Kd.R_far (p := ⟨gb420, 4, none⟩) (Kd.R_far (p := ⟨gb420, 3, none⟩) (Kd.R_far (p := ⟨gb420, 2, none⟩) (Kd.R_far (p := ⟨gb420, 1, none⟩) (Kd.R_far (p := ⟨gb420, 0, none⟩) (Kd.R_types HO_16.out BK420.out (by decide)) (fun _ hk => hk.2) (.bool t412)) (fun _ hk => hk.2) (.int .i64 t413)) (fun _ hk => hk.2) (.int .i64 t414)) (fun _ hk => hk.2) (.int .i64 t415)) (fun _ hk => hk.2) (.int .i64 t416)) (fun _ hk => hk.2) (.int .i64 t417)) (fun _ hk => hk.2) (.int .i64 t418)) (fun _ h_ => h_.1))) hb); have n3_ := Aside0.mk (Kd.R_below (rX (Kd.R_mono (Kd.R_far (p := ⟨gb420, 6, none⟩) (Kd.R_far (p := ⟨gb420, 5, none⟩) (Kd.R_far (p := ⟨gb420, 4, none⟩) (Kd.R_far (p := ⟨gb420, 3, none⟩) (Kd.R_far (p := ⟨gb420, 2, none⟩) (Kd.R_far (p := ⟨gb420, 1, none⟩) (Kd.R_far (p := ⟨gb420, 0, none⟩) (Kd.R_types HO_18.out BK420.out (by decide)) (fun _ hk => hk.2) (.bool t412)) (fun _ hk => hk.2) (.int .i64 t413)) (fun _ hk => hk.2) (.int .i64 t414)) (fun _ hk => hk.2) (.int .i64 t415)) (fun _ hk => hk.2) (.int .i64 t416)) (fun _ hk => hk.2) (.int .i64 t417)) (fun _ hk => hk.2) (.int .i64 t418)) (fun _ h_ => h_.1))) hb); have n4_ := Aside0.mk (blk_below (g := gb373) (o := .cells #[.bool t365, .int .i64 t366, .int .i64 t367, .int .i64 t368, .int .i64 t369, .int .i64 t370, .int .i64 t371] 44 (0, 0)) (by (with_reducible repeat (first | refine kN ?_ _ | refine kD ?_ | refine kA ?_ _)); refine blk_far ?_ NB373_420.out _; (with_reducible repeat (first | refine kN ?_ _ | refine kD ?_ | refine kA ?_ _)); refine blk_far ?_ NB373_420.out _; (with_reducible repeat (first | refine kN ?_ _ | refine kD ?_ | refine kA ?_ _)); refine blk_far ?_ NB373_420.out _; (with_reducible repeat (first | refine kN ?_ _ | refine kD ?_ | refine kA ?_ _)); refine blk_far ?_ NB373_420.out _; (with_reducible repeat (first | refine kN ?_ _ | refine kD ?_ | refine kA ?_ _)); refine blk_far ?_ NB373_420.out _; (with_reducible repeat (first | refine kN ?_ _ | refine kD ?_ | refine kA ?_ _)); refine blk_far ?_ NB373_420.out _; (with_reducible repeat (first | refine kN ?_ _ | refine kD ?_ | refine kA ?_ _)); refine blk_far ?_ NB373_420.out _; (with_reducible repeat (first | refine kN ?_ _ | refine kD ?_ | refine kA ?_ _)); exact BK373.out) hb); have n5_ := Aside0.mk (blk_below (g := gb411) (o := .cells #[.bool t403, .int .i64 t404, .int .i64 t405, .int .i64 t406, .int .i64 t407, .int .i64 t408, .int .i64 t409] 44 (0, 0)) (by (with_reducible repeat (first | refine kN ?_ _ | refine kD ?_ | refine kA ?_ _)); refine blk_far ?_ NB411_420.out _; (with_reducible repeat (first | refine kN ?_ _ | refine kD ?_ | refine kA ?_ _)); refine blk_far ?_ NB411_420.out _; (with_reducible repeat (first | refine kN ?_ _ | refine kD ?_ | refine kA ?_ _)); refine blk_far ?_ NB411_420.out _; (with_reducible repeat (first | refine kN ?_ _ | refine kD ?_ | refine kA ?_ _)); refine blk_far ?_ NB411_420.out _; (with_reducible repeat (first | refine kN ?_ _ | refine kD ?_ | refine kA ?_ _)); refine blk_far ?_ NB411_420.out _; (with_reducible repeat (first | refine kN ?_ _ | refine kD ?_ | refine kA ?_ _)); refine blk_far ?_ NB411_420.out _; (with_reducible repeat (first | refine kN ?_ _ | refine kD ?_ | refine kA ?_ _)); refine blk_far ?_ NB411_420.out _; (with_reducible repeat (first | refine kN ?_ _ | refine kD ?_ | refine kA ?_ _)); exact BK411.out) hb); have n6_ := Aside0.mk (blk_below (g := gb420) (o := .cells #[.bool t412, .int .i64 t413, .int .i64 t414, .int .i64 t415, .int .i64 t416, .int .i64 t417, .int .i64 t418] 44 (0, 0)) (by (with_reducible repeat (first | refine kN ?_ _ | refine kD ?_ | refine kA ?_ _)); refine blk_put (cs := #[.bool t412, .int .i64 t413, .int .i64 t414, .int .i64 t415, .int .i64 t416, .int .i64 t417, .int .i64 0]) ?_ 6 _ rfl; (with_reducible repeat (first | refine kN ?_ _ | refine kD ?_ | refine kA ?_ _)); refine blk_put (cs := #[.bool t412, .int .i64 t413, .int .i64 t414, .int .i64 t415, .int .i64 t416, .int .i64 0, .int .i64 0]) ?_ 5 _ rfl; (with_reducible repeat (first | refine kN ?_ _ | refine kD ?_ | refine kA ?_ _)); refine blk_put (cs := #[.bool t412, .int .i64 t413, .int .i64 t414, .int .i64 t415, .int .i64 0, .int .i64 0, .int .i64 0]) ?_ 4 _ rfl; (with_reducible repeat (first | refine kN ?_ _ | refine kD ?_ | refine kA ?_ _)); refine blk_put (cs := #[.bool t412, .int .i64 t413, .int .i64 t414, .int .i64 0, .int .i64 0, .int .i64 0, .int .i64 0]) ?_ 3 _ rfl; (with_reducible repeat (first | refine kN ?_ _ | refine kD ?_ | refine kA ?_ _)); refine blk_put (cs := #[.bool t412, .int .i64 t413, .int .i64 0, .int .i64 0, .int .i64 0, .int .i64 0, .int .i64 0]) ?_ 2 _ rfl; (with_reducible repeat (first | refine kN ?_ _ | refine kD ?_ | refine kA ?_ _)); refine blk_put (cs := #[.bool t412, .int .i64 0, .int .i64 0, .int .i64 0, .int .i64 0, .int .i64 0, .int .i64 0]) ?_ 1 _ rfl; (with_reducible repeat (first | refine kN ?_ _ | refine kD ?_ | refine kA ?_ _)); refine blk_put (cs := #[.bool false, .int .i64 0, .int .i64 0, .int .i64 0, .int .i64 0, .int .i64 0, .int .i64 0]) ?_ 0 _ rfl; (with_reducible repeat (first | refine kN ?_ _ | refine kD ?_ | refine kA ?_ _)); exact BK420.out) hb); have n7_ := Aside0.mk (below_step (by repeat (first | (with_reducible first | exact HB.out | apply lA | apply lN | apply lD | refine lS ?_ GE373.out | refine lS ?_ GE411.out | refine lS ?_ GE420.out) | exact HB.out)) hb); clear HO_5; clear HO_6; clear HO_16; clear HO_18; clear BK373; clear BK411; clear BK420; clear HB; have HO_5 := n0_; have HO_6 := n1_; have HO_16 := n2_; have HO_18 := n3_; have BK373 := n4_; have BK411 := n5_; have BK420 := n6_; have HB := n7_; clear n0_ n1_ n2_ n3_ n4_ n5_ n6_ n7_; (try clear hb); (try clear hb2); (try clear hk); (try clear hi)))
                    go_ret
                    exact ⟨by first | rfl | (simp [errW_none, errW_some] <;> rfl) | (simp [*, errW_none, errW_some] <;> rfl), by repeat (first | (with_reducible first | exact HB.out | apply lA | apply lN | apply lD | refine lS ?_ GE373.out | refine lS ?_ GE411.out | refine lS ?_ GE420.out) | exact HB.out)⟩
                   ·rw [if_neg c80] at H
                    have c80b0 : (t403 == t412) = false := by simpa using c80
                    (try (have c80b1 : decide (t403 = t412) = false := by simpa using c80))
                    (try (have c80b2 : (t403 == t412) = false := by simpa using c80))
                    (try (have c80b3 : ¬ (t403 = t412) := by simpa using c80))
                    clear c80
                    obtain rfl := Option.some.inj H
                    go_wp2_with (first | ((with_reducible refine gate_callee (f := 37) rfl ?_); refine goesL_ (some 128) rfl rfl Try.func37 (by kernel_rfl) rfl #[.slice (some ad358) t349.length co12, .slice Ao62 t352.length co62] rfl (by (try simp only [List.map_toArray, List.map_cons, List.map_nil]); first | done | rfl | (simp only [List.length_drop, List.length_take]; rfl)) ?_; (with_reducible refine (plane_Separate.calls kj59 _ _ t349 _ _ t352 t403 t404 t405 t406 t407 t408 t409 t410 _ ?side1 ?side2 ?side3 ?side4 A76.out).mono ?_); (case side1 => repeat (first | exact (Kd.R_reads' HO_5.out).2.2 | (with_reducible refine Kd.C_alloc ?_ _) | (with_reducible refine Kd.C_drewN ?_ _) | (with_reducible refine Kd.C_drew ?_))); (case side2 => exact (Kd.R_reads' HO_5.out).2.1); (case side3 => repeat (first | exact (Kd.R_reads' HO_6.out).2.2 | (with_reducible refine Kd.C_alloc ?_ _) | (with_reducible refine Kd.C_drewN ?_ _) | (with_reducible refine Kd.C_drew ?_))); (case side4 => exact (Kd.R_reads' HO_6.out).2.1); rintro e w95 ⟨rfl, hb⟩; refine ⟨_, rfl, ?_⟩; have n0_ := Aside0.mk (Kd.R_below (rX HO_5.out) hb); have n1_ := Aside0.mk (Kd.R_below (rX HO_6.out) hb); have n2_ := Aside0.mk (Kd.R_below (rX HO_16.out) hb); have n3_ := Aside0.mk (Kd.R_below (rX HO_18.out) hb); have n4_ := Aside0.mk (blk_below (g := gb373) (o := .cells #[.bool t365, .int .i64 t366, .int .i64 t367, .int .i64 t368, .int .i64 t369, .int .i64 t370, .int .i64 t371] 44 (0, 0)) (kX BK373.out) hb); have n5_ := Aside0.mk (below_step (by repeat (first | (with_reducible first | exact HB.out | apply lA | apply lN | apply lD | refine lS ?_ GE373.out) | exact HB.out)) hb); clear HO_5; clear HO_6; clear HO_16; clear HO_18; clear BK373; clear HB; have HO_5 := n0_; have HO_6 := n1_; have HO_16 := n2_; have HO_18 := n3_; have BK373 := n4_; have HB := n5_; clear n0_ n1_ n2_ n3_ n4_ n5_; (try clear hb); (try clear hb2); (try clear hk); (try clear hi)) | ((with_reducible refine gate_dst (N := 20) rfl ?_); refine box_event ?hg (N := 20) ?hd (cs := #[.bool false, .int .i64 0, .int .i64 0, .int .i64 0, .int .i64 0, .int .i64 0, .int .i64 0]) (t := 44) ?hr ?_; (case hd => rfl); (case hg => rfl); (case hr => first | (go_simp; done) | (go_simp; rfl)); intro gb411 hg w96 hbox hb; have n0_ := Aside0.mk (Kd.R_below (rX HO_5.out) hb); have n1_ := Aside0.mk (Kd.R_below (rX HO_6.out) hb); have n2_ := Aside0.mk (Kd.R_below (rX HO_16.out) hb); have n3_ := Aside0.mk (Kd.R_below (rX HO_18.out) hb); have n4_ := Aside0.mk (blk_below (g := gb373) (o := .cells #[.bool t365, .int .i64 t366, .int .i64 t367, .int .i64 t368, .int .i64 t369, .int .i64 t370, .int .i64 t371] 44 (0, 0)) (kX BK373.out) hb); have n5_ := Aside0.mk (below_step (by repeat (first | (with_reducible first | exact HB.out | apply lA | apply lN | apply lD | refine lS ?_ GE373.out) | exact HB.out)) hb); have n6_ := Aside0.mk (hbox); have n7_ := Aside0.mk ((by rw [hg]; exact (below_size (by repeat (first | (with_reducible first | exact HB.out | apply lA | apply lN | apply lD | refine lS ?_ GE373.out) | exact HB.out))) : w.heap.size ≤ gb411)); have n8_ := Aside0.mk ((by rw [hg]; exact (below_size (by repeat (first | (with_reducible first | exact HB.out | apply lA | apply lN | apply lD | refine lS ?_ GE373.out) | exact HB.out))) : w.heap.size ≤ gb411)); have n9_ := Aside0.mk ((by rw [hg]; exact Nat.ne_of_lt (blk_lt (g := gb373) (o := .cells #[.bool t365, .int .i64 t366, .int .i64 t367, .int .i64 t368, .int .i64 t369, .int .i64 t370, .int .i64 t371] 44 (0, 0)) (kX BK373.out)) : gb373 ≠ gb411)); have n10_ := Aside0.mk ((by rw [hg]; exact Nat.ne_of_gt (blk_lt (g := gb373) (o := .cells #[.bool t365, .int .i64 t366, .int .i64 t367, .int .i64 t368, .int .i64 t369, .int .i64 t370, .int .i64 t371] 44 (0, 0)) (kX BK373.out)) : gb411 ≠ gb373)); clear HO_5; clear HO_6; clear HO_16; clear HO_18; clear BK373; clear HB; have HO_5 := n0_; have HO_6 := n1_; have HO_16 := n2_; have HO_18 := n3_; have BK373 := n4_; have HB := n5_; have BK411 := n6_; have GW411 := n7_; have GE411 := n8_; have NB373_411 := n9_; have NB411_373 := n10_; clear n0_ n1_ n2_ n3_ n4_ n5_ n6_ n7_ n8_ n9_ n10_; clear hb hbox hg; have hnb97 := NB411_373.out; have hnc97 := NB373_411.out; have hcz98_0 : w96.cell? ⟨gb411, 0, none⟩ = some (.bool false) := (blk_cell BK411.out 0).trans rfl; have hcz98_1 : w96.cell? ⟨gb411, 1, none⟩ = some (.int .i64 0) := (blk_cell BK411.out 1).trans rfl; have hcz98_2 : w96.cell? ⟨gb411, 2, none⟩ = some (.int .i64 0) := (blk_cell BK411.out 2).trans rfl; have hcz98_3 : w96.cell? ⟨gb411, 3, none⟩ = some (.int .i64 0) := (blk_cell BK411.out 3).trans rfl; have hcz98_4 : w96.cell? ⟨gb411, 4, none⟩ = some (.int .i64 0) := (blk_cell BK411.out 4).trans rfl; have hcz98_5 : w96.cell? ⟨gb411, 5, none⟩ = some (.int .i64 0) := (blk_cell BK411.out 5).trans rfl; have hcz98_6 : w96.cell? ⟨gb411, 6, none⟩ = some (.int .i64 0) := (blk_cell BK411.out 6).trans rfl; have hfz98_0 := blk_frozen BK411.out 0; have hfz98_1 := blk_frozen BK411.out 1; have hfz98_2 := blk_frozen BK411.out 2; have hfz98_3 := blk_frozen BK411.out 3; have hfz98_4 := blk_frozen BK411.out 4; have hfz98_5 := blk_frozen BK411.out 5; have hfz98_6 := blk_frozen BK411.out 6; obtain ⟨Ao99, co99, eo99⟩ := Kd.R_slice HO_16.out; subst eo99; obtain ⟨Ao100, co100, eo100⟩ := Kd.R_slice HO_18.out; subst eo100) | ((with_reducible refine gate_callee (f := 37) rfl ?_); refine goesL_ (some 134) rfl rfl Try.func37 (by kernel_rfl) rfl #[.slice Ao99 t393.length co99, .slice Ao100 t397.length co100] rfl (by (try simp only [List.map_toArray, List.map_cons, List.map_nil]); first | done | rfl | (simp only [List.length_drop, List.length_take]; rfl)) ?_; (with_reducible refine (plane_Separate.calls kj59 _ _ t393 _ _ t397 t412 t413 t414 t415 t416 t417 t418 t419 _ ?side1 ?side2 ?side3 ?side4 A77.out).mono ?_); (case side1 => refine (Kd.R_reads' (e := 31) (base := w.heap.size) (ok := fun k_ => (some k_ ≠ (.slice (some ad358) t349.length co12 : Value).ownBlock ∧ (some k_ ≠ (.slice Ao62 t352.length co62 : Value).ownBlock ∧ some k_ ≠ (.slice Ao100 t397.length co100 : Value).ownBlock))) (n := t393.length) (c := co99) ?_).2.2; exact (rX (Kd.R_mono (Kd.R_far (p := ⟨gb411, 6, none⟩) (Kd.R_far (p := ⟨gb411, 5, none⟩) (Kd.R_far (p := ⟨gb411, 4, none⟩) (Kd.R_far (p := ⟨gb411, 3, none⟩) (Kd.R_far (p := ⟨gb411, 2, none⟩) (Kd.R_far (p := ⟨gb411, 1, none⟩) (Kd.R_far (p := ⟨gb411, 0, none⟩) (Kd.R_types HO_16.out BK411.out (by decide)) (fun _ hk => hk.2) (.bool t403)) (fun _ hk => hk.2) (.int .i64 t404)) (fun _ hk => hk.2) (.int .i64 t405)) (fun _ hk => hk.2) (.int .i64 t406)) (fun _ hk => hk.2) (.int .i64 t407)) (fun _ hk => hk.2) (.int .i64 t408)) (fun _ hk => hk.2) (.int .i64 t409)) (fun _ h_ => h_.1)))); (case side2 => exact (Kd.R_reads' HO_16.out).2.1); (case side3 => refine (Kd.R_reads' (e := 31) (base := w.heap.size) (ok := fun k_ => (some k_ ≠ (.slice (some ad358) t349.length co12 : Value).ownBlock ∧ (some k_ ≠ (.slice Ao62 t352.length co62 : Value).ownBlock ∧ some k_ ≠ (.slice Ao99 t393.length co99 : Value).ownBlock))) (n := t397.length) (c := co100) ?_).2.2; exact (rX (Kd.R_mono (Kd.R_far (p := ⟨gb411, 6, none⟩) (Kd.R_far (p := ⟨gb411, 5, none⟩) (Kd.R_far (p := ⟨gb411, 4, none⟩) (Kd.R_far (p := ⟨gb411, 3, none⟩) (Kd.R_far (p := ⟨gb411, 2, none⟩) (Kd.R_far (p := ⟨gb411, 1, none⟩) (Kd.R_far (p := ⟨gb411, 0, none⟩) (Kd.R_types HO_18.out BK411.out (by decide)) (fun _ hk => hk.2) (.bool t403)) (fun _ hk => hk.2) (.int .i64 t404)) (fun _ hk => hk.2) (.int .i64 t405)) (fun _ hk => hk.2) (.int .i64 t406)) (fun _ hk => hk.2) (.int .i64 t407)) (fun _ hk => hk.2) (.int .i64 t408)) (fun _ hk => hk.2) (.int .i64 t409)) (fun _ h_ => h_.1)))); (case side4 => exact (Kd.R_reads' HO_18.out).2.1); rintro e w101 ⟨rfl, hb⟩; refine ⟨_, rfl, ?_⟩; have n0_ := Aside0.mk (Kd.R_below (rX (Kd.R_mono (Kd.R_far (p := ⟨gb411, 6, none⟩) (Kd.R_far (p := ⟨gb411, 5, none⟩) (Kd.R_far (p := ⟨gb411, 4, none⟩) (Kd.R_far (p := ⟨gb411, 3, none⟩) (Kd.R_far (p := ⟨gb411, 2, none⟩) (Kd.R_far (p := ⟨gb411, 1, none⟩) (Kd.R_far (p := ⟨gb411, 0, none⟩) (Kd.R_types HO_5.out BK411.out (by decide)) (fun _ hk => hk.2) (.bool t403)) (fun _ hk => hk.2) (.int .i64 t404)) (fun _ hk => hk.2) (.int .i64 t405)) (fun _ hk => hk.2) (.int .i64 t406)) (fun _ hk => hk.2) (.int .i64 t407)) (fun _ hk => hk.2) (.int .i64 t408)) (fun _ hk => hk.2) (.int .i64 t409)) (fun _ h_ => h_.1))) hb); have n1_ := Aside0.mk (Kd.R_below (rX (Kd.R_mono (Kd.R_far (p := ⟨gb411, 6, none⟩) (Kd.R_far (p := ⟨gb411, 5, none⟩) (Kd.R_far (p := ⟨gb411, 4, none⟩) (Kd.R_far (p := ⟨gb411, 3, none⟩) (Kd.R_far (p := ⟨gb411, 2, none⟩) (Kd.R_far (p := ⟨gb411, 1, none⟩) (Kd.R_far (p := ⟨gb411, 0, none⟩) (Kd.R_types HO_6.out BK411.out (by decide)) (fun _ hk => hk.2) (.bool t403)) (fun _ hk => hk.2) (.int .i64 t404)) (fun _ hk => hk.2) (.int .i64 t405)) (fun _ hk => hk.2) (.int .i64 t406)) (fun _ hk => hk.2) (.int .i64 t407)) (fun _ hk => hk.2) (.int .i64 t408)) (fun _ hk => hk.2) (.int .i64 t409)) (fun _ h_ => h_.1))) hb); have n2_ := Aside0.mk (Kd.R_below (rX (Kd.R_mono (Kd.R_far (p := ⟨gb411, 6, none⟩) (Kd.R_far (p := ⟨gb411, 5, none⟩) (Kd.R_far (p := ⟨gb411, 4, none⟩) (Kd.R_far (p := ⟨gb411, 3, none⟩) (Kd.R_far (p := ⟨gb411, 2, none⟩) (Kd.R_far (p := ⟨gb411, 1, none⟩) (Kd.R_far (p := ⟨gb411, 0, none⟩) (Kd.R_types HO_16.out BK411.out (by decide)) (fun _ hk => hk.2) (.bool t403)) (fun _ hk => hk.2) (.int .i64 t404)) (fun _ hk => hk.2) (.int .i64 t405)) (fun _ hk => hk.2) (.int .i64 t406)) (fun _ hk => hk.2) (.int .i64 t407)) (fun _ hk => hk.2) (.int .i64 t408)) (fun _ hk => hk.2) (.int .i64 t409)) (fun _ h_ => h_.1))) hb); have n3_ := Aside0.mk (Kd.R_below (rX (Kd.R_mono (Kd.R_far (p := ⟨gb411, 6, none⟩) (Kd.R_far (p := ⟨gb411, 5, none⟩) (Kd.R_far (p := ⟨gb411, 4, none⟩) (Kd.R_far (p := ⟨gb411, 3, none⟩) (Kd.R_far (p := ⟨gb411, 2, none⟩) (Kd.R_far (p := ⟨gb411, 1, none⟩) (Kd.R_far (p := ⟨gb411, 0, none⟩) (Kd.R_types HO_18.out BK411.out (by decide)) (fun _ hk => hk.2) (.bool t403)) (fun _ hk => hk.2) (.int .i64 t404)) (fun _ hk => hk.2) (.int .i64 t405)) (fun _ hk => hk.2) (.int .i64 t406)) (fun _ hk => hk.2) (.int .i64 t407)) (fun _ hk => hk.2) (.int .i64 t408)) (fun _ hk => hk.2) (.int .i64 t409)) (fun _ h_ => h_.1))) hb); have n4_ := Aside0.mk (blk_below (g := gb373) (o := .cells #[.bool t365, .int .i64 t366, .int .i64 t367, .int .i64 t368, .int .i64 t369, .int .i64 t370, .int .i64 t371] 44 (0, 0)) (by (with_reducible repeat (first | refine kN ?_ _ | refine kD ?_ | refine kA ?_ _)); refine blk_far ?_ NB373_411.out _; (with_reducible repeat (first | refine kN ?_ _ | refine kD ?_ | refine kA ?_ _)); refine blk_far ?_ NB373_411.out _; (with_reducible repeat (first | refine kN ?_ _ | refine kD ?_ | refine kA ?_ _)); refine blk_far ?_ NB373_411.out _; (with_reducible repeat (first | refine kN ?_ _ | refine kD ?_ | refine kA ?_ _)); refine blk_far ?_ NB373_411.out _; (with_reducible repeat (first | refine kN ?_ _ | refine kD ?_ | refine kA ?_ _)); refine blk_far ?_ NB373_411.out _; (with_reducible repeat (first | refine kN ?_ _ | refine kD ?_ | refine kA ?_ _)); refine blk_far ?_ NB373_411.out _; (with_reducible repeat (first | refine kN ?_ _ | refine kD ?_ | refine kA ?_ _)); refine blk_far ?_ NB373_411.out _; (with_reducible repeat (first | refine kN ?_ _ | refine kD ?_ | refine kA ?_ _)); exact BK373.out) hb); have n5_ := Aside0.mk (blk_below (g := gb411) (o := .cells #[.bool t403, .int .i64 t404, .int .i64 t405, .int .i64 t406, .int .i64 t407, .int .i64 t408, .int .i64 t409] 44 (0, 0)) (by (with_reducible repeat (first | refine kN ?_ _ | refine kD ?_ | refine kA ?_ _)); refine blk_put (cs := #[.bool t403, .int .i64 t404, .int .i64 t405, .int .i64 t406, .int .i64 t407, .int .i64 t408, .int .i64 0]) ?_ 6 _ rfl; (with_reducible repeat (first | refine kN ?_ _ | refine kD ?_ | refine kA ?_ _)); refine blk_put (cs := #[.bool t403, .int .i64 t404, .int .i64 t405, .int .i64 t406, .int .i64 t407, .int .i64 0, .int .i64 0]) ?_ 5 _ rfl; (with_reducible repeat (first | refine kN ?_ _ | refine kD ?_ | refine kA ?_ _)); refine blk_put (cs := #[.bool t403, .int .i64 t404, .int .i64 t405, .int .i64 t406, .int .i64 0, .int .i64 0, .int .i64 0]) ?_ 4 _ rfl; (with_reducible repeat (first | refine kN ?_ _ | refine kD ?_ | refine kA ?_ _)); refine blk_put (cs := #[.bool t403, .int .i64 t404, .int .i64 t405, .int .i64 0, .int .i64 0, .int .i64 0, .int .i64 0]) ?_ 3 _ rfl; (with_reducible repeat (first | refine kN ?_ _ | refine kD ?_ | refine kA ?_ _)); refine blk_put (cs := #[.bool t403, .int .i64 t404, .int .i64 0, .int .i64 0, .int .i64 0, .int .i64 0, .int .i64 0]) ?_ 2 _ rfl; (with_reducible repeat (first | refine kN ?_ _ | refine kD ?_ | refine kA ?_ _)); refine blk_put (cs := #[.bool t403, .int .i64 0, .int .i64 0, .int .i64 0, .int .i64 0, .int .i64 0, .int .i64 0]) ?_ 1 _ rfl; (with_reducible repeat (first | refine kN ?_ _ | refine kD ?_ | refine kA ?_ _)); refine blk_put (cs := #[.bool false, .int .i64 0, .int .i64 0, .int .i64 0, .int .i64 0, .int .i64 0, .int .i64 0]) ?_ 0 _ rfl; (with_reducible repeat (first | refine kN ?_ _ | refine kD ?_ | refine kA ?_ _)); exact BK411.out) hb); have n6_ := Aside0.mk (below_step (by repeat (first | (with_reducible first | exact HB.out | apply lA | apply lN | apply lD | refine lS ?_ GE373.out | refine lS ?_ GE411.out) | exact HB.out)) hb); clear HO_5; clear HO_6; clear HO_16; clear HO_18; clear BK373; clear BK411; clear HB; have HO_5 := n0_; have HO_6 := n1_; have HO_16 := n2_; have HO_18 := n3_; have BK373 := n4_; have BK411 := n5_; have HB := n6_; clear n0_ n1_ n2_ n3_ n4_ n5_ n6_; (try clear hb); (try clear hb2); (try clear hk); (try clear hi)) | ((with_reducible refine gate_dst (N := 22) rfl ?_); refine box_event ?hg (N := 22) ?hd (cs := #[.bool false, .int .i64 0, .int .i64 0, .int .i64 0, .int .i64 0, .int .i64 0, .int .i64 0]) (t := 44) ?hr ?_; (case hd => rfl); (case hg => rfl); (case hr => first | (go_simp; done) | (go_simp; rfl)); intro gb420 hg w102 hbox hb; have n0_ := Aside0.mk (Kd.R_below (rX HO_5.out) hb); have n1_ := Aside0.mk (Kd.R_below (rX HO_6.out) hb); have n2_ := Aside0.mk (Kd.R_below (rX HO_16.out) hb); have n3_ := Aside0.mk (Kd.R_below (rX HO_18.out) hb); have n4_ := Aside0.mk (blk_below (g := gb373) (o := .cells #[.bool t365, .int .i64 t366, .int .i64 t367, .int .i64 t368, .int .i64 t369, .int .i64 t370, .int .i64 t371] 44 (0, 0)) (kX BK373.out) hb); have n5_ := Aside0.mk (blk_below (g := gb411) (o := .cells #[.bool t403, .int .i64 t404, .int .i64 t405, .int .i64 t406, .int .i64 t407, .int .i64 t408, .int .i64 t409] 44 (0, 0)) (kX BK411.out) hb); have n6_ := Aside0.mk (below_step (by repeat (first | (with_reducible first | exact HB.out | apply lA | apply lN | apply lD | refine lS ?_ GE373.out | refine lS ?_ GE411.out) | exact HB.out)) hb); have n7_ := Aside0.mk (hbox); have n8_ := Aside0.mk ((by rw [hg]; exact (below_size (by repeat (first | (with_reducible first | exact HB.out | apply lA | apply lN | apply lD | refine lS ?_ GE373.out | refine lS ?_ GE411.out) | exact HB.out))) : w.heap.size ≤ gb420)); have n9_ := Aside0.mk ((by rw [hg]; exact (below_size (by repeat (first | (with_reducible first | exact HB.out | apply lA | apply lN | apply lD | refine lS ?_ GE373.out | refine lS ?_ GE411.out) | exact HB.out))) : w.heap.size ≤ gb420)); have n10_ := Aside0.mk ((by rw [hg]; exact Nat.ne_of_lt (blk_lt (g := gb373) (o := .cells #[.bool t365, .int .i64 t366, .int .i64 t367, .int .i64 t368, .int .i64 t369, .int .i64 t370, .int .i64 t371] 44 (0, 0)) (kX BK373.out)) : gb373 ≠ gb420)); have n11_ := Aside0.mk ((by rw [hg]; exact Nat.ne_of_gt (blk_lt (g := gb373) (o := .cells #[.bool t365, .int .i64 t366, .int .i64 t367, .int .i64 t368, .int .i64 t369, .int .i64 t370, .int .i64 t371] 44 (0, 0)) (kX BK373.out)) : gb420 ≠ gb373)); have n12_ := Aside0.mk ((by rw [hg]; exact Nat.ne_of_lt (blk_lt (g := gb411) (o := .cells #[.bool t403, .int .i64 t404, .int .i64 t405, .int .i64 t406, .int .i64 t407, .int .i64 t408, .int .i64 t409] 44 (0, 0)) (kX BK411.out)) : gb411 ≠ gb420)); have n13_ := Aside0.mk ((by rw [hg]; exact Nat.ne_of_gt (blk_lt (g := gb411) (o := .cells #[.bool t403, .int .i64 t404, .int .i64 t405, .int .i64 t406, .int .i64 t407, .int .i64 t408, .int .i64 t409] 44 (0, 0)) (kX BK411.out)) : gb420 ≠ gb411)); clear HO_5; clear HO_6; clear HO_16; clear HO_18; clear BK373; clear BK411; clear HB; have HO_5 := n0_; have HO_6 := n1_; have HO_16 := n2_; have HO_18 := n3_; have BK373 := n4_; have BK411 := n5_; have HB := n6_; have BK420 := n7_; have GW420 := n8_; have GE420 := n9_; have NB373_420 := n10_; have NB420_373 := n11_; have NB411_420 := n12_; have NB420_411 := n13_; clear n0_ n1_ n2_ n3_ n4_ n5_ n6_ n7_ n8_ n9_ n10_ n11_ n12_ n13_; clear hb hbox hg; have hnb103 := NB420_373.out; have hnc103 := NB373_420.out; have hnb104 := NB420_411.out; have hnc104 := NB411_420.out; have hcz105_0 : w102.cell? ⟨gb420, 0, none⟩ = some (.bool false) := (blk_cell BK420.out 0).trans rfl; have hcz105_1 : w102.cell? ⟨gb420, 1, none⟩ = some (.int .i64 0) := (blk_cell BK420.out 1).trans rfl; have hcz105_2 : w102.cell? ⟨gb420, 2, none⟩ = some (.int .i64 0) := (blk_cell BK420.out 2).trans rfl; have hcz105_3 : w102.cell? ⟨gb420, 3, none⟩ = some (.int .i64 0) := (blk_cell BK420.out 3).trans rfl; have hcz105_4 : w102.cell? ⟨gb420, 4, none⟩ = some (.int .i64 0) := (blk_cell BK420.out 4).trans rfl; have hcz105_5 : w102.cell? ⟨gb420, 5, none⟩ = some (.int .i64 0) := (blk_cell BK420.out 5).trans rfl; have hcz105_6 : w102.cell? ⟨gb420, 6, none⟩ = some (.int .i64 0) := (blk_cell BK420.out 6).trans rfl; have hfz105_0 := blk_frozen BK420.out 0; have hfz105_1 := blk_frozen BK420.out 1; have hfz105_2 := blk_frozen BK420.out 2; have hfz105_3 := blk_frozen BK420.out 3; have hfz105_4 := blk_frozen BK420.out 4; have hfz105_5 := blk_frozen BK420.out 5; have hfz105_6 := blk_frozen BK420.out 6; have hcz106_0 : w102.cell? ⟨gb411, 0, none⟩ = some (.bool t403) := (blk_cell BK411.out 0).trans rfl; have hcz106_1 : w102.cell? ⟨gb411, 1, none⟩ = some (.int .i64 t404) := (blk_cell BK411.out 1).trans rfl; have hcz106_2 : w102.cell? ⟨gb411, 2, none⟩ = some (.int .i64 t405) := (blk_cell BK411.out 2).trans rfl; have hcz106_3 : w102.cell? ⟨gb411, 3, none⟩ = some (.int .i64 t406) := (blk_cell BK411.out 3).trans rfl; have hcz106_4 : w102.cell? ⟨gb411, 4, none⟩ = some (.int .i64 t407) := (blk_cell BK411.out 4).trans rfl; have hcz106_5 : w102.cell? ⟨gb411, 5, none⟩ = some (.int .i64 t408) := (blk_cell BK411.out 5).trans rfl; have hcz106_6 : w102.cell? ⟨gb411, 6, none⟩ = some (.int .i64 t409) := (blk_cell BK411.out 6).trans rfl; have hfz106_0 := blk_frozen BK411.out 0; have hfz106_1 := blk_frozen BK411.out 1; have hfz106_2 := blk_frozen BK411.out 2; have hfz106_3 := blk_frozen BK411.out 3; have hfz106_4 := blk_frozen BK411.out 4; have hfz106_5 := blk_frozen BK411.out 5; have hfz106_6 := blk_frozen BK411.out 6))
                    go_ret
                    exact ⟨by first | rfl | (simp [errW_none, errW_some] <;> rfl) | (simp [*, errW_none, errW_some] <;> rfl), by repeat (first | (with_reducible first | exact HB.out | apply lA | apply lN | apply lD | refine lS ?_ GE373.out | refine lS ?_ GE411.out | refine lS ?_ GE420.out) | exact HB.out)⟩
                  ·rw [if_neg c79] at H
                   have c79b0 : (t419 == 0) = false := beq_eq_false_iff_ne.mpr c79
                   have c79b1 : (t419 != 0) = true := bne_iff_ne.mpr c79
                   obtain rfl := Option.some.inj H
                   go_wp2_with (first | ((with_reducible refine gate_callee (f := 37) rfl ?_); refine goesL_ (some 128) rfl rfl Try.func37 (by kernel_rfl) rfl #[.slice (some ad358) t349.length co12, .slice Ao62 t352.length co62] rfl (by (try simp only [List.map_toArray, List.map_cons, List.map_nil]); first | done | rfl | (simp only [List.length_drop, List.length_take]; rfl)) ?_; (with_reducible refine (plane_Separate.calls kj59 _ _ t349 _ _ t352 t403 t404 t405 t406 t407 t408 t409 t410 _ ?side1 ?side2 ?side3 ?side4 A76.out).mono ?_); (case side1 => repeat (first | exact (Kd.R_reads' HO_5.out).2.2 | (with_reducible refine Kd.C_alloc ?_ _) | (with_reducible refine Kd.C_drewN ?_ _) | (with_reducible refine Kd.C_drew ?_))); (case side2 => exact (Kd.R_reads' HO_5.out).2.1); (case side3 => repeat (first | exact (Kd.R_reads' HO_6.out).2.2 | (with_reducible refine Kd.C_alloc ?_ _) | (with_reducible refine Kd.C_drewN ?_ _) | (with_reducible refine Kd.C_drew ?_))); (case side4 => exact (Kd.R_reads' HO_6.out).2.1); rintro e w107 ⟨rfl, hb⟩; refine ⟨_, rfl, ?_⟩; have n0_ := Aside0.mk (Kd.R_below (rX HO_5.out) hb); have n1_ := Aside0.mk (Kd.R_below (rX HO_6.out) hb); have n2_ := Aside0.mk (Kd.R_below (rX HO_16.out) hb); have n3_ := Aside0.mk (Kd.R_below (rX HO_18.out) hb); have n4_ := Aside0.mk (blk_below (g := gb373) (o := .cells #[.bool t365, .int .i64 t366, .int .i64 t367, .int .i64 t368, .int .i64 t369, .int .i64 t370, .int .i64 t371] 44 (0, 0)) (kX BK373.out) hb); have n5_ := Aside0.mk (below_step (by repeat (first | (with_reducible first | exact HB.out | apply lA | apply lN | apply lD | refine lS ?_ GE373.out) | exact HB.out)) hb); clear HO_5; clear HO_6; clear HO_16; clear HO_18; clear BK373; clear HB; have HO_5 := n0_; have HO_6 := n1_; have HO_16 := n2_; have HO_18 := n3_; have BK373 := n4_; have HB := n5_; clear n0_ n1_ n2_ n3_ n4_ n5_; (try clear hb); (try clear hb2); (try clear hk); (try clear hi)) | ((with_reducible refine gate_dst (N := 20) rfl ?_); refine box_event ?hg (N := 20) ?hd (cs := #[.bool false, .int .i64 0, .int .i64 0, .int .i64 0, .int .i64 0, .int .i64 0, .int .i64 0]) (t := 44) ?hr ?_; (case hd => rfl); (case hg => rfl); (case hr => first | (go_simp; done) | (go_simp; rfl)); intro gb411 hg w108 hbox hb; have n0_ := Aside0.mk (Kd.R_below (rX HO_5.out) hb); have n1_ := Aside0.mk (Kd.R_below (rX HO_6.out) hb); have n2_ := Aside0.mk (Kd.R_below (rX HO_16.out) hb); have n3_ := Aside0.mk (Kd.R_below (rX HO_18.out) hb); have n4_ := Aside0.mk (blk_below (g := gb373) (o := .cells #[.bool t365, .int .i64 t366, .int .i64 t367, .int .i64 t368, .int .i64 t369, .int .i64 t370, .int .i64 t371] 44 (0, 0)) (kX BK373.out) hb); have n5_ := Aside0.mk (below_step (by repeat (first | (with_reducible first | exact HB.out | apply lA | apply lN | apply lD | refine lS ?_ GE373.out) | exact HB.out)) hb); have n6_ := Aside0.mk (hbox); have n7_ := Aside0.mk ((by rw [hg]; exact (below_size (by repeat (first | (with_reducible first | exact HB.out | apply lA | apply lN | apply lD | refine lS ?_ GE373.out) | exact HB.out))) : w.heap.size ≤ gb411)); have n8_ := Aside0.mk ((by rw [hg]; exact (below_size (by repeat (first | (with_reducible first | exact HB.out | apply lA | apply lN | apply lD | refine lS ?_ GE373.out) | exact HB.out))) : w.heap.size ≤ gb411)); have n9_ := Aside0.mk ((by rw [hg]; exact Nat.ne_of_lt (blk_lt (g := gb373) (o := .cells #[.bool t365, .int .i64 t366, .int .i64 t367, .int .i64 t368, .int .i64 t369, .int .i64 t370, .int .i64 t371] 44 (0, 0)) (kX BK373.out)) : gb373 ≠ gb411)); have n10_ := Aside0.mk ((by rw [hg]; exact Nat.ne_of_gt (blk_lt (g := gb373) (o := .cells #[.bool t365, .int .i64 t366, .int .i64 t367, .int .i64 t368, .int .i64 t369, .int .i64 t370, .int .i64 t371] 44 (0, 0)) (kX BK373.out)) : gb411 ≠ gb373)); clear HO_5; clear HO_6; clear HO_16; clear HO_18; clear BK373; clear HB; have HO_5 := n0_; have HO_6 := n1_; have HO_16 := n2_; have HO_18 := n3_; have BK373 := n4_; have HB := n5_; have BK411 := n6_; have GW411 := n7_; have GE411 := n8_; have NB373_411 := n9_; have NB411_373 := n10_; clear n0_ n1_ n2_ n3_ n4_ n5_ n6_ n7_ n8_ n9_ n10_; clear hb hbox hg; have hnb109 := NB411_373.out; have hnc109 := NB373_411.out; have hcz110_0 : w108.cell? ⟨gb411, 0, none⟩ = some (.bool false) := (blk_cell BK411.out 0).trans rfl; have hcz110_1 : w108.cell? ⟨gb411, 1, none⟩ = some (.int .i64 0) := (blk_cell BK411.out 1).trans rfl; have hcz110_2 : w108.cell? ⟨gb411, 2, none⟩ = some (.int .i64 0) := (blk_cell BK411.out 2).trans rfl; have hcz110_3 : w108.cell? ⟨gb411, 3, none⟩ = some (.int .i64 0) := (blk_cell BK411.out 3).trans rfl; have hcz110_4 : w108.cell? ⟨gb411, 4, none⟩ = some (.int .i64 0) := (blk_cell BK411.out 4).trans rfl; have hcz110_5 : w108.cell? ⟨gb411, 5, none⟩ = some (.int .i64 0) := (blk_cell BK411.out 5).trans rfl; have hcz110_6 : w108.cell? ⟨gb411, 6, none⟩ = some (.int .i64 0) := (blk_cell BK411.out 6).trans rfl; have hfz110_0 := blk_frozen BK411.out 0; have hfz110_1 := blk_frozen BK411.out 1; have hfz110_2 := blk_frozen BK411.out 2; have hfz110_3 := blk_frozen BK411.out 3; have hfz110_4 := blk_frozen BK411.out 4; have hfz110_5 := blk_frozen BK411.out 5; have hfz110_6 := blk_frozen BK411.out 6; obtain ⟨Ao111, co111, eo111⟩ := Kd.R_slice HO_16.out; subst eo111; obtain ⟨Ao112, co112, eo112⟩ := Kd.R_slice HO_18.out; subst eo112) | ((with_reducible refine gate_callee (f := 37) rfl ?_); refine goesL_ (some 134) rfl rfl Try.func37 (by kernel_rfl) rfl #[.slice Ao111 t393.length co111, .slice Ao112 t397.length co112] rfl (by (try simp only [List.map_toArray, List.map_cons, List.map_nil]); first | done | rfl | (simp only [List.length_drop, List.length_take]; rfl)) ?_; (with_reducible refine (plane_Separate.calls kj59 _ _ t393 _ _ t397 t412 t413 t414 t415 t416 t417 t418 t419 _ ?side1 ?side2 ?side3 ?side4 A77.out).mono ?_); (case side1 => refine (Kd.R_reads' (e := 31) (base := w.heap.size) (ok := fun k_ => (some k_ ≠ (.slice (some ad358) t349.length co12 : Value).ownBlock ∧ (some k_ ≠ (.slice Ao62 t352.length co62 : Value).ownBlock ∧ some k_ ≠ (.slice Ao112 t397.length co112 : Value).ownBlock))) (n := t393.length) (c := co111) ?_).2.2; exact (rX (Kd.R_mono (Kd.R_far (p := ⟨gb411, 6, none⟩) (Kd.R_far (p := ⟨gb411, 5, none⟩) (Kd.R_far (p := ⟨gb411, 4, none⟩) (Kd.R_far (p := ⟨gb411, 3, none⟩) (Kd.R_far (p := ⟨gb411, 2, none⟩) (Kd.R_far (p := ⟨gb411, 1, none⟩) (Kd.R_far (p := ⟨gb411, 0, none⟩) (Kd.R_types HO_16.out BK411.out (by decide)) (fun _ hk => hk.2) (.bool t403)) (fun _ hk => hk.2) (.int .i64 t404)) (fun _ hk => hk.2) (.int .i64 t405)) (fun _ hk => hk.2) (.int .i64 t406)) (fun _ hk => hk.2) (.int .i64 t407)) (fun _ hk => hk.2) (.int .i64 t408)) (fun _ hk => hk.2) (.int .i64 t409)) (fun _ h_ => h_.1)))); (case side2 => exact (Kd.R_reads' HO_16.out).2.1); (case side3 => refine (Kd.R_reads' (e := 31) (base := w.heap.size) (ok := fun k_ => (some k_ ≠ (.slice (some ad358) t349.length co12 : Value).ownBlock ∧ (some k_ ≠ (.slice Ao62 t352.length co62 : Value).ownBlock ∧ some k_ ≠ (.slice Ao111 t393.length co111 : Value).ownBlock))) (n := t397.length) (c := co112) ?_).2.2; exact (rX (Kd.R_mono (Kd.R_far (p := ⟨gb411, 6, none⟩) (Kd.R_far (p := ⟨gb411, 5, none⟩) (Kd.R_far (p := ⟨gb411, 4, none⟩) (Kd.R_far (p := ⟨gb411, 3, none⟩) (Kd.R_far (p := ⟨gb411, 2, none⟩) (Kd.R_far (p := ⟨gb411, 1, none⟩) (Kd.R_far (p := ⟨gb411, 0, none⟩) (Kd.R_types HO_18.out BK411.out (by decide)) (fun _ hk => hk.2) (.bool t403)) (fun _ hk => hk.2) (.int .i64 t404)) (fun _ hk => hk.2) (.int .i64 t405)) (fun _ hk => hk.2) (.int .i64 t406)) (fun _ hk => hk.2) (.int .i64 t407)) (fun _ hk => hk.2) (.int .i64 t408)) (fun _ hk => hk.2) (.int .i64 t409)) (fun _ h_ => h_.1)))); (case side4 => exact (Kd.R_reads' HO_18.out).2.1); rintro e w113 ⟨rfl, hb⟩; refine ⟨_, rfl, ?_⟩; have n0_ := Aside0.mk (Kd.R_below (rX (Kd.R_mono (Kd.R_far (p := ⟨gb411, 6, none⟩) (Kd.R_far (p := ⟨gb411, 5, none⟩) (Kd.R_far (p := ⟨gb411, 4, none⟩) (Kd.R_far (p := ⟨gb411, 3, none⟩) (Kd.R_far (p := ⟨gb411, 2, none⟩) (Kd.R_far (p := ⟨gb411, 1, none⟩) (Kd.R_far (p := ⟨gb411, 0, none⟩) (Kd.R_types HO_5.out BK411.out (by decide)) (fun _ hk => hk.2) (.bool t403)) (fun _ hk => hk.2) (.int .i64 t404)) (fun _ hk => hk.2) (.int .i64 t405)) (fun _ hk => hk.2) (.int .i64 t406)) (fun _ hk => hk.2) (.int .i64 t407)) (fun _ hk => hk.2) (.int .i64 t408)) (fun _ hk => hk.2) (.int .i64 t409)) (fun _ h_ => h_.1))) hb); have n1_ := Aside0.mk (Kd.R_below (rX (Kd.R_mono (Kd.R_far (p := ⟨gb411, 6, none⟩) (Kd.R_far (p := ⟨gb411, 5, none⟩) (Kd.R_far (p := ⟨gb411, 4, none⟩) (Kd.R_far (p := ⟨gb411, 3, none⟩) (Kd.R_far (p := ⟨gb411, 2, none⟩) (Kd.R_far (p := ⟨gb411, 1, none⟩) (Kd.R_far (p := ⟨gb411, 0, none⟩) (Kd.R_types HO_6.out BK411.out (by decide)) (fun _ hk => hk.2) (.bool t403)) (fun _ hk => hk.2) (.int .i64 t404)) (fun _ hk => hk.2) (.int .i64 t405)) (fun _ hk => hk.2) (.int .i64 t406)) (fun _ hk => hk.2) (.int .i64 t407)) (fun _ hk => hk.2) (.int .i64 t408)) (fun _ hk => hk.2) (.int .i64 t409)) (fun _ h_ => h_.1))) hb); have n2_ := Aside0.mk (Kd.R_below (rX (Kd.R_mono (Kd.R_far (p := ⟨gb411, 6, none⟩) (Kd.R_far (p := ⟨gb411, 5, none⟩) (Kd.R_far (p := ⟨gb411, 4, none⟩) (Kd.R_far (p := ⟨gb411, 3, none⟩) (Kd.R_far (p := ⟨gb411, 2, none⟩) (Kd.R_far (p := ⟨gb411, 1, none⟩) (Kd.R_far (p := ⟨gb411, 0, none⟩) (Kd.R_types HO_16.out BK411.out (by decide)) (fun _ hk => hk.2) (.bool t403)) (fun _ hk => hk.2) (.int .i64 t404)) (fun _ hk => hk.2) (.int .i64 t405)) (fun _ hk => hk.2) (.int .i64 t406)) (fun _ hk => hk.2) (.int .i64 t407)) (fun _ hk => hk.2) (.int .i64 t408)) (fun _ hk => hk.2) (.int .i64 t409)) (fun _ h_ => h_.1))) hb); have n3_ := Aside0.mk (Kd.R_below (rX (Kd.R_mono (Kd.R_far (p := ⟨gb411, 6, none⟩) (Kd.R_far (p := ⟨gb411, 5, none⟩) (Kd.R_far (p := ⟨gb411, 4, none⟩) (Kd.R_far (p := ⟨gb411, 3, none⟩) (Kd.R_far (p := ⟨gb411, 2, none⟩) (Kd.R_far (p := ⟨gb411, 1, none⟩) (Kd.R_far (p := ⟨gb411, 0, none⟩) (Kd.R_types HO_18.out BK411.out (by decide)) (fun _ hk => hk.2) (.bool t403)) (fun _ hk => hk.2) (.int .i64 t404)) (fun _ hk => hk.2) (.int .i64 t405)) (fun _ hk => hk.2) (.int .i64 t406)) (fun _ hk => hk.2) (.int .i64 t407)) (fun _ hk => hk.2) (.int .i64 t408)) (fun _ hk => hk.2) (.int .i64 t409)) (fun _ h_ => h_.1))) hb); have n4_ := Aside0.mk (blk_below (g := gb373) (o := .cells #[.bool t365, .int .i64 t366, .int .i64 t367, .int .i64 t368, .int .i64 t369, .int .i64 t370, .int .i64 t371] 44 (0, 0)) (by (with_reducible repeat (first | refine kN ?_ _ | refine kD ?_ | refine kA ?_ _)); refine blk_far ?_ NB373_411.out _; (with_reducible repeat (first | refine kN ?_ _ | refine kD ?_ | refine kA ?_ _)); refine blk_far ?_ NB373_411.out _; (with_reducible repeat (first | refine kN ?_ _ | refine kD ?_ | refine kA ?_ _)); refine blk_far ?_ NB373_411.out _; (with_reducible repeat (first | refine kN ?_ _ | refine kD ?_ | refine kA ?_ _)); refine blk_far ?_ NB373_411.out _; (with_reducible repeat (first | refine kN ?_ _ | refine kD ?_ | refine kA ?_ _)); refine blk_far ?_ NB373_411.out _; (with_reducible repeat (first | refine kN ?_ _ | refine kD ?_ | refine kA ?_ _)); refine blk_far ?_ NB373_411.out _; (with_reducible repeat (first | refine kN ?_ _ | refine kD ?_ | refine kA ?_ _)); refine blk_far ?_ NB373_411.out _; (with_reducible repeat (first | refine kN ?_ _ | refine kD ?_ | refine kA ?_ _)); exact BK373.out) hb); have n5_ := Aside0.mk (blk_below (g := gb411) (o := .cells #[.bool t403, .int .i64 t404, .int .i64 t405, .int .i64 t406, .int .i64 t407, .int .i64 t408, .int .i64 t409] 44 (0, 0)) (by (with_reducible repeat (first | refine kN ?_ _ | refine kD ?_ | refine kA ?_ _)); refine blk_put (cs := #[.bool t403, .int .i64 t404, .int .i64 t405, .int .i64 t406, .int .i64 t407, .int .i64 t408, .int .i64 0]) ?_ 6 _ rfl; (with_reducible repeat (first | refine kN ?_ _ | refine kD ?_ | refine kA ?_ _)); refine blk_put (cs := #[.bool t403, .int .i64 t404, .int .i64 t405, .int .i64 t406, .int .i64 t407, .int .i64 0, .int .i64 0]) ?_ 5 _ rfl; (with_reducible repeat (first | refine kN ?_ _ | refine kD ?_ | refine kA ?_ _)); refine blk_put (cs := #[.bool t403, .int .i64 t404, .int .i64 t405, .int .i64 t406, .int .i64 0, .int .i64 0, .int .i64 0]) ?_ 4 _ rfl; (with_reducible repeat (first | refine kN ?_ _ | refine kD ?_ | refine kA ?_ _)); refine blk_put (cs := #[.bool t403, .int .i64 t404, .int .i64 t405, .int .i64 0, .int .i64 0, .int .i64 0, .int .i64 0]) ?_ 3 _ rfl; (with_reducible repeat (first | refine kN ?_ _ | refine kD ?_ | refine kA ?_ _)); refine blk_put (cs := #[.bool t403, .int .i64 t404, .int .i64 0, .int .i64 0, .int .i64 0, .int .i64 0, .int .i64 0]) ?_ 2 _ rfl; (with_reducible repeat (first | refine kN ?_ _ | refine kD ?_ | refine kA ?_ _)); refine blk_put (cs := #[.bool t403, .int .i64 0, .int .i64 0, .int .i64 0, .int .i64 0, .int .i64 0, .int .i64 0]) ?_ 1 _ rfl; (with_reducible repeat (first | refine kN ?_ _ | refine kD ?_ | refine kA ?_ _)); refine blk_put (cs := #[.bool false, .int .i64 0, .int .i64 0, .int .i64 0, .int .i64 0, .int .i64 0, .int .i64 0]) ?_ 0 _ rfl; (with_reducible repeat (first | refine kN ?_ _ | refine kD ?_ | refine kA ?_ _)); exact BK411.out) hb); have n6_ := Aside0.mk (below_step (by repeat (first | (with_reducible first | exact HB.out | apply lA | apply lN | apply lD | refine lS ?_ GE373.out | refine lS ?_ GE411.out) | exact HB.out)) hb); clear HO_5; clear HO_6; clear HO_16; clear HO_18; clear BK373; clear BK411; clear HB; have HO_5 := n0_; have HO_6 := n1_; have HO_16 := n2_; have HO_18 := n3_; have BK373 := n4_; have BK411 := n5_; have HB := n6_; clear n0_ n1_ n2_ n3_ n4_ n5_ n6_; (try clear hb); (try clear hb2); (try clear hk); (try clear hi)) | ((with_reducible refine gate_dst (N := 22) rfl ?_); refine box_event ?hg (N := 22) ?hd (cs := #[.bool false, .int .i64 0, .int .i64 0, .int .i64 0, .int .i64 0, .int .i64 0, .int .i64 0]) (t := 44) ?hr ?_; (case hd => rfl); (case hg => rfl); (case hr => first | (go_simp; done) | (go_simp; rfl)); intro gb420 hg w114 hbox hb; have n0_ := Aside0.mk (Kd.R_below (rX HO_5.out) hb); have n1_ := Aside0.mk (Kd.R_below (rX HO_6.out) hb); have n2_ := Aside0.mk (Kd.R_below (rX HO_16.out) hb); have n3_ := Aside0.mk (Kd.R_below (rX HO_18.out) hb); have n4_ := Aside0.mk (blk_below (g := gb373) (o := .cells #[.bool t365, .int .i64 t366, .int .i64 t367, .int .i64 t368, .int .i64 t369, .int .i64 t370, .int .i64 t371] 44 (0, 0)) (kX BK373.out) hb); have n5_ := Aside0.mk (blk_below (g := gb411) (o := .cells #[.bool t403, .int .i64 t404, .int .i64 t405, .int .i64 t406, .int .i64 t407, .int .i64 t408, .int .i64 t409] 44 (0, 0)) (kX BK411.out) hb); have n6_ := Aside0.mk (below_step (by repeat (first | (with_reducible first | exact HB.out | apply lA | apply lN | apply lD | refine lS ?_ GE373.out | refine lS ?_ GE411.out) | exact HB.out)) hb); have n7_ := Aside0.mk (hbox); have n8_ := Aside0.mk ((by rw [hg]; exact (below_size (by repeat (first | (with_reducible first | exact HB.out | apply lA | apply lN | apply lD | refine lS ?_ GE373.out | refine lS ?_ GE411.out) | exact HB.out))) : w.heap.size ≤ gb420)); have n9_ := Aside0.mk ((by rw [hg]; exact (below_size (by repeat (first | (with_reducible first | exact HB.out | apply lA | apply lN | apply lD | refine lS ?_ GE373.out | refine lS ?_ GE411.out) | exact HB.out))) : w.heap.size ≤ gb420)); have n10_ := Aside0.mk ((by rw [hg]; exact Nat.ne_of_lt (blk_lt (g := gb373) (o := .cells #[.bool t365, .int .i64 t366, .int .i64 t367, .int .i64 t368, .int .i64 t369, .int .i64 t370, .int .i64 t371] 44 (0, 0)) (kX BK373.out)) : gb373 ≠ gb420)); have n11_ := Aside0.mk ((by rw [hg]; exact Nat.ne_of_gt (blk_lt (g := gb373) (o := .cells #[.bool t365, .int .i64 t366, .int .i64 t367, .int .i64 t368, .int .i64 t369, .int .i64 t370, .int .i64 t371] 44 (0, 0)) (kX BK373.out)) : gb420 ≠ gb373)); have n12_ := Aside0.mk ((by rw [hg]; exact Nat.ne_of_lt (blk_lt (g := gb411) (o := .cells #[.bool t403, .int .i64 t404, .int .i64 t405, .int .i64 t406, .int .i64 t407, .int .i64 t408, .int .i64 t409] 44 (0, 0)) (kX BK411.out)) : gb411 ≠ gb420)); have n13_ := Aside0.mk ((by rw [hg]; exact Nat.ne_of_gt (blk_lt (g := gb411) (o := .cells #[.bool t403, .int .i64 t404, .int .i64 t405, .int .i64 t406, .int .i64 t407, .int .i64 t408, .int .i64 t409] 44 (0, 0)) (kX BK411.out)) : gb420 ≠ gb411)); clear HO_5; clear HO_6; clear HO_16; clear HO_18; clear BK373; clear BK411; clear HB; have HO_5 := n0_; have HO_6 := n1_; have HO_16 := n2_; have HO_18 := n3_; have BK373 := n4_; have BK411 := n5_; have HB := n6_; have BK420 := n7_; have GW420 := n8_; have GE420 := n9_; have NB373_420 := n10_; have NB420_373 := n11_; have NB411_420 := n12_; have NB420_411 := n13_; clear n0_ n1_ n2_ n3_ n4_ n5_ n6_ n7_ n8_ n9_ n10_ n11_ n12_ n13_; clear hb hbox hg; have hnb115 := NB420_373.out; have hnc115 := NB373_420.out; have hnb116 := NB420_411.out; have hnc116 := NB411_420.out; have hcz117_0 : w114.cell? ⟨gb420, 0, none⟩ = some (.bool false) := (blk_cell BK420.out 0).trans rfl; have hcz117_1 : w114.cell? ⟨gb420, 1, none⟩ = some (.int .i64 0) := (blk_cell BK420.out 1).trans rfl; have hcz117_2 : w114.cell? ⟨gb420, 2, none⟩ = some (.int .i64 0) := (blk_cell BK420.out 2).trans rfl; have hcz117_3 : w114.cell? ⟨gb420, 3, none⟩ = some (.int .i64 0) := (blk_cell BK420.out 3).trans rfl; have hcz117_4 : w114.cell? ⟨gb420, 4, none⟩ = some (.int .i64 0) := (blk_cell BK420.out 4).trans rfl; have hcz117_5 : w114.cell? ⟨gb420, 5, none⟩ = some (.int .i64 0) := (blk_cell BK420.out 5).trans rfl; have hcz117_6 : w114.cell? ⟨gb420, 6, none⟩ = some (.int .i64 0) := (blk_cell BK420.out 6).trans rfl; have hfz117_0 := blk_frozen BK420.out 0; have hfz117_1 := blk_frozen BK420.out 1; have hfz117_2 := blk_frozen BK420.out 2; have hfz117_3 := blk_frozen BK420.out 3; have hfz117_4 := blk_frozen BK420.out 4; have hfz117_5 := blk_frozen BK420.out 5; have hfz117_6 := blk_frozen BK420.out 6))
                   go_ret
                   exact ⟨by first | rfl | (simp [errW_none, errW_some] <;> rfl) | (simp [*, errW_none, errW_some] <;> rfl), by repeat (first | (with_reducible first | exact HB.out | apply lA | apply lN | apply lD | refine lS ?_ GE373.out | refine lS ?_ GE411.out | refine lS ?_ GE420.out) | exact HB.out)⟩
                 ·rw [if_neg c78] at H
                  have c78b0 : (t410 == 0) = false := beq_eq_false_iff_ne.mpr c78
                  have c78b1 : (t410 != 0) = true := bne_iff_ne.mpr c78
                  obtain rfl := Option.some.inj H
                  go_wp2_with (first | ((with_reducible refine gate_callee (f := 37) rfl ?_); refine goesL_ (some 128) rfl rfl Try.func37 (by kernel_rfl) rfl #[.slice (some ad358) t349.length co12, .slice Ao62 t352.length co62] rfl (by (try simp only [List.map_toArray, List.map_cons, List.map_nil]); first | done | rfl | (simp only [List.length_drop, List.length_take]; rfl)) ?_; (with_reducible refine (plane_Separate.calls kj59 _ _ t349 _ _ t352 t403 t404 t405 t406 t407 t408 t409 t410 _ ?side1 ?side2 ?side3 ?side4 A76.out).mono ?_); (case side1 => repeat (first | exact (Kd.R_reads' HO_5.out).2.2 | (with_reducible refine Kd.C_alloc ?_ _) | (with_reducible refine Kd.C_drewN ?_ _) | (with_reducible refine Kd.C_drew ?_))); (case side2 => exact (Kd.R_reads' HO_5.out).2.1); (case side3 => repeat (first | exact (Kd.R_reads' HO_6.out).2.2 | (with_reducible refine Kd.C_alloc ?_ _) | (with_reducible refine Kd.C_drewN ?_ _) | (with_reducible refine Kd.C_drew ?_))); (case side4 => exact (Kd.R_reads' HO_6.out).2.1); rintro e w118 ⟨rfl, hb⟩; refine ⟨_, rfl, ?_⟩; have n0_ := Aside0.mk (Kd.R_below (rX HO_5.out) hb); have n1_ := Aside0.mk (Kd.R_below (rX HO_6.out) hb); have n2_ := Aside0.mk (Kd.R_below (rX HO_16.out) hb); have n3_ := Aside0.mk (Kd.R_below (rX HO_18.out) hb); have n4_ := Aside0.mk (blk_below (g := gb373) (o := .cells #[.bool t365, .int .i64 t366, .int .i64 t367, .int .i64 t368, .int .i64 t369, .int .i64 t370, .int .i64 t371] 44 (0, 0)) (kX BK373.out) hb); have n5_ := Aside0.mk (below_step (by repeat (first | (with_reducible first | exact HB.out | apply lA | apply lN | apply lD | refine lS ?_ GE373.out) | exact HB.out)) hb); clear HO_5; clear HO_6; clear HO_16; clear HO_18; clear BK373; clear HB; have HO_5 := n0_; have HO_6 := n1_; have HO_16 := n2_; have HO_18 := n3_; have BK373 := n4_; have HB := n5_; clear n0_ n1_ n2_ n3_ n4_ n5_; (try clear hb); (try clear hb2); (try clear hk); (try clear hi)) | ((with_reducible refine gate_dst (N := 20) rfl ?_); refine box_event ?hg (N := 20) ?hd (cs := #[.bool false, .int .i64 0, .int .i64 0, .int .i64 0, .int .i64 0, .int .i64 0, .int .i64 0]) (t := 44) ?hr ?_; (case hd => rfl); (case hg => rfl); (case hr => first | (go_simp; done) | (go_simp; rfl)); intro gb411 hg w119 hbox hb; have n0_ := Aside0.mk (Kd.R_below (rX HO_5.out) hb); have n1_ := Aside0.mk (Kd.R_below (rX HO_6.out) hb); have n2_ := Aside0.mk (Kd.R_below (rX HO_16.out) hb); have n3_ := Aside0.mk (Kd.R_below (rX HO_18.out) hb); have n4_ := Aside0.mk (blk_below (g := gb373) (o := .cells #[.bool t365, .int .i64 t366, .int .i64 t367, .int .i64 t368, .int .i64 t369, .int .i64 t370, .int .i64 t371] 44 (0, 0)) (kX BK373.out) hb); have n5_ := Aside0.mk (below_step (by repeat (first | (with_reducible first | exact HB.out | apply lA | apply lN | apply lD | refine lS ?_ GE373.out) | exact HB.out)) hb); have n6_ := Aside0.mk (hbox); have n7_ := Aside0.mk ((by rw [hg]; exact (below_size (by repeat (first | (with_reducible first | exact HB.out | apply lA | apply lN | apply lD | refine lS ?_ GE373.out) | exact HB.out))) : w.heap.size ≤ gb411)); have n8_ := Aside0.mk ((by rw [hg]; exact (below_size (by repeat (first | (with_reducible first | exact HB.out | apply lA | apply lN | apply lD | refine lS ?_ GE373.out) | exact HB.out))) : w.heap.size ≤ gb411)); have n9_ := Aside0.mk ((by rw [hg]; exact Nat.ne_of_lt (blk_lt (g := gb373) (o := .cells #[.bool t365, .int .i64 t366, .int .i64 t367, .int .i64 t368, .int .i64 t369, .int .i64 t370, .int .i64 t371] 44 (0, 0)) (kX BK373.out)) : gb373 ≠ gb411)); have n10_ := Aside0.mk ((by rw [hg]; exact Nat.ne_of_gt (blk_lt (g := gb373) (o := .cells #[.bool t365, .int .i64 t366, .int .i64 t367, .int .i64 t368, .int .i64 t369, .int .i64 t370, .int .i64 t371] 44 (0, 0)) (kX BK373.out)) : gb411 ≠ gb373)); clear HO_5; clear HO_6; clear HO_16; clear HO_18; clear BK373; clear HB; have HO_5 := n0_; have HO_6 := n1_; have HO_16 := n2_; have HO_18 := n3_; have BK373 := n4_; have HB := n5_; have BK411 := n6_; have GW411 := n7_; have GE411 := n8_; have NB373_411 := n9_; have NB411_373 := n10_; clear n0_ n1_ n2_ n3_ n4_ n5_ n6_ n7_ n8_ n9_ n10_; clear hb hbox hg; have hnb120 := NB411_373.out; have hnc120 := NB373_411.out; have hcz121_0 : w119.cell? ⟨gb411, 0, none⟩ = some (.bool false) := (blk_cell BK411.out 0).trans rfl; have hcz121_1 : w119.cell? ⟨gb411, 1, none⟩ = some (.int .i64 0) := (blk_cell BK411.out 1).trans rfl; have hcz121_2 : w119.cell? ⟨gb411, 2, none⟩ = some (.int .i64 0) := (blk_cell BK411.out 2).trans rfl; have hcz121_3 : w119.cell? ⟨gb411, 3, none⟩ = some (.int .i64 0) := (blk_cell BK411.out 3).trans rfl; have hcz121_4 : w119.cell? ⟨gb411, 4, none⟩ = some (.int .i64 0) := (blk_cell BK411.out 4).trans rfl; have hcz121_5 : w119.cell? ⟨gb411, 5, none⟩ = some (.int .i64 0) := (blk_cell BK411.out 5).trans rfl; have hcz121_6 : w119.cell? ⟨gb411, 6, none⟩ = some (.int .i64 0) := (blk_cell BK411.out 6).trans rfl; have hfz121_0 := blk_frozen BK411.out 0; have hfz121_1 := blk_frozen BK411.out 1; have hfz121_2 := blk_frozen BK411.out 2; have hfz121_3 := blk_frozen BK411.out 3; have hfz121_4 := blk_frozen BK411.out 4; have hfz121_5 := blk_frozen BK411.out 5; have hfz121_6 := blk_frozen BK411.out 6; obtain ⟨Ao122, co122, eo122⟩ := Kd.R_slice HO_16.out; subst eo122; obtain ⟨Ao123, co123, eo123⟩ := Kd.R_slice HO_18.out; subst eo123) | ((with_reducible refine gate_callee (f := 37) rfl ?_); refine goesL_ (some 134) rfl rfl Try.func37 (by kernel_rfl) rfl #[.slice Ao122 t393.length co122, .slice Ao123 t397.length co123] rfl (by (try simp only [List.map_toArray, List.map_cons, List.map_nil]); first | done | rfl | (simp only [List.length_drop, List.length_take]; rfl)) ?_; (with_reducible refine (plane_Separate.calls kj59 _ _ t393 _ _ t397 t412 t413 t414 t415 t416 t417 t418 t419 _ ?side1 ?side2 ?side3 ?side4 A77.out).mono ?_); (case side1 => refine (Kd.R_reads' (e := 31) (base := w.heap.size) (ok := fun k_ => (some k_ ≠ (.slice (some ad358) t349.length co12 : Value).ownBlock ∧ (some k_ ≠ (.slice Ao62 t352.length co62 : Value).ownBlock ∧ some k_ ≠ (.slice Ao123 t397.length co123 : Value).ownBlock))) (n := t393.length) (c := co122) ?_).2.2; exact (rX (Kd.R_mono (Kd.R_far (p := ⟨gb411, 6, none⟩) (Kd.R_far (p := ⟨gb411, 5, none⟩) (Kd.R_far (p := ⟨gb411, 4, none⟩) (Kd.R_far (p := ⟨gb411, 3, none⟩) (Kd.R_far (p := ⟨gb411, 2, none⟩) (Kd.R_far (p := ⟨gb411, 1, none⟩) (Kd.R_far (p := ⟨gb411, 0, none⟩) (Kd.R_types HO_16.out BK411.out (by decide)) (fun _ hk => hk.2) (.bool t403)) (fun _ hk => hk.2) (.int .i64 t404)) (fun _ hk => hk.2) (.int .i64 t405)) (fun _ hk => hk.2) (.int .i64 t406)) (fun _ hk => hk.2) (.int .i64 t407)) (fun _ hk => hk.2) (.int .i64 t408)) (fun _ hk => hk.2) (.int .i64 t409)) (fun _ h_ => h_.1)))); (case side2 => exact (Kd.R_reads' HO_16.out).2.1); (case side3 => refine (Kd.R_reads' (e := 31) (base := w.heap.size) (ok := fun k_ => (some k_ ≠ (.slice (some ad358) t349.length co12 : Value).ownBlock ∧ (some k_ ≠ (.slice Ao62 t352.length co62 : Value).ownBlock ∧ some k_ ≠ (.slice Ao122 t393.length co122 : Value).ownBlock))) (n := t397.length) (c := co123) ?_).2.2; exact (rX (Kd.R_mono (Kd.R_far (p := ⟨gb411, 6, none⟩) (Kd.R_far (p := ⟨gb411, 5, none⟩) (Kd.R_far (p := ⟨gb411, 4, none⟩) (Kd.R_far (p := ⟨gb411, 3, none⟩) (Kd.R_far (p := ⟨gb411, 2, none⟩) (Kd.R_far (p := ⟨gb411, 1, none⟩) (Kd.R_far (p := ⟨gb411, 0, none⟩) (Kd.R_types HO_18.out BK411.out (by decide)) (fun _ hk => hk.2) (.bool t403)) (fun _ hk => hk.2) (.int .i64 t404)) (fun _ hk => hk.2) (.int .i64 t405)) (fun _ hk => hk.2) (.int .i64 t406)) (fun _ hk => hk.2) (.int .i64 t407)) (fun _ hk => hk.2) (.int .i64 t408)) (fun _ hk => hk.2) (.int .i64 t409)) (fun _ h_ => h_.1)))); (case side4 => exact (Kd.R_reads' HO_18.out).2.1); rintro e w124 ⟨rfl, hb⟩; refine ⟨_, rfl, ?_⟩; have n0_ := Aside0.mk (Kd.R_below (rX (Kd.R_mono (Kd.R_far (p := ⟨gb411, 6, none⟩) (Kd.R_far (p := ⟨gb411, 5, none⟩) (Kd.R_far (p := ⟨gb411, 4, none⟩) (Kd.R_far (p := ⟨gb411, 3, none⟩) (Kd.R_far (p := ⟨gb411, 2, none⟩) (Kd.R_far (p := ⟨gb411, 1, none⟩) (Kd.R_far (p := ⟨gb411, 0, none⟩) (Kd.R_types HO_5.out BK411.out (by decide)) (fun _ hk => hk.2) (.bool t403)) (fun _ hk => hk.2) (.int .i64 t404)) (fun _ hk => hk.2) (.int .i64 t405)) (fun _ hk => hk.2) (.int .i64 t406)) (fun _ hk => hk.2) (.int .i64 t407)) (fun _ hk => hk.2) (.int .i64 t408)) (fun _ hk => hk.2) (.int .i64 t409)) (fun _ h_ => h_.1))) hb); have n1_ := Aside0.mk (Kd.R_below (rX (Kd.R_mono (Kd.R_far (p := ⟨gb411, 6, none⟩) (Kd.R_far (p := ⟨gb411, 5, none⟩) (Kd.R_far (p := ⟨gb411, 4, none⟩) (Kd.R_far (p := ⟨gb411, 3, none⟩) (Kd.R_far (p := ⟨gb411, 2, none⟩) (Kd.R_far (p := ⟨gb411, 1, none⟩) (Kd.R_far (p := ⟨gb411, 0, none⟩) (Kd.R_types HO_6.out BK411.out (by decide)) (fun _ hk => hk.2) (.bool t403)) (fun _ hk => hk.2) (.int .i64 t404)) (fun _ hk => hk.2) (.int .i64 t405)) (fun _ hk => hk.2) (.int .i64 t406)) (fun _ hk => hk.2) (.int .i64 t407)) (fun _ hk => hk.2) (.int .i64 t408)) (fun _ hk => hk.2) (.int .i64 t409)) (fun _ h_ => h_.1))) hb); have n2_ := Aside0.mk (Kd.R_below (rX (Kd.R_mono (Kd.R_far (p := ⟨gb411, 6, none⟩) (Kd.R_far (p := ⟨gb411, 5, none⟩) (Kd.R_far (p := ⟨gb411, 4, none⟩) (Kd.R_far (p := ⟨gb411, 3, none⟩) (Kd.R_far (p := ⟨gb411, 2, none⟩) (Kd.R_far (p := ⟨gb411, 1, none⟩) (Kd.R_far (p := ⟨gb411, 0, none⟩) (Kd.R_types HO_16.out BK411.out (by decide)) (fun _ hk => hk.2) (.bool t403)) (fun _ hk => hk.2) (.int .i64 t404)) (fun _ hk => hk.2) (.int .i64 t405)) (fun _ hk => hk.2) (.int .i64 t406)) (fun _ hk => hk.2) (.int .i64 t407)) (fun _ hk => hk.2) (.int .i64 t408)) (fun _ hk => hk.2) (.int .i64 t409)) (fun _ h_ => h_.1))) hb); have n3_ := Aside0.mk (Kd.R_below (rX (Kd.R_mono (Kd.R_far (p := ⟨gb411, 6, none⟩) (Kd.R_far (p := ⟨gb411, 5, none⟩) (Kd.R_far (p := ⟨gb411, 4, none⟩) (Kd.R_far (p := ⟨gb411, 3, none⟩) (Kd.R_far (p := ⟨gb411, 2, none⟩) (Kd.R_far (p := ⟨gb411, 1, none⟩) (Kd.R_far (p := ⟨gb411, 0, none⟩) (Kd.R_types HO_18.out BK411.out (by decide)) (fun _ hk => hk.2) (.bool t403)) (fun _ hk => hk.2) (.int .i64 t404)) (fun _ hk => hk.2) (.int .i64 t405)) (fun _ hk => hk.2) (.int .i64 t406)) (fun _ hk => hk.2) (.int .i64 t407)) (fun _ hk => hk.2) (.int .i64 t408)) (fun _ hk => hk.2) (.int .i64 t409)) (fun _ h_ => h_.1))) hb); have n4_ := Aside0.mk (blk_below (g := gb373) (o := .cells #[.bool t365, .int .i64 t366, .int .i64 t367, .int .i64 t368, .int .i64 t369, .int .i64 t370, .int .i64 t371] 44 (0, 0)) (by (with_reducible repeat (first | refine kN ?_ _ | refine kD ?_ | refine kA ?_ _)); refine blk_far ?_ NB373_411.out _; (with_reducible repeat (first | refine kN ?_ _ | refine kD ?_ | refine kA ?_ _)); refine blk_far ?_ NB373_411.out _; (with_reducible repeat (first | refine kN ?_ _ | refine kD ?_ | refine kA ?_ _)); refine blk_far ?_ NB373_411.out _; (with_reducible repeat (first | refine kN ?_ _ | refine kD ?_ | refine kA ?_ _)); refine blk_far ?_ NB373_411.out _; (with_reducible repeat (first | refine kN ?_ _ | refine kD ?_ | refine kA ?_ _)); refine blk_far ?_ NB373_411.out _; (with_reducible repeat (first | refine kN ?_ _ | refine kD ?_ | refine kA ?_ _)); refine blk_far ?_ NB373_411.out _; (with_reducible repeat (first | refine kN ?_ _ | refine kD ?_ | refine kA ?_ _)); refine blk_far ?_ NB373_411.out _; (with_reducible repeat (first | refine kN ?_ _ | refine kD ?_ | refine kA ?_ _)); exact BK373.out) hb); have n5_ := Aside0.mk (blk_below (g := gb411) (o := .cells #[.bool t403, .int .i64 t404, .int .i64 t405, .int .i64 t406, .int .i64 t407, .int .i64 t408, .int .i64 t409] 44 (0, 0)) (by (with_reducible repeat (first | refine kN ?_ _ | refine kD ?_ | refine kA ?_ _)); refine blk_put (cs := #[.bool t403, .int .i64 t404, .int .i64 t405, .int .i64 t406, .int .i64 t407, .int .i64 t408, .int .i64 0]) ?_ 6 _ rfl; (with_reducible repeat (first | refine kN ?_ _ | refine kD ?_ | refine kA ?_ _)); refine blk_put (cs := #[.bool t403, .int .i64 t404, .int .i64 t405, .int .i64 t406, .int .i64 t407, .int .i64 0, .int .i64 0]) ?_ 5 _ rfl; (with_reducible repeat (first | refine kN ?_ _ | refine kD ?_ | refine kA ?_ _)); refine blk_put (cs := #[.bool t403, .int .i64 t404, .int .i64 t405, .int .i64 t406, .int .i64 0, .int .i64 0, .int .i64 0]) ?_ 4 _ rfl; (with_reducible repeat (first | refine kN ?_ _ | refine kD ?_ | refine kA ?_ _)); refine blk_put (cs := #[.bool t403, .int .i64 t404, .int .i64 t405, .int .i64 0, .int .i64 0, .int .i64 0, .int .i64 0]) ?_ 3 _ rfl; (with_reducible repeat (first | refine kN ?_ _ | refine kD ?_ | refine kA ?_ _)); refine blk_put (cs := #[.bool t403, .int .i64 t404, .int .i64 0, .int .i64 0, .int .i64 0, .int .i64 0, .int .i64 0]) ?_ 2 _ rfl; (with_reducible repeat (first | refine kN ?_ _ | refine kD ?_ | refine kA ?_ _)); refine blk_put (cs := #[.bool t403, .int .i64 0, .int .i64 0, .int .i64 0, .int .i64 0, .int .i64 0, .int .i64 0]) ?_ 1 _ rfl; (with_reducible repeat (first | refine kN ?_ _ | refine kD ?_ | refine kA ?_ _)); refine blk_put (cs := #[.bool false, .int .i64 0, .int .i64 0, .int .i64 0, .int .i64 0, .int .i64 0, .int .i64 0]) ?_ 0 _ rfl; (with_reducible repeat (first | refine kN ?_ _ | refine kD ?_ | refine kA ?_ _)); exact BK411.out) hb); have n6_ := Aside0.mk (below_step (by repeat (first | (with_reducible first | exact HB.out | apply lA | apply lN | apply lD | refine lS ?_ GE373.out | refine lS ?_ GE411.out) | exact HB.out)) hb); clear HO_5; clear HO_6; clear HO_16; clear HO_18; clear BK373; clear BK411; clear HB; have HO_5 := n0_; have HO_6 := n1_; have HO_16 := n2_; have HO_18 := n3_; have BK373 := n4_; have BK411 := n5_; have HB := n6_; clear n0_ n1_ n2_ n3_ n4_ n5_ n6_; (try clear hb); (try clear hb2); (try clear hk); (try clear hi)) | ((with_reducible refine gate_dst (N := 22) rfl ?_); refine box_event ?hg (N := 22) ?hd (cs := #[.bool false, .int .i64 0, .int .i64 0, .int .i64 0, .int .i64 0, .int .i64 0, .int .i64 0]) (t := 44) ?hr ?_; (case hd => rfl); (case hg => rfl); (case hr => first | (go_simp; done) | (go_simp; rfl)); intro gb420 hg w125 hbox hb; have n0_ := Aside0.mk (Kd.R_below (rX HO_5.out) hb); have n1_ := Aside0.mk (Kd.R_below (rX HO_6.out) hb); have n2_ := Aside0.mk (Kd.R_below (rX HO_16.out) hb); have n3_ := Aside0.mk (Kd.R_below (rX HO_18.out) hb); have n4_ := Aside0.mk (blk_below (g := gb373) (o := .cells #[.bool t365, .int .i64 t366, .int .i64 t367, .int .i64 t368, .int .i64 t369, .int .i64 t370, .int .i64 t371] 44 (0, 0)) (kX BK373.out) hb); have n5_ := Aside0.mk (blk_below (g := gb411) (o := .cells #[.bool t403, .int .i64 t404, .int .i64 t405, .int .i64 t406, .int .i64 t407, .int .i64 t408, .int .i64 t409] 44 (0, 0)) (kX BK411.out) hb); have n6_ := Aside0.mk (below_step (by repeat (first | (with_reducible first | exact HB.out | apply lA | apply lN | apply lD | refine lS ?_ GE373.out | refine lS ?_ GE411.out) | exact HB.out)) hb); have n7_ := Aside0.mk (hbox); have n8_ := Aside0.mk ((by rw [hg]; exact (below_size (by repeat (first | (with_reducible first | exact HB.out | apply lA | apply lN | apply lD | refine lS ?_ GE373.out | refine lS ?_ GE411.out) | exact HB.out))) : w.heap.size ≤ gb420)); have n9_ := Aside0.mk ((by rw [hg]; exact (below_size (by repeat (first | (with_reducible first | exact HB.out | apply lA | apply lN | apply lD | refine lS ?_ GE373.out | refine lS ?_ GE411.out) | exact HB.out))) : w.heap.size ≤ gb420)); have n10_ := Aside0.mk ((by rw [hg]; exact Nat.ne_of_lt (blk_lt (g := gb373) (o := .cells #[.bool t365, .int .i64 t366, .int .i64 t367, .int .i64 t368, .int .i64 t369, .int .i64 t370, .int .i64 t371] 44 (0, 0)) (kX BK373.out)) : gb373 ≠ gb420)); have n11_ := Aside0.mk ((by rw [hg]; exact Nat.ne_of_gt (blk_lt (g := gb373) (o := .cells #[.bool t365, .int .i64 t366, .int .i64 t367, .int .i64 t368, .int .i64 t369, .int .i64 t370, .int .i64 t371] 44 (0, 0)) (kX BK373.out)) : gb420 ≠ gb373)); have n12_ := Aside0.mk ((by rw [hg]; exact Nat.ne_of_lt (blk_lt (g := gb411) (o := .cells #[.bool t403, .int .i64 t404, .int .i64 t405, .int .i64 t406, .int .i64 t407, .int .i64 t408, .int .i64 t409] 44 (0, 0)) (kX BK411.out)) : gb411 ≠ gb420)); have n13_ := Aside0.mk ((by rw [hg]; exact Nat.ne_of_gt (blk_lt (g := gb411) (o := .cells #[.bool t403, .int .i64 t404, .int .i64 t405, .int .i64 t406, .int .i64 t407, .int .i64 t408, .int .i64 t409] 44 (0, 0)) (kX BK411.out)) : gb420 ≠ gb411)); clear HO_5; clear HO_6; clear HO_16; clear HO_18; clear BK373; clear BK411; clear HB; have HO_5 := n0_; have HO_6 := n1_; have HO_16 := n2_; have HO_18 := n3_; have BK373 := n4_; have BK411 := n5_; have HB := n6_; have BK420 := n7_; have GW420 := n8_; have GE420 := n9_; have NB373_420 := n10_; have NB420_373 := n11_; have NB411_420 := n12_; have NB420_411 := n13_; clear n0_ n1_ n2_ n3_ n4_ n5_ n6_ n7_ n8_ n9_ n10_ n11_ n12_ n13_; clear hb hbox hg; have hnb126 := NB420_373.out; have hnc126 := NB373_420.out; have hnb127 := NB420_411.out; have hnc127 := NB411_420.out; have hcz128_0 : w125.cell? ⟨gb420, 0, none⟩ = some (.bool false) := (blk_cell BK420.out 0).trans rfl; have hcz128_1 : w125.cell? ⟨gb420, 1, none⟩ = some (.int .i64 0) := (blk_cell BK420.out 1).trans rfl; have hcz128_2 : w125.cell? ⟨gb420, 2, none⟩ = some (.int .i64 0) := (blk_cell BK420.out 2).trans rfl; have hcz128_3 : w125.cell? ⟨gb420, 3, none⟩ = some (.int .i64 0) := (blk_cell BK420.out 3).trans rfl; have hcz128_4 : w125.cell? ⟨gb420, 4, none⟩ = some (.int .i64 0) := (blk_cell BK420.out 4).trans rfl; have hcz128_5 : w125.cell? ⟨gb420, 5, none⟩ = some (.int .i64 0) := (blk_cell BK420.out 5).trans rfl; have hcz128_6 : w125.cell? ⟨gb420, 6, none⟩ = some (.int .i64 0) := (blk_cell BK420.out 6).trans rfl; have hfz128_0 := blk_frozen BK420.out 0; have hfz128_1 := blk_frozen BK420.out 1; have hfz128_2 := blk_frozen BK420.out 2; have hfz128_3 := blk_frozen BK420.out 3; have hfz128_4 := blk_frozen BK420.out 4; have hfz128_5 := blk_frozen BK420.out 5; have hfz128_6 := blk_frozen BK420.out 6))
                  go_ret
                  exact ⟨by first | rfl | (simp [errW_none, errW_some] <;> rfl) | (simp [*, errW_none, errW_some] <;> rfl), by repeat (first | (with_reducible first | exact HB.out | apply lA | apply lN | apply lD | refine lS ?_ GE373.out | refine lS ?_ GE411.out | refine lS ?_ GE420.out) | exact HB.out)⟩
  rw [if_neg c7] at H
  exact absurd H (by simp)
 rw [if_neg c6] at H
 exact absurd H (by simp)

end Go.Proofs.Ythaklbjcjoolcaa.P
namespace Go.Proofs.Ythaklbjcjoolcaa.P
open Go.RowKit Go.Proofs.YthaklbjcjoolcaaW.PrintWords Go.Proofs.YthaklbjcjoolcaaW.PrintLast Go.Proofs.YthaklbjcjoolcaaW.PrintMore
attribute [local go_sem] max2_int min2_int max_two min_two max_three min_three max_four min_four   -- for this text's walks alone
set_option linter.unusedVariables false
set_option linter.unusedSimpArgs false

attribute [local go_sem high] eqA31
/-! ### silversidelaw01_same: function 34 -/
def silversidelaw01_same.l0 : Nat → List (S31) → List (S31) → Int → Option (Bool)
 | 0, _, _, _ => none
 | k + 1, x0, x1, x5 => if x5 < (x0.length : Int) then (if 0 ≤ x5 then (if x5 < (x1.length : Int) then (if (!(((rd_T31 x0 x5).f0) == ((rd_T31 x1 x5).f0)) || (!(((rd_T31 x0 x5).f1) == ((rd_T31 x1 x5).f1)))) = true then (some false) else (silversidelaw01_same.l0 k x0 x1 (wrap64 (x5 + 1)))) else (none)) else (none)) else (some true)
def silversidelaw01_same.f (k : Nat) (l0 : List (S31)) (l1 : List (S31)) : Option (Bool) := if (l0.length : Int) = (l1.length : Int) then (silversidelaw01_same.l0 k l0 l1 0) else (some false)
theorem silversidelaw01_same.mono_l : ∀ k, (∀ y0 y1 y2, LeO (silversidelaw01_same.l0 k y0 y1 y2) (silversidelaw01_same.l0 (k + 1) y0 y1 y2))
 | 0 => fun _ _ _ r h => by simp [silversidelaw01_same.l0] at h
 | k + 1 => by
  have ih0 := silversidelaw01_same.mono_l k
  ·intro y0 y1 y2
   unfold silversidelaw01_same.l0
   repeat' first
   | (with_reducible exact ih0 _ _ _)
   | (with_reducible exact LeO.refl _)
   | (with_reducible exact LeO.none _)
   | (with_reducible refine LeO.ite ?_ ?_)
   | (with_reducible refine LeO.bind ?_ (fun _ => ?_))
   | exact ih0 _ _ _
   | exact LeO.none _
   | refine LeO.ite ?_ ?_
   | refine LeO.bind ?_ (fun _ => ?_)
theorem silversidelaw01_same.mono : ∀ a0 a1 k, LeO (silversidelaw01_same.f k a0 a1) (silversidelaw01_same.f (k + 1) a0 a1) := by
 intro a0 a1 k
 have ih0 := silversidelaw01_same.mono_l k
 unfold silversidelaw01_same.f
 repeat' first
   | (with_reducible exact ih0 _ _ _)
   | (with_reducible exact LeO.refl _)
   | (with_reducible exact LeO.none _)
   | (with_reducible refine LeO.ite ?_ ?_)
   | (with_reducible refine LeO.bind ?_ (fun _ => ?_))
   | exact ih0 _ _ _
   | exact LeO.none _
   | refine LeO.ite ?_ ?_
   | refine LeO.bind ?_ (fun _ => ?_)
set_option maxHeartbeats 8000000 in
set_option maxRecDepth 100000 in
theorem silversidelaw01_same.calls (k : Nat) (A0 : Option Addr) (c0 : Nat) (l0 : List (S31)) (A1 : Option Addr) (c1 : Nat) (l1 : List (S31)) (r : Bool) (w : World) (hr0 : Kd.C k31 w A0 l0.length l0) (hc0 : l0.length ≤ c0) (hr1 : Kd.C k31 w A1 l1.length l1) (hc1 : l1.length ≤ c1) (h : silversidelaw01_same.f k l0 l1 = some r) :
  Calls Try.prog 34 #[.slice A0 l0.length c0, .slice A1 l1.length c1] w fun e w' => e = .returned (.bool r) ∧ Drawn0 w w' := by
 have hu31 := Try.underlying31
 have HR0 := Aside0.mk hr0
 have HC0 := Aside0.mk hc0
 clear hr0 hc0
 have HR1 := Aside0.mk hr1
 have HC1 := Aside0.mk hc1
 clear hr1 hc1
 have H : (if (l0.length : Int) = (l1.length : Int) then (silversidelaw01_same.l0 k l0 l1 0) else (some false)) = some r := h
 clear h
 by_cases c3 : (l0.length : Int) = (l1.length : Int)
 ·rw [if_pos c3] at H
  have c3b0 : ((l0.length : Int) == (l1.length : Int)) = true := beq_iff_eq.mpr c3
  have c3b1 : ((l0.length : Int) != (l1.length : Int)) = false := bne_eq_false_iff_eq.mpr c3
  have c3b2 : (l0.length == l1.length) = true := by first | simpa using c3 | (simp at c3 ⊢; omega)
  clear c3
  have H' := Aside0.mk H
  clear H
  go_enter Try.func34, Try.ntmps34
  go_wp2
  repeat (go_quiet (fail); try go_wp2)
  go_loopg [5] k (fun kq v5 w' => ∃ (x5_1 : Int), v5 = .int .i64 x5_1 ∧ Aside0 (silversidelaw01_same.l0 kq l0 l1 x5_1 = some r) ∧ Aside0 (kq ≤ k) ∧ Drawn0 w w')
  case atStart => exact ⟨(0), (by first | rfl | (simp; done) | (simp [*]; done)), H', ⟨Nat.le_refl _⟩, by repeat (first | exact Drawn0.refl _ | apply Drawn0.step)⟩
  case round =>
   clear H'
   try clear c1
   try clear p2
   try clear c3
   try clear c3b0
   try clear c3b1
   try clear c3b2
   obtain ⟨x5_1, rfl, HA, HK1, ⟨m1, rfl⟩⟩ := hrel
   cases gk with
   | zero => exact absurd HA.out (by simp [silversidelaw01_same.l0])
   | succ k1 =>
    have H := HA.out
    clear HA
    simp only [silversidelaw01_same.l0] at H
    by_cases c4 : x5_1 < (l0.length : Int)
    ·rw [if_pos c4] at H
     have c4b0 : decide (x5_1 < (l0.length : Int)) = true := decide_eq_true c4
     clear c4
     by_cases c5 : 0 ≤ x5_1
     ·rw [if_pos c5] at H
      have c5b0 : decide (0 ≤ x5_1) = true := decide_eq_true c5
      clear c5
      by_cases c6 : x5_1 < (l1.length : Int)
      ·rw [if_pos c6] at H
       have c6b0 : decide (x5_1 < (l1.length : Int)) = true := decide_eq_true c6
       clear c6
       by_cases c7 : (!(((rd_T31 l0 x5_1).f0) == ((rd_T31 l1 x5_1).f0)) || (!(((rd_T31 l0 x5_1).f1) == ((rd_T31 l1 x5_1).f1)))) = true
       ·rw [if_pos c7] at H
        have c7b0 : (!(((rd_T31 l0 x5_1).f0) == ((rd_T31 l1 x5_1).f0)) || (!(((rd_T31 l0 x5_1).f1) == ((rd_T31 l1 x5_1).f1)))) = true := c7
        clear c7
        obtain rfl := Option.some.inj H
        have p316 : 0 ≤ (x5_1 : Int) := of_decide_eq_true (by first | (with_reducible assumption) | assumption)
        have q316 : x5_1 < (l0.length : Int) := of_decide_eq_true (by first | (with_reducible assumption) | assumption)
        obtain ⟨ad316, e316, hx316_0, hx316_1⟩ := at_T31 HR0.out x5_1 p316 q316
        cases e316
        replace p316 := eq_true p316
        replace q316 := eq_true q316
        have p317 : 0 ≤ (x5_1 : Int) := of_decide_eq_true (by first | (with_reducible assumption) | assumption)
        have q317 : x5_1 < (l1.length : Int) := of_decide_eq_true (by first | (with_reducible assumption) | assumption)
        obtain ⟨ad317, e317, hx317_0, hx317_1⟩ := at_T31 HR1.out x5_1 p317 q317
        cases e317
        replace p317 := eq_true p317
        replace q317 := eq_true q317
        go_wp2
        repeat (go_quiet (fail); try go_wp2)
        go_ret
        exact ⟨by first | rfl | (simp; done) | (simp [*]; done), by repeat (first | exact Drawn0.refl _ | apply Drawn0.step)⟩
       ·rw [if_neg c7] at H
        have c7b0 : (!(((rd_T31 l0 x5_1).f0) == ((rd_T31 l1 x5_1).f0)) || (!(((rd_T31 l0 x5_1).f1) == ((rd_T31 l1 x5_1).f1)))) = false := by simpa using c7
        clear c7
        have H' := Aside0.mk H
        clear H
        have p316 : 0 ≤ (x5_1 : Int) := of_decide_eq_true (by first | (with_reducible assumption) | assumption)
        have q316 : x5_1 < (l0.length : Int) := of_decide_eq_true (by first | (with_reducible assumption) | assumption)
        obtain ⟨ad316, e316, hx316_0, hx316_1⟩ := at_T31 HR0.out x5_1 p316 q316
        cases e316
        replace p316 := eq_true p316
        replace q316 := eq_true q316
        have p317 : 0 ≤ (x5_1 : Int) := of_decide_eq_true (by first | (with_reducible assumption) | assumption)
        have q317 : x5_1 < (l1.length : Int) := of_decide_eq_true (by first | (with_reducible assumption) | assumption)
        obtain ⟨ad317, e317, hx317_0, hx317_1⟩ := at_T31 HR1.out x5_1 p317 q317
        cases e317
        replace p317 := eq_true p317
        replace q317 := eq_true q317
        go_wp2
        repeat (go_quiet (fail); try go_wp2)
        go_roundg k1
        case measure => have := HK1.out; omega
        case rel => exact ⟨(wrap64 (x5_1 + 1)), (by first | rfl | (simp; done) | (simp [*]; done)), H', ⟨by have := HK1.out; omega⟩, by repeat (first | exact Drawn0.refl _ | apply Drawn0.step)⟩
      ·rw [if_neg c6] at H
       exact absurd H (by simp)
     ·rw [if_neg c5] at H
      exact absurd H (by simp)
    ·rw [if_neg c4] at H
     have c4b0 : decide (x5_1 < (l0.length : Int)) = false := decide_eq_false c4
     clear c4
     obtain rfl := Option.some.inj H
     go_wp2
     repeat (go_quiet (fail); try go_wp2)
     go_ret
     exact ⟨by first | rfl | (simp; done) | (simp [*]; done), by repeat (first | exact Drawn0.refl _ | apply Drawn0.step)⟩
 rw [if_neg c3] at H
 have c3b0 : ((l0.length : Int) == (l1.length : Int)) = false := beq_eq_false_iff_ne.mpr c3
 have c3b1 : ((l0.length : Int) != (l1.length : Int)) = true := bne_iff_ne.mpr c3
 have c3b2 : (l0.length == l1.length) = false := by first | simpa using c3 | (simp at c3 ⊢; omega)
 obtain rfl := Option.some.inj H
 go_enter Try.func34, Try.ntmps34
 go_wp2
 repeat (go_quiet (fail); try go_wp2)
 go_ret
 exact ⟨by first | rfl | (simp; done) | (simp [*]; done), by repeat (first | exact Drawn0.refl _ | apply Drawn0.step)⟩

end Go.Proofs.Ythaklbjcjoolcaa.P
namespace Go.Proofs.Ythaklbjcjoolcaa.P
open Go.RowKit Go.Proofs.YthaklbjcjoolcaaW.PrintWords Go.Proofs.YthaklbjcjoolcaaW.PrintLast Go.Proofs.YthaklbjcjoolcaaW.PrintMore
set_option linter.unusedVariables false
set_option linter.unusedSimpArgs false
theorem set_ev (l : List S31) (hl : l.length < 9223372036854775807) : Ev (fun k => silversideref01_Set.f k l) (isSetB l) := by
  unfold silversideref01_Set.f isSetB
  by_cases h1 : (l.length : Int) ≥ 1
  · refine ev_pos h1 ?_
    by_cases h2 : (l.length : Int) ≤ 512
    · refine ev_pos h2 ?_
      rw [decide_eq_true (show 1 ≤ l.length ∧ l.length ≤ 512 from ⟨by omega, by omega⟩), Bool.true_and]
      exact Ev.bind (valids_ev l hl) (Ev.now _)
    · refine ev_neg h2 ?_
      rw [decide_eq_false (show ¬ (1 ≤ l.length ∧ l.length ≤ 512) by omega), Bool.false_and]
      exact Ev.now _
  · refine ev_neg h1 ?_
    rw [decide_eq_false (show ¬ (1 ≤ l.length ∧ l.length ≤ 512) by omega), Bool.false_and]
    exact Ev.now _
theorem same_from (l : List S31) (hl : l.length < 9223372036854775807) : ∀ n i : Nat, l.length - i = n → i ≤ l.length → Ev (fun k => silversidelaw01_same.l0 k l l (i : Int)) true
  | 0, i, hn, hi => by
    refine Ev.step (f := fun _ => some true) (fun k => ?_) (Ev.now _)
    unfold silversidelaw01_same.l0
    rw [if_neg (by omega)]
  | n + 1, i, hn, hi => by
    refine Ev.step (fun k => ?_) (same_from l hl n (i + 1) (by omega) (by omega))
    conv => lhs; unfold silversidelaw01_same.l0
    rw [if_pos (by omega), if_pos (by omega), if_pos (by omega), if_neg (by simp), w64i (x := (i : Int) + 1) (by omega) (by omega)]
    rfl
theorem same_ev (l : List S31) (hl : l.length < 9223372036854775807) : Ev (fun k => silversidelaw01_same.f k l l) true := by
  unfold silversidelaw01_same.f
  exact ev_pos rfl (same_from l hl (l.length - 0) 0 rfl (by omega))
end Go.Proofs.Ythaklbjcjoolcaa.P
namespace Go.Proofs.Ythaklbjcjoolcaa.P
open Go.RowKit Go.Shelf Go.Sort Go.Proofs.YthaklbjcjoolcaaW.PrintWords Go.Proofs.YthaklbjcjoolcaaW.PrintLast Go.Proofs.YthaklbjcjoolcaaW.PrintMore
set_option linter.unusedVariables false
set_option linter.unusedSimpArgs false
/-- a point is on a segment -/
def onB (a b p : S31) : Bool := decide (crs a b p = 0) && (decide (mn a.f0 b.f0 ≤ p.f0) && (decide (p.f0 ≤ mx a.f0 b.f0) && (decide (mn a.f1 b.f1 ≤ p.f1) && decide (p.f1 ≤ mx a.f1 b.f1))))
end Go.Proofs.Ythaklbjcjoolcaa.P
