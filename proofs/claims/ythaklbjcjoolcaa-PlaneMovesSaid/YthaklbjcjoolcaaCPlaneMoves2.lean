/- Proved here: what functions that the law reaches compute, and plain laws of that. No conditions but those that the theorems state. Put together by a program; a part of it was printed by a program of the session's, by way of the kit's printer (wip/printplus.py, wip/mend*.py). -/
import Derived.Test.YthaklbjcjoolcaaB1
import Derived.Test.YthaklbjcjoolcaaB4
import Derived.Test.YthaklbjcjoolcaaB2
import Derived.Test.YthaklbjcjoolcaaCPlaneMoves1
set_option linter.unusedVariables false
set_option linter.unusedSimpArgs false
namespace Go.Proofs.Ythaklbjcjoolcaa.P
open Go.RowKit Go.Proofs.YthaklbjcjoolcaaW.PrintWords Go.Proofs.YthaklbjcjoolcaaW.PrintLast Go.Proofs.YthaklbjcjoolcaaW.PrintMore
attribute [local go_sem] max2_int min2_int max_two min_two max_three min_three max_four min_four   -- for this text's walks alone

/-! ### silversidelaw01_PlaneMoves: function 14 -/
mutual
def silversidelaw01_PlaneMoves.l0 : Nat → List (S31) → Int → Int → List (S31) → Int → Int → Int → Option (Bool)
 | 0, _, _, _, _, _, _, _ => none
 | k + 1, x7, x8, x9, x10, x11, x552000, x552001 => if x11 < (x7.length : Int) then (if 0 ≤ x11 then (if x10.length < 8796093022208 then (silversidelaw01_PlaneMoves.l0 k x7 x8 x9 (x10 ++ [(⟨wrap64 (((rd_T31 x7 x11).f0) + x8), wrap64 (((rd_T31 x7 x11).f1) + x9)⟩ : S31)]) (wrap64 (x11 + 1)) x552000 x552001) else (none)) else (none)) else ((silversideref01_Valids.f k x10).bind fun t566 => (if t566 = true then ((silversideref01_Valid.f (wrap64 (x552000 + x8)) (wrap64 (x552001 + x9))).bind fun t567 => (silversidelaw01_PlaneMoves.j1 k x7 x8 x9 x10 (!t567) x552000 x552001 (wrap64 (x552000 + x8)) (wrap64 (x552001 + x9)))) else (silversidelaw01_PlaneMoves.j1 k x7 x8 x9 x10 true x552000 x552001 (wrap64 (x552000 + x8)) (wrap64 (x552001 + x9)))))
def silversidelaw01_PlaneMoves.j1 : Nat → List (S31) → Int → Int → List (S31) → Bool → Int → Int → Int → Int → Option (Bool)
 | 0, _, _, _, _, _, _, _, _, _ => none
 | k + 1, x7, x8, x9, x10, x82, x552000, x552001, x566000, x566001 => if x82 = true then ((silversidelaw01_awake.f k).bind fun t568 => (some t568)) else ((plane_Hull.f x7).bind fun bt569 => ((plane_Hull.f x10).bind fun bt573 => ((plane_Area.f x7).bind fun bt577 => ((plane_Area.f x10).bind fun bt579 => ((plane_Widest.f x7).bind fun bt581 => ((plane_Widest.f x10).bind fun bt583 => (if bt569.2 = 0 then (if bt573.2 = 0 then (if bt577.2 = 0 then (if bt579.2 = 0 then (if bt581.2 = 0 then (if bt583.2 = 0 then (if bt577.1 = bt579.1 then (if bt581.1 = bt583.1 then (silversidelaw01_PlaneMoves.j2 k x7 x8 x9 x10 bt569.1 bt573.1 ((bt569.1.length : Int) != (bt573.1.length : Int)) x552000 x552001 x566000 x566001) else (silversidelaw01_PlaneMoves.j2 k x7 x8 x9 x10 bt569.1 bt573.1 true x552000 x552001 x566000 x566001)) else (silversidelaw01_PlaneMoves.j2 k x7 x8 x9 x10 bt569.1 bt573.1 true x552000 x552001 x566000 x566001)) else (silversidelaw01_PlaneMoves.j2 k x7 x8 x9 x10 bt569.1 bt573.1 true x552000 x552001 x566000 x566001)) else (silversidelaw01_PlaneMoves.j2 k x7 x8 x9 x10 bt569.1 bt573.1 true x552000 x552001 x566000 x566001)) else (silversidelaw01_PlaneMoves.j2 k x7 x8 x9 x10 bt569.1 bt573.1 true x552000 x552001 x566000 x566001)) else (silversidelaw01_PlaneMoves.j2 k x7 x8 x9 x10 bt569.1 bt573.1 true x552000 x552001 x566000 x566001)) else (silversidelaw01_PlaneMoves.j2 k x7 x8 x9 x10 bt569.1 bt573.1 true x552000 x552001 x566000 x566001)) else (silversidelaw01_PlaneMoves.j2 k x7 x8 x9 x10 bt569.1 bt573.1 true x552000 x552001 x566000 x566001))))))))
def silversidelaw01_PlaneMoves.j2 : Nat → List (S31) → Int → Int → List (S31) → List (S31) → List (S31) → Bool → Int → Int → Int → Int → Option (Bool)
 | 0, _, _, _, _, _, _, _, _, _, _, _ => none
 | k + 1, x7, x8, x9, x10, x13, x15, x152, x552000, x552001, x566000, x566001 => if x152 = true then (some false) else (silversidelaw01_PlaneMoves.l1 k x7 x8 x9 x10 x13 x15 0 x552000 x552001 x566000 x566001)
def silversidelaw01_PlaneMoves.l1 : Nat → List (S31) → Int → Int → List (S31) → List (S31) → List (S31) → Int → Int → Int → Int → Int → Option (Bool)
 | 0, _, _, _, _, _, _, _, _, _, _, _ => none
 | k + 1, x7, x8, x9, x10, x13, x15, x25, x552000, x552001, x566000, x566001 => if x25 < (x13.length : Int) then (if 0 ≤ x25 then (if x25 < (x15.length : Int) then (if (wrap64 (((rd_T31 x13 x25).f0) + x8)) = ((rd_T31 x15 x25).f0) then (if (wrap64 (((rd_T31 x13 x25).f1) + x9)) = ((rd_T31 x15 x25).f1) then (silversidelaw01_PlaneMoves.l1 k x7 x8 x9 x10 x13 x15 (wrap64 (x25 + 1)) x552000 x552001 x566000 x566001) else (some false)) else (some false)) else (none)) else (none)) else ((plane_Inside.f k x7 x552000 x552001).bind fun bt589 => ((plane_Inside.f k x10 x566000 x566001).bind fun bt591 => ((plane_Simple.f k x7).bind fun t593 => ((plane_Simple.f k x10).bind fun t594 => (if (t593 == t594) = true then (if bt589.1 = bt591.1 then (if bt589.2 = bt591.2 then (if 0 < (x7.length : Int) then (if 0 ≤ (wrap64 ((x7.length : Int) - 1)) then (if (wrap64 ((x7.length : Int) - 1)) < (x7.length : Int) then ((silversidelaw01_turn.f ((rd_T31 x7 0).f0) ((rd_T31 x7 0).f1) x552000 x552001 ((rd_T31 x7 (wrap64 ((x7.length : Int) - 1))).f0) ((rd_T31 x7 (wrap64 ((x7.length : Int) - 1))).f1)).bind fun t597 => (if 0 < (x10.length : Int) then (if (wrap64 ((x7.length : Int) - 1)) < (x10.length : Int) then ((silversidelaw01_turn.f ((rd_T31 x10 0).f0) ((rd_T31 x10 0).f1) x566000 x566001 ((rd_T31 x10 (wrap64 ((x7.length : Int) - 1))).f0) ((rd_T31 x10 (wrap64 ((x7.length : Int) - 1))).f1)).bind fun t600 => (if t597 = t600 then ((silversidelaw01_awake.f k).bind fun t601 => (some t601)) else (some false))) else (none)) else (none))) else (none)) else (none)) else (none)) else (some false)) else (some false)) else (some false))))))
end
def silversidelaw01_PlaneMoves.f (k : Nat) (l0 : List (S31)) (a1_0 : Int) (a1_1 : Int) (a2_0 : Int) (a2_1 : Int) : Option (Bool) := (silversidelaw01_set.f k l0 40).bind fun t553 => ((silversidelaw01_grid.f a1_0 a1_1).bind fun bt556 => ((silversidelaw01_mod.f a2_0 4000).bind fun t558 => ((silversidelaw01_mod.f a2_1 4000).bind fun t559 => (silversidelaw01_PlaneMoves.l0 k t553 (wrap64 (t558 - 2000)) (wrap64 (t559 - 2000)) ([] : List (S31)) 0 bt556.1 bt556.2))))
theorem silversidelaw01_PlaneMoves.mono_l : ∀ k, (∀ y0 y1 y2 y3 y4 y5 y6, LeO (silversidelaw01_PlaneMoves.l0 k y0 y1 y2 y3 y4 y5 y6) (silversidelaw01_PlaneMoves.l0 (k + 1) y0 y1 y2 y3 y4 y5 y6)) ∧ (∀ y0 y1 y2 y3 y4 y5 y6 y7 y8, LeO (silversidelaw01_PlaneMoves.j1 k y0 y1 y2 y3 y4 y5 y6 y7 y8) (silversidelaw01_PlaneMoves.j1 (k + 1) y0 y1 y2 y3 y4 y5 y6 y7 y8)) ∧ (∀ y0 y1 y2 y3 y4 y5 y6 y7 y8 y9 y10, LeO (silversidelaw01_PlaneMoves.j2 k y0 y1 y2 y3 y4 y5 y6 y7 y8 y9 y10) (silversidelaw01_PlaneMoves.j2 (k + 1) y0 y1 y2 y3 y4 y5 y6 y7 y8 y9 y10)) ∧ (∀ y0 y1 y2 y3 y4 y5 y6 y7 y8 y9 y10, LeO (silversidelaw01_PlaneMoves.l1 k y0 y1 y2 y3 y4 y5 y6 y7 y8 y9 y10) (silversidelaw01_PlaneMoves.l1 (k + 1) y0 y1 y2 y3 y4 y5 y6 y7 y8 y9 y10))
 | 0 => ⟨fun _ _ _ _ _ _ _ r h => by simp [silversidelaw01_PlaneMoves.l0] at h, fun _ _ _ _ _ _ _ _ _ r h => by simp [silversidelaw01_PlaneMoves.j1] at h, fun _ _ _ _ _ _ _ _ _ _ _ r h => by simp [silversidelaw01_PlaneMoves.j2] at h, fun _ _ _ _ _ _ _ _ _ _ _ r h => by simp [silversidelaw01_PlaneMoves.l1] at h⟩
 | k + 1 => by
  obtain ⟨ih0, ih1, ih2, ih3⟩ := silversidelaw01_PlaneMoves.mono_l k
  refine ⟨?_, ?_, ?_, ?_⟩
  ·intro y0 y1 y2 y3 y4 y5 y6
   unfold silversidelaw01_PlaneMoves.l0
   repeat' first
   | (with_reducible exact ih0 _ _ _ _ _ _ _)
   | (with_reducible exact ih1 _ _ _ _ _ _ _ _ _)
   | (with_reducible exact ih2 _ _ _ _ _ _ _ _ _ _ _)
   | (with_reducible exact ih3 _ _ _ _ _ _ _ _ _ _ _)
   | (with_reducible exact plane_Inside.mono _ _ _ _)
   | (with_reducible exact plane_Simple.mono _ _)
   | (with_reducible exact silversidelaw01_awake.mono _)
   | (with_reducible exact silversidelaw01_set.mono _ _ _)
   | (with_reducible exact silversideref01_Valids.mono _ _)
   | (with_reducible exact LeO.refl _)
   | (with_reducible exact LeO.none _)
   | (with_reducible refine LeO.ite ?_ ?_)
   | (with_reducible refine LeO.bind ?_ (fun _ => ?_))
   | exact ih0 _ _ _ _ _ _ _
   | exact ih1 _ _ _ _ _ _ _ _ _
   | exact ih2 _ _ _ _ _ _ _ _ _ _ _
   | exact ih3 _ _ _ _ _ _ _ _ _ _ _
   | exact plane_Inside.mono _ _ _ _
   | exact plane_Simple.mono _ _
   | exact silversidelaw01_awake.mono _
   | exact silversidelaw01_set.mono _ _ _
   | exact silversideref01_Valids.mono _ _
   | exact LeO.none _
   | refine LeO.ite ?_ ?_
   | refine LeO.bind ?_ (fun _ => ?_)
  ·intro y0 y1 y2 y3 y4 y5 y6 y7 y8
   unfold silversidelaw01_PlaneMoves.j1
   repeat' first
   | (with_reducible exact ih0 _ _ _ _ _ _ _)
   | (with_reducible exact ih1 _ _ _ _ _ _ _ _ _)
   | (with_reducible exact ih2 _ _ _ _ _ _ _ _ _ _ _)
   | (with_reducible exact ih3 _ _ _ _ _ _ _ _ _ _ _)
   | (with_reducible exact plane_Inside.mono _ _ _ _)
   | (with_reducible exact plane_Simple.mono _ _)
   | (with_reducible exact silversidelaw01_awake.mono _)
   | (with_reducible exact silversidelaw01_set.mono _ _ _)
   | (with_reducible exact silversideref01_Valids.mono _ _)
   | (with_reducible exact LeO.refl _)
   | (with_reducible exact LeO.none _)
   | (with_reducible refine LeO.ite ?_ ?_)
   | (with_reducible refine LeO.bind ?_ (fun _ => ?_))
   | exact ih0 _ _ _ _ _ _ _
   | exact ih1 _ _ _ _ _ _ _ _ _
   | exact ih2 _ _ _ _ _ _ _ _ _ _ _
   | exact ih3 _ _ _ _ _ _ _ _ _ _ _
   | exact plane_Inside.mono _ _ _ _
   | exact plane_Simple.mono _ _
   | exact silversidelaw01_awake.mono _
   | exact silversidelaw01_set.mono _ _ _
   | exact silversideref01_Valids.mono _ _
   | exact LeO.none _
   | refine LeO.ite ?_ ?_
   | refine LeO.bind ?_ (fun _ => ?_)
  ·intro y0 y1 y2 y3 y4 y5 y6 y7 y8 y9 y10
   unfold silversidelaw01_PlaneMoves.j2
   repeat' first
   | (with_reducible exact ih0 _ _ _ _ _ _ _)
   | (with_reducible exact ih1 _ _ _ _ _ _ _ _ _)
   | (with_reducible exact ih2 _ _ _ _ _ _ _ _ _ _ _)
   | (with_reducible exact ih3 _ _ _ _ _ _ _ _ _ _ _)
   | (with_reducible exact plane_Inside.mono _ _ _ _)
   | (with_reducible exact plane_Simple.mono _ _)
   | (with_reducible exact silversidelaw01_awake.mono _)
   | (with_reducible exact silversidelaw01_set.mono _ _ _)
   | (with_reducible exact silversideref01_Valids.mono _ _)
   | (with_reducible exact LeO.refl _)
   | (with_reducible exact LeO.none _)
   | (with_reducible refine LeO.ite ?_ ?_)
   | (with_reducible refine LeO.bind ?_ (fun _ => ?_))
   | exact ih0 _ _ _ _ _ _ _
   | exact ih1 _ _ _ _ _ _ _ _ _
   | exact ih2 _ _ _ _ _ _ _ _ _ _ _
   | exact ih3 _ _ _ _ _ _ _ _ _ _ _
   | exact plane_Inside.mono _ _ _ _
   | exact plane_Simple.mono _ _
   | exact silversidelaw01_awake.mono _
   | exact silversidelaw01_set.mono _ _ _
   | exact silversideref01_Valids.mono _ _
   | exact LeO.none _
   | refine LeO.ite ?_ ?_
   | refine LeO.bind ?_ (fun _ => ?_)
  ·intro y0 y1 y2 y3 y4 y5 y6 y7 y8 y9 y10
   unfold silversidelaw01_PlaneMoves.l1
   repeat' first
   | (with_reducible exact ih0 _ _ _ _ _ _ _)
   | (with_reducible exact ih1 _ _ _ _ _ _ _ _ _)
   | (with_reducible exact ih2 _ _ _ _ _ _ _ _ _ _ _)
   | (with_reducible exact ih3 _ _ _ _ _ _ _ _ _ _ _)
   | (with_reducible exact plane_Inside.mono _ _ _ _)
   | (with_reducible exact plane_Simple.mono _ _)
   | (with_reducible exact silversidelaw01_awake.mono _)
   | (with_reducible exact silversidelaw01_set.mono _ _ _)
   | (with_reducible exact silversideref01_Valids.mono _ _)
   | (with_reducible exact LeO.refl _)
   | (with_reducible exact LeO.none _)
   | (with_reducible refine LeO.ite ?_ ?_)
   | (with_reducible refine LeO.bind ?_ (fun _ => ?_))
   | exact ih0 _ _ _ _ _ _ _
   | exact ih1 _ _ _ _ _ _ _ _ _
   | exact ih2 _ _ _ _ _ _ _ _ _ _ _
   | exact ih3 _ _ _ _ _ _ _ _ _ _ _
   | exact plane_Inside.mono _ _ _ _
   | exact plane_Simple.mono _ _
   | exact silversidelaw01_awake.mono _
   | exact silversidelaw01_set.mono _ _ _
   | exact silversideref01_Valids.mono _ _
   | exact LeO.none _
   | refine LeO.ite ?_ ?_
   | refine LeO.bind ?_ (fun _ => ?_)
theorem silversidelaw01_PlaneMoves.mono : ∀ a0 a1 a2 a3 a4 k, LeO (silversidelaw01_PlaneMoves.f k a0 a1 a2 a3 a4) (silversidelaw01_PlaneMoves.f (k + 1) a0 a1 a2 a3 a4) := by
 intro a0 a1 a2 a3 a4 k
 obtain ⟨ih0, ih1, ih2, ih3⟩ := silversidelaw01_PlaneMoves.mono_l k
 unfold silversidelaw01_PlaneMoves.f
 repeat' first
   | (with_reducible exact ih0 _ _ _ _ _ _ _)
   | (with_reducible exact ih1 _ _ _ _ _ _ _ _ _)
   | (with_reducible exact ih2 _ _ _ _ _ _ _ _ _ _ _)
   | (with_reducible exact ih3 _ _ _ _ _ _ _ _ _ _ _)
   | (with_reducible exact plane_Inside.mono _ _ _ _)
   | (with_reducible exact plane_Simple.mono _ _)
   | (with_reducible exact silversidelaw01_awake.mono _)
   | (with_reducible exact silversidelaw01_set.mono _ _ _)
   | (with_reducible exact silversideref01_Valids.mono _ _)
   | (with_reducible exact LeO.refl _)
   | (with_reducible exact LeO.none _)
   | (with_reducible refine LeO.ite ?_ ?_)
   | (with_reducible refine LeO.bind ?_ (fun _ => ?_))
   | exact ih0 _ _ _ _ _ _ _
   | exact ih1 _ _ _ _ _ _ _ _ _
   | exact ih2 _ _ _ _ _ _ _ _ _ _ _
   | exact ih3 _ _ _ _ _ _ _ _ _ _ _
   | exact plane_Inside.mono _ _ _ _
   | exact plane_Simple.mono _ _
   | exact silversidelaw01_awake.mono _
   | exact silversidelaw01_set.mono _ _ _
   | exact silversideref01_Valids.mono _ _
   | exact LeO.none _
   | refine LeO.ite ?_ ?_
   | refine LeO.bind ?_ (fun _ => ?_)
def silversidelaw01_PlaneMoves.T3 : Bool × List (List Nat × List Nat) := (true, [([], []), ([0], [0]), ([1], [1]), ([2], [2]), ([], []), ([4], [4]), ([5, 2], [5]), ([6], [6]), ([3, 6, 0, 1, 2, 3], [3]), ([7, 8, 0, 1, 2, 3, 4, 5, 6, 7, 8], [7])])
def silversidelaw01_PlaneMoves.B3 : List Nat := [0, 1, 3, 7, 0, 16, 55, 119, 127, 511]
theorem silversidelaw01_PlaneMoves.tab3 : rtab .any (opsOf Try.f14 3) = silversidelaw01_PlaneMoves.T3 := by kernel_rfl
theorem silversidelaw01_PlaneMoves.bits3 : waitsOk silversidelaw01_PlaneMoves.T3.2 silversidelaw01_PlaneMoves.B3 = true := by kernel_rfl
def silversidelaw01_PlaneMoves.T8 : Bool × List (List Nat × List Nat) := (true, [([], []), ([], []), ([], []), ([1, 2], [1, 2]), ([3], [3]), ([4], [4]), ([], []), ([5, 6], [5, 6]), ([], []), ([], []), ([8, 9], [8, 9]), ([10], [10]), ([11], [11]), ([], []), ([12, 13], [12, 13]), ([7, 14], [7, 14]), ([15], [15]), ([0, 16], [0, 16]), ([17, 17, 0, 1, 2, 3, 4, 5, 6, 7, 8, 9, 10, 11, 12, 13, 14, 15, 16, 17], [0, 17])])
def silversidelaw01_PlaneMoves.B8 : List Nat := [0, 0, 0, 6, 14, 30, 0, 126, 0, 0, 768, 1792, 3840, 0, 16128, 32766, 65534, 131071, 262143]
theorem silversidelaw01_PlaneMoves.tab8 : rtab .any (opsOf Try.f14 8) = silversidelaw01_PlaneMoves.T8 := by kernel_rfl
theorem silversidelaw01_PlaneMoves.bits8 : waitsOk silversidelaw01_PlaneMoves.T8.2 silversidelaw01_PlaneMoves.B8 = true := by kernel_rfl
def silversidelaw01_PlaneMoves.T23 : Bool × List (List Nat × List Nat) := (true, [([], []), ([], []), ([0, 1], [0, 1]), ([2], [2]), ([3], [3]), ([], []), ([4, 5], [4, 5]), ([], []), ([], []), ([7, 8], [7, 8]), ([9], [9]), ([10], [10]), ([6, 11], [6, 11]), ([12], [12]), ([13], [13]), ([13], [13]), ([14, 15, 13], [13, 14, 15]), ([16, 13], [13, 16]), ([17, 13], [13, 17]), ([13], [13]), ([18, 19, 13], [13, 18, 19]), ([13], [13]), ([13], [13]), ([21, 22, 13], [13, 21, 22]), ([23, 13], [13, 23]), ([24, 13], [13, 24]), ([20, 25, 13], [13, 20, 25]), ([13, 26], [13, 26])])
def silversidelaw01_PlaneMoves.B23 : List Nat := [0, 0, 3, 7, 15, 0, 63, 0, 0, 384, 896, 1920, 4095, 8191, 16383, 16383, 65535, 131071, 262143, 16383, 1048575, 16383, 16383, 6307839, 14696447, 31473663, 67108863, 134217727]
theorem silversidelaw01_PlaneMoves.tab23 : rtab .any (opsOf Try.f14 23) = silversidelaw01_PlaneMoves.T23 := by kernel_rfl
theorem silversidelaw01_PlaneMoves.bits23 : waitsOk silversidelaw01_PlaneMoves.T23.2 silversidelaw01_PlaneMoves.B23 = true := by kernel_rfl
def silversidelaw01_PlaneMoves.T27 : Bool × List (List Nat × List Nat) := (true, [([], []), ([0], [0]), ([], []), ([2, 1], [2]), ([1, 3], [1, 3]), ([4, 3], [4]), ([5], [5]), ([5], [5]), ([6, 7, 5], [5, 6, 7]), ([5, 8], [5, 8]), ([9, 5], [9]), ([10], [10]), ([10], [10]), ([11, 12, 10], [10, 11, 12]), ([10, 13], [10, 13]), ([14, 10], [14]), ([15], [15]), ([16, 15], [15, 16]), ([17, 15], [15, 17]), ([15], [15]), ([15], [15]), ([15], [15]), ([21, 15], [15, 21]), ([22, 15], [15, 22]), ([20, 23, 15], [15, 20, 23]), ([24, 15], [15, 24]), ([18, 19, 25, 15, 15], [15, 18, 19, 25]), ([15], [15]), ([27, 15], [15, 27]), ([28, 15], [15, 28]), ([15], [15]), ([15], [15]), ([15], [15]), ([32, 15], [15, 32]), ([33, 15], [15, 33]), ([31, 34, 15], [15, 31, 34]), ([35, 15], [15, 35]), ([29, 30, 36, 26, 15], [15, 29, 30, 36]), ([26, 37, 15], [15, 26, 37]), ([15, 38], [15, 38]), ([39, 37], [39]), ([40, 40], [40]), ([40, 41], [40, 41]), ([42, 41, 0, 1, 2, 3, 4, 5, 6, 7, 8, 9, 10, 11, 12, 13, 14, 15, 16, 17, 18, 19, 20, 21, 22, 23, 24, 25, 26, 27, 28, 29, 30, 31, 32, 33, 34, 35, 36, 37, 38, 39, 40, 41, 42], [42])])
def silversidelaw01_PlaneMoves.B27 : List Nat := [0, 1, 0, 7, 15, 31, 63, 63, 255, 511, 1023, 2047, 2047, 8191, 16383, 32767, 65535, 131071, 262143, 65535, 65535, 65535, 2162687, 6356991, 15794175, 32571391, 67108863, 65535, 134283263, 402718719, 65535, 65535, 65535, 4295032831, 12884967423, 32212320255, 66572058623, 137438953471, 274877906943, 549755813887, 1099511627775, 2199023255551, 4398046511103, 8796093022207]
theorem silversidelaw01_PlaneMoves.tab27 : rtab .any (opsOf Try.f14 27) = silversidelaw01_PlaneMoves.T27 := by kernel_rfl
theorem silversidelaw01_PlaneMoves.bits27 : waitsOk silversidelaw01_PlaneMoves.T27.2 silversidelaw01_PlaneMoves.B27 = true := by kernel_rfl
set_option maxHeartbeats 8000000 in
set_option maxRecDepth 100000 in
theorem silversidelaw01_PlaneMoves.calls (k : Nat) (A0 : Option Addr) (c0 : Nat) (l0 : List (S31)) (a1_0 : Int) (a1_1 : Int) (a2_0 : Int) (a2_1 : Int) (r : Bool) (hr_ : Aside0 (r = true)) (w : World) (hr0 : Kd.C k31 w A0 l0.length l0) (hc0 : l0.length ≤ c0) (h : silversidelaw01_PlaneMoves.f k l0 a1_0 a1_1 a2_0 a2_1 = some r) :
  Calls Try.prog 14 #[.slice A0 l0.length c0, .agg #[.int .i64 a1_0, .int .i64 a1_1], .agg #[.int .i64 a2_0, .int .i64 a2_1]] w fun e w' => e = .returned (.bool r) ∧ Below w.heap.size w w' := by
 have hu31 := Try.underlying31
 have hu49 := Try.underlying49
 have HR0 := Aside0.mk hr0
 have HC0 := Aside0.mk hc0
 clear hr0 hc0
 have HB := Aside0.mk (Below.refl w.heap.size w)
 have H : ((silversidelaw01_set.f k l0 40).bind fun t553 => ((silversidelaw01_grid.f a1_0 a1_1).bind fun bt556 => ((silversidelaw01_mod.f a2_0 4000).bind fun t558 => ((silversidelaw01_mod.f a2_1 4000).bind fun t559 => (silversidelaw01_PlaneMoves.l0 k t553 (wrap64 (t558 - 2000)) (wrap64 (t559 - 2000)) ([] : List (S31)) 0 bt556.1 bt556.2))))) = some r := h
 clear h
 replace H := Option.bind_eq_some_iff.mp H
 obtain ⟨t553, A40, H⟩ := H
 replace H : ((silversidelaw01_grid.f a1_0 a1_1).bind fun bt556 => ((silversidelaw01_mod.f a2_0 4000).bind fun t558 => ((silversidelaw01_mod.f a2_1 4000).bind fun t559 => (silversidelaw01_PlaneMoves.l0 k t553 (wrap64 (t558 - 2000)) (wrap64 (t559 - 2000)) ([] : List (S31)) 0 bt556.1 bt556.2)))) = some r := H
 have A4 := Aside0.mk A40
 clear A40
 replace H := Option.bind_eq_some_iff.mp H
 obtain ⟨⟨t556, t557⟩, A50, H⟩ := H
 replace H : ((silversidelaw01_mod.f a2_0 4000).bind fun t558 => ((silversidelaw01_mod.f a2_1 4000).bind fun t559 => (silversidelaw01_PlaneMoves.l0 k t553 (wrap64 (t558 - 2000)) (wrap64 (t559 - 2000)) ([] : List (S31)) 0 t556 t557))) = some r := H
 have A5 := Aside0.mk A50
 clear A50
 replace H := Option.bind_eq_some_iff.mp H
 obtain ⟨t558, A60, H⟩ := H
 replace H : ((silversidelaw01_mod.f a2_1 4000).bind fun t559 => (silversidelaw01_PlaneMoves.l0 k t553 (wrap64 (t558 - 2000)) (wrap64 (t559 - 2000)) ([] : List (S31)) 0 t556 t557)) = some r := H
 have A6 := Aside0.mk A60
 clear A60
 replace H := Option.bind_eq_some_iff.mp H
 obtain ⟨t559, A70, H⟩ := H
 replace H : (silversidelaw01_PlaneMoves.l0 k t553 (wrap64 (t558 - 2000)) (wrap64 (t559 - 2000)) ([] : List (S31)) 0 t556 t557) = some r := H
 have A7 := Aside0.mk A70
 clear A70
 have H' := Aside0.mk H
 clear H
 go_enter Try.func14, Try.ntmps14
 try go_wp2_with (first | ((with_reducible refine gate_dst (N := 4) rfl ?_); (try (refine gate_guard (by rfl) ?_; dsimp only)); refine bxe 4 #[.int .i64 a1_0, .int .i64 a1_1] 31 ?_; intro gb551 hg w8 hbox hb; have n0_ := Aside0.mk (below_step lB hb); have n1_ := Aside0.mk (hbox); have n2_ := Aside0.mk (lG (w := w) hg); have n3_ := Aside0.mk (lG (w := w) hg); clear HB; have HB := n0_; have BK551 := n1_; have GW551 := n2_; have GE551 := n3_; clear n0_ n1_ n2_ n3_; clear hb hbox hg) | ((with_reducible refine gate_dst (N := 5) rfl ?_); (try (refine gate_guard (by rfl) ?_; dsimp only)); refine bxe 5 #[.int .i64 a2_0, .int .i64 a2_1] 49 ?_; intro gb552 hg w9 hbox hb; have n0_ := Aside0.mk (blk_below (g := gb551) (o := .cells #[.int .i64 a1_0, .int .i64 a1_1] 31 (0, 0)) (kX BK551.out) hb); have n1_ := Aside0.mk (below_step lB hb); have n2_ := Aside0.mk (hbox); have n3_ := Aside0.mk (lG (w := w) hg); have n4_ := Aside0.mk (lG (w := w) hg); have n5_ := Aside0.mk ((by rw [hg]; exact Nat.ne_of_lt (blk_lt (g := gb551) (o := .cells #[.int .i64 a1_0, .int .i64 a1_1] 31 (0, 0)) (kX BK551.out)) : gb551 ≠ gb552)); have n6_ := Aside0.mk ((by rw [hg]; exact Nat.ne_of_gt (blk_lt (g := gb551) (o := .cells #[.int .i64 a1_0, .int .i64 a1_1] 31 (0, 0)) (kX BK551.out)) : gb552 ≠ gb551)); clear BK551; clear HB; have BK551 := n0_; have HB := n1_; have BK552 := n2_; have GW552 := n3_; have GE552 := n4_; have NB551_552 := n5_; have NB552_551 := n6_; clear n0_ n1_ n2_ n3_ n4_ n5_ n6_; clear hb hbox hg) | ((with_reducible refine gate_callee (f := 36) rfl ?_); refine goesL_ (some 31) rfl rfl Try.func36 (by kernel_rfl) rfl #[.slice A0 l0.length c0, .int .i64 40] rfl (by (try simp only [List.map_toArray, List.map_cons, List.map_nil]); first | done | rfl | (simp only [List.length_drop, List.length_take]; rfl)) ?_; (with_reducible refine (silversidelaw01_set.calls k _ _ l0 40 t553 _ ?side1 ?side2 A4.out).mono ?_); (case side1 => repeat (first | exact (Kd.C_below HR0.out HB.out) | (with_reducible refine Kd.C_alloc ?_ _) | (with_reducible refine Kd.C_drewN ?_ _) | (with_reducible refine Kd.C_drew ?_))); (case side2 => exact HC0.out); rintro e w10 ⟨v554, rfl, ho0, hb⟩; refine ⟨_, rfl, ?_⟩; have n0_ := Aside0.mk (Kd.R_lower (Kd.R_newB ho0 (g := gb551) (o := .cells #[.int .i64 a1_0, .int .i64 a1_1] 31 (0, 0)) (kX BK551.out)) (below_size lB)); have n1_ := Aside0.mk (blk_below (g := gb551) (o := .cells #[.int .i64 a1_0, .int .i64 a1_1] 31 (0, 0)) (kX BK551.out) hb); have n2_ := Aside0.mk (blk_below (g := gb552) (o := .cells #[.int .i64 a2_0, .int .i64 a2_1] 49 (0, 0)) (kX BK552.out) hb); have n3_ := Aside0.mk (below_step lB hb); clear BK551; clear BK552; clear HB; have HO555 := n0_; have BK551 := n1_; have BK552 := n2_; have HB := n3_; clear n0_ n1_ n2_ n3_; (try clear hb); (try clear hb2); (try clear hk); (try clear hi); (try clear ho0); have hnb11 := NB551_552.out; have hnc11 := NB552_551.out; have hcz12_0 : w10.cell? ⟨gb551, 0, none⟩ = some (.int .i64 a1_0) := (blk_cell BK551.out 0).trans rfl; have hcz12_1 : w10.cell? ⟨gb551, 1, none⟩ = some (.int .i64 a1_1) := (blk_cell BK551.out 1).trans rfl; have hfz12_0 := blk_frozen BK551.out 0; have hfz12_1 := blk_frozen BK551.out 1) | ((with_reducible refine gate_callee (f := 43) rfl ?_); refine goesL_ (some 33) rfl rfl Try.func43 (by kernel_rfl) rfl #[.agg #[.int .i64 a1_0, .int .i64 a1_1]] rfl (by (try simp only [List.map_toArray, List.map_cons, List.map_nil]); first | done | rfl | (simp only [List.length_drop, List.length_take]; rfl)) ?_; (with_reducible refine (silversidelaw01_grid.calls a1_0 a1_1 t556 t557 _ A5.out).mono ?_); rintro e w13 ⟨rfl, hb⟩; refine ⟨_, rfl, ?_⟩; have n0_ := Aside0.mk (Kd.R_below (by (with_reducible repeat (first | apply Kd.R_alloc | apply Kd.R_drewN | apply Kd.R_drew)); exact HO555.out) hb); have n1_ := Aside0.mk (blk_below (g := gb551) (o := .cells #[.int .i64 a1_0, .int .i64 a1_1] 31 (0, 0)) (kX BK551.out) hb); have n2_ := Aside0.mk (blk_below (g := gb552) (o := .cells #[.int .i64 a2_0, .int .i64 a2_1] 49 (0, 0)) (kX BK552.out) hb); have n3_ := Aside0.mk (below_step lB hb); clear HO555; clear BK551; clear BK552; clear HB; have HO555 := n0_; have BK551 := n1_; have BK552 := n2_; have HB := n3_; clear n0_ n1_ n2_ n3_; (try clear hb); (try clear hb2); (try clear hk); (try clear hi); have hcz14_0 : w13.cell? ⟨gb551, 0, none⟩ = some (.int .i64 a1_0) := (blk_cell BK551.out 0).trans rfl; have hcz14_1 : w13.cell? ⟨gb551, 1, none⟩ = some (.int .i64 a1_1) := (blk_cell BK551.out 1).trans rfl; have hfz14_0 := blk_frozen BK551.out 0; have hfz14_1 := blk_frozen BK551.out 1))
 have n0_ : Aside0 (Kd.R k31 31 ((w13.setCell ⟨gb551, 0, none⟩ (.int .i64 t556)).setCell ⟨gb551, 1, none⟩ (.int .i64 t557)) w.heap.size (fun k_ => k_ ≠ gb551) v554 t553) := ⟨by (with_reducible repeat (first | apply Kd.R_alloc | apply Kd.R_drewN | apply Kd.R_drew)); exact Kd.R_mono (Kd.R_far (p := ⟨gb551, 1, none⟩) (Kd.R_far (p := ⟨gb551, 0, none⟩) (Kd.R_mono HO555.out (fun k_ hk => (⟨hk, hk.2⟩ : _ ∧ k_ ≠ gb551))) (fun _ hk => hk.2) (.int .i64 t556)) (fun _ hk => hk.2) (.int .i64 t557)) (fun _ hk => hk.1.2)⟩
 have n1_ : Aside0 (((w13.setCell ⟨gb551, 0, none⟩ (.int .i64 t556)).setCell ⟨gb551, 1, none⟩ (.int .i64 t557)).heap[gb551]? = some (.cells #[.int .i64 t556, .int .i64 t557] 31 (0, 0))) := ⟨by (with_reducible repeat (first | refine kN ?_ _ | refine kD ?_ | refine kA ?_ _)); refine blk_put (cs := #[.int .i64 t556, .int .i64 a1_1]) ?_ 1 _ rfl; (with_reducible repeat (first | refine kN ?_ _ | refine kD ?_ | refine kA ?_ _)); refine blk_put (cs := #[.int .i64 a1_0, .int .i64 a1_1]) ?_ 0 _ rfl; (with_reducible repeat (first | refine kN ?_ _ | refine kD ?_ | refine kA ?_ _)); exact BK551.out⟩
 have n2_ : Aside0 (((w13.setCell ⟨gb551, 0, none⟩ (.int .i64 t556)).setCell ⟨gb551, 1, none⟩ (.int .i64 t557)).heap[gb552]? = some (.cells #[.int .i64 a2_0, .int .i64 a2_1] 49 (0, 0))) := ⟨by (with_reducible repeat (first | refine kN ?_ _ | refine kD ?_ | refine kA ?_ _)); refine blk_far ?_ NB552_551.out _; (with_reducible repeat (first | refine kN ?_ _ | refine kD ?_ | refine kA ?_ _)); refine blk_far ?_ NB552_551.out _; (with_reducible repeat (first | refine kN ?_ _ | refine kD ?_ | refine kA ?_ _)); exact BK552.out⟩
 have n3_ : Aside0 (Below w.heap.size w ((w13.setCell ⟨gb551, 0, none⟩ (.int .i64 t556)).setCell ⟨gb551, 1, none⟩ (.int .i64 t557))) := ⟨by repeat (first | (with_reducible first | exact HB.out | apply lA | apply lN | apply lD | refine lS ?_ GE551.out | refine lS ?_ GE552.out) | exact HB.out)⟩
 (try clear HO555)
 (try clear BK551)
 (try clear BK552)
 (try clear HB)
 generalize ((w13.setCell ⟨gb551, 0, none⟩ (.int .i64 t556)).setCell ⟨gb551, 1, none⟩ (.int .i64 t557)) = w15 at n0_ n1_ n2_ n3_ ⊢
 have HO555 := n0_
 have BK551 := n1_
 have BK552 := n2_
 have HB := n3_
 clear n0_ n1_ n2_ n3_
 replace HO555 := Aside0.mk (Kd.R_drew HO555.out)
 replace BK551 := Aside0.mk (kD BK551.out)
 replace BK552 := Aside0.mk (kD BK552.out)
 replace HB := Aside0.mk (lD HB.out)
 refine start_ (n := 10) (S := fun w' => w'.cell? ⟨gb552, 0, none⟩ = some (.int .i64 a2_0) ∧ w'.cell? ⟨gb552, 1, none⟩ = some (.int .i64 a2_1)) (ds := []) (Bs 0 10) (by kernel_rfl) rfl rfl ⟨(blk_cell BK552.out 0).trans rfl, (blk_cell BK552.out 1).trans rfl⟩ (fun hHeld => ?_); refine with_tabW silversidelaw01_PlaneMoves.tab3 silversidelaw01_PlaneMoves.bits3 (fun HT_ HW_ => ?_)
 generalize w15.drew = w16 at HO555 BK551 BK552 HB hHeld ⊢
 refine pu 0 34 (Bs 1 10) HT_ ?_
 refine pu 4 38 #[τ,φ,φ,φ,τ,φ,φ,φ,φ,φ] HT_ ?_
 refine ta 1 35 #[τ,τ,φ,φ,τ,φ,φ,φ,φ,φ] HT_ HW_ hHeld ?_
 refine ta 5 39 #[τ,τ,φ,φ,τ,τ,φ,φ,φ,φ] HT_ HW_ hHeld ?_
 refine one_ (i := 2) (N := some 36) #[τ,τ,τ,φ,τ,τ,φ,φ,φ,φ] rfl rfl (one_of HT_.out (by kernel_rfl)) (by decide) (fun K hK => ?_)
 refine goes_ Try.func44 (by kernel_rfl) rfl #[.int .i64 a2_0, .int .i64 4000] (by rfl) rfl rfl (by (try simp only [List.map_toArray, List.map_cons, List.map_nil]); first | done | rfl | (simp only [List.length_drop, List.length_take]; rfl)) ?_
 with_reducible refine (silversidelaw01_mod.calls a2_0 4000 t558 _ A6.out).mono ?_
 rintro e w' ⟨rfl, ⟨nd, rfl⟩⟩
 refine ⟨_, rfl, ?_⟩
 refine hK.out _ _ ⟨(blk_cell BK552.out 0).trans rfl, (blk_cell BK552.out 1).trans rfl⟩ (fun hHeld => ?_)
 clear hK K
 refine nm 36 ?_
 refine pu 3 37 (Bs 6 10) HT_ ?_
 refine one_ (i := 6) (N := some 40) (Bs 7 10) rfl rfl (one_of HT_.out (by kernel_rfl)) (by decide) (fun K hK => ?_)
 refine goes_ Try.func44 (by kernel_rfl) rfl #[.int .i64 a2_1, .int .i64 4000] (by rfl) rfl rfl (by (try simp only [List.map_toArray, List.map_cons, List.map_nil]); first | done | rfl | (simp only [List.length_drop, List.length_take]; rfl)) ?_
 with_reducible refine (silversidelaw01_mod.calls a2_1 4000 t559 _ A7.out).mono ?_
 rintro e w' ⟨rfl, ⟨nd, rfl⟩⟩
 refine ⟨_, rfl, ?_⟩
 refine hK.out _ _ ⟨(blk_cell BK552.out 0).trans rfl, (blk_cell BK552.out 1).trans rfl⟩ (fun hHeld => ?_)
 clear hK K
 refine nm 40 ?_
 refine pu 7 41 (Bs 8 10) HT_ ?_
 refine pu 8 8 (Bs 9 10) HT_ ?_
 refine pu 9 9 (Bs 10 10) HT_ ?_
 refine done_ (done_of HT_.out (by kernel_rfl)) ?_
 try go_wp2
 go_loopg [10, 11] k (fun kq v10 v11 w' => ∃ (x10_1 : List (S31)) (x11_1 : Int), v11 = .int .i64 x11_1 ∧ Aside0 (silversidelaw01_PlaneMoves.l0 kq t553 (wrap64 (t558 - 2000)) (wrap64 (t559 - 2000)) x10_1 x11_1 t556 t557 = some r) ∧ Aside0 (kq ≤ k) ∧ Aside0 (Kd.R k31 31 w' w.heap.size (fun k_ => some k_ ≠ (v10 : Value).ownBlock ∧ k_ ≠ gb551) v554 t553) ∧ Aside0 (Kd.R k31 31 w' w.heap.size (fun k_ => some k_ ≠ (v554 : Value).ownBlock ∧ k_ ≠ gb551) v10 x10_1) ∧ Aside0 (w'.heap[gb551]? = some (.cells #[.int .i64 t556, .int .i64 t557] 31 (0, 0))) ∧ Aside0 (w'.heap[gb552]? = some (.cells #[.int .i64 a2_0, .int .i64 a2_1] 49 (0, 0))) ∧ Aside0 (Below w.heap.size w w'))
 case atStart => exact ⟨(([] : List (S31))), (0), (by first | rfl | (simp; done) | (simp [*]; done)), H', ⟨Nat.le_refl _⟩, ⟨by (with_reducible repeat (first | apply Kd.R_alloc | apply Kd.R_drewN | apply Kd.R_drew)); exact Kd.R_mono HO555.out (fun _ hk => ⟨(by simp [Value.ownBlock]), hk⟩)⟩, ⟨by first | exact Kd.R_nil _ _ _ _ _ | exact Kd.N_nil _ _ _ _ _ | exact Kd.V_nil _ _ _ _ _ | exact Kd.Q_nil _ _ _ _ _ | exact Kd.S_nil _ _ _ _ _⟩, ⟨by (with_reducible repeat (first | refine kN ?_ _ | refine kD ?_ | refine kA ?_ _)); exact BK551.out⟩, ⟨by (with_reducible repeat (first | refine kN ?_ _ | refine kD ?_ | refine kA ?_ _)); exact BK552.out⟩, ⟨by repeat (first | (with_reducible first | exact HB.out | apply lA | apply lN | apply lD | refine lS ?_ GE551.out | refine lS ?_ GE552.out) | exact HB.out)⟩⟩
 case round =>
  as_aux_lemma =>
   clear H'
   try clear c1
   try clear p2
   try clear c3
   try clear c4
   try clear p6
   try clear c11
   try clear c14
   try clear hcz12_0
   try clear hcz12_1
   try clear hcz14_0
   try clear hcz14_1
   try clear hfz12_0
   try clear hfz12_1
   try clear hfz14_0
   try clear hfz14_1
   obtain ⟨x10_1, x11_1, rfl, HA, HK1, HO_7, HO_10, BK551, BK552, HB⟩ := hrel
   cases gk with
   | zero => exact absurd HA.out (by simp [silversidelaw01_PlaneMoves.l0])
   | succ k1 =>
    have H := HA.out
    clear HA
    simp only [silversidelaw01_PlaneMoves.l0] at H
    by_cases c17 : x11_1 < (t553.length : Int)
    ·rw [if_pos c17] at H
     have c17b0 : decide (x11_1 < (t553.length : Int)) = true := decide_eq_true c17
     clear c17
     by_cases c18 : 0 ≤ x11_1
     ·rw [if_pos c18] at H
      have c18b0 : decide (0 ≤ x11_1) = true := decide_eq_true c18
      clear c18
      by_cases c19 : x10_1.length < 8796093022208
      ·rw [if_pos c19] at H
       have LMc19 := Aside0.mk c19
       clear c19
       obtain ⟨y562, hy562⟩ : ∃ y_ : List (S31), y_ = (x10_1 ++ [(⟨wrap64 (((rd_T31 t553 x11_1).f0) + (wrap64 (t558 - 2000))), wrap64 (((rd_T31 t553 x11_1).f1) + (wrap64 (t559 - 2000)))⟩ : S31)]) := ⟨_, rfl⟩
       replace H : (silversidelaw01_PlaneMoves.l0 k1 t553 (wrap64 (t558 - 2000)) (wrap64 (t559 - 2000)) y562 (wrap64 (x11_1 + 1)) t556 t557) = some r := by first | (rw [hy562]; with_reducible exact H) | (have H2_ := (Option.bind_some _ _).symm.trans H; rw [hy562]; with_reducible exact H2_) | (have H2_ := (Option.bind_some _ _).symm.trans H; with_reducible exact H2_) | with_reducible exact H | (rw [hy562]; exact H) | exact H
       have Ny562 := Aside0.mk hy562
       clear hy562
       have H' := Aside0.mk H
       clear H
       obtain ⟨Ao20, co20, eo20⟩ := Kd.R_slice HO_7.out
       subst eo20
       try go_wp2
       replace HO_7 := Aside0.mk (Kd.R_drew HO_7.out)
       replace HO_10 := Aside0.mk (Kd.R_drew HO_10.out)
       replace BK551 := Aside0.mk (kD BK551.out)
       replace BK552 := Aside0.mk (kD BK552.out)
       replace HB := Aside0.mk (lD HB.out)
       have p560 : 0 ≤ (x11_1 : Int) := of_decide_eq_true (by first | (with_reducible assumption) | assumption)
       have q560 : x11_1 < (t553.length : Int) := of_decide_eq_true (by first | (with_reducible assumption) | assumption)
       obtain ⟨ad560, e560, hx560_0, hx560_1⟩ := at_T31 (Kd.R_reads' HO_7.out).2.2 x11_1 p560 q560
       cases e560
       replace p560 := eq_true p560
       replace q560 := eq_true q560
       have p561 : 0 ≤ (x11_1 : Int) := of_decide_eq_true (by first | (with_reducible assumption) | assumption)
       have q561 : x11_1 < (t553.length : Int) := of_decide_eq_true (by first | (with_reducible assumption) | assumption)
       obtain ⟨ad561, e561, hx561_0, hx561_1⟩ := at_T31 (Kd.R_reads' HO_7.out).2.2 x11_1 p561 q561
       obtain rfl : ad560 = ad561 := (by injection e561)
       replace p561 := eq_true p561
       replace q561 := eq_true q561
       refine start_ (n := 19) (S := fun w' => w'.cell? (ad560.add ((x11_1).toNat * 2)) = some (.int .i64 ((rd_T31 t553 x11_1).f0)) ∧ w'.cell? ⟨(ad560.add ((x11_1).toNat * 2)).block, (ad560.add ((x11_1).toNat * 2)).off + 1, none⟩ = some (.int .i64 ((rd_T31 t553 x11_1).f1)) ∧ w'.cell? (ad560.add ((x11_1).toNat * 2)) = some (.int .i64 ((rd_T31 t553 x11_1).f0)) ∧ w'.cell? ⟨(ad560.add ((x11_1).toNat * 2)).block, (ad560.add ((x11_1).toNat * 2)).off + 1, none⟩ = some (.int .i64 ((rd_T31 t553 x11_1).f1))) (ds := [16, 17]) (Bs 0 19) (by kernel_rfl) rfl rfl ⟨hx560_0, hx560_1, hx561_0, hx561_1⟩ (fun hHeld => ?_); refine with_tabW silversidelaw01_PlaneMoves.tab8 silversidelaw01_PlaneMoves.bits8 (fun HT_ HW_ => ?_)
       generalize wr.drew = w21 at HO_7 HO_10 BK551 BK552 HB hx560_0 hx560_1 hx561_0 hx561_1 hHeld ⊢
       refine pu 0 48 (Bs 1 19) HT_ ?_
       refine pu 1 49 (Bs 2 19) HT_ ?_
       refine pu 2 50 (Bs 3 19) HT_ ?_
       refine pu 3 51 (Bs 4 19) HT_ ?_
       refine pu 4 52 (Bs 5 19) HT_ ?_
       refine pu 6 54 (Br [5,1,1,12]) HT_ ?_
       refine pu 8 56 (Br [5,1,1,1,1,10]) HT_ ?_
       refine pu 9 57 (Br [5,1,1,1,2,9]) HT_ ?_
       refine pu 10 58 (Br [5,1,1,1,3,8]) HT_ ?_
       refine pu 11 59 (Br [5,1,1,1,4,7]) HT_ ?_
       refine pu 13 61 (Br [5,1,1,1,4,1,1,5]) HT_ ?_
       refine ta 5 53 (Br [7,1,4,1,1,5]) HT_ HW_ hHeld ?_
       refine pu 7 55 (Br [12,1,1,5]) HT_ ?_
       refine ta 12 60 (Bs 14 19) HT_ HW_ hHeld ?_
       refine pu 14 62 (Bs 15 19) HT_ ?_
       refine pu 15 63 (Bs 16 19) HT_ ?_
       refine last_ (i := 16) (N := some 64) (Bs 17 19) rfl rfl (one_of HT_.out (by kernel_rfl)) (by decide) (fun K hK => ?_)
       refine value_ (w1 := ?_) (v := ?_) (by rfl) rfl ?_ ?_
       rotate_left 2
       ·go_simp
        constructor
        ·rfl
        ·rfl
       refine hK.out _ _ ?_
       clear hK K
       refine nm 64 ?_
       refine last_ (i := 17) (N := some 65) (Bs 18 19) rfl rfl (one_of HT_.out (by kernel_rfl)) (by decide) (fun K hK => ?_)
       refine Kd.R_append_step k31 (w0 := w) w.heap.size (by rfl) (.tmp 48) (.tmp 64) 22 31 (.agg #[(.int .i64 0), (.int .i64 0)]) 16 rfl Try.underlying22 info31 rfl (by decide) (by omega) u10 x10_1 (⟨wrap64 (((rd_T31 t553 x11_1).f0) + (wrap64 (t558 - 2000))), wrap64 (((rd_T31 t553 x11_1).f1) + (wrap64 (t559 - 2000)))⟩ : S31) [.int .i64 (wrap64 (((rd_T31 t553 x11_1).f0) + (wrap64 (t558 - 2000)))), .int .i64 (wrap64 (((rd_T31 t553 x11_1).f1) + (wrap64 (t559 - 2000))))] (fun k_ => some k_ ≠ (.slice (some ad560) t553.length co20 : Value).ownBlock ∧ k_ ≠ gb551) (fun _ => False) rfl rfl ?aP (fun _ hk => hk.elim) ?aF ?aO ?aB ?aS ?aL ?_
       (case aP => exact k31_mkM _ _ _ (⟨wrap64 (((rd_T31 t553 x11_1).f0) + (wrap64 (t558 - 2000))), wrap64 (((rd_T31 t553 x11_1).f1) + (wrap64 (t559 - 2000)))⟩ : S31))
       (case aB => exact lB)
       (case aF => exact (fun k_ hk => ⟨Kd.fresh' (Kd.R_lt (by (with_reducible repeat (first | apply Kd.R_alloc | apply Kd.R_drewN | apply Kd.R_drew)); exact HO_7.out)) k_ hk, Kd.freshB (g := gb551) (o := .cells #[.int .i64 t556, .int .i64 t557] 31 (0, 0)) (kX BK551.out) k_ hk⟩))
       (case aO => exact (by (with_reducible repeat (first | apply Kd.R_alloc | apply Kd.R_drewN | apply Kd.R_drew)); exact HO_10.out))
       (case aS => exact (below_size lB))
       (case aL => have := LMc19.out; omega)
       intro v563 w22 ho hb hg hat
       rw [← Ny562.out] at ho
       have n0_ := Aside0.mk (Kd.R_after (ok := (fun k_ => k_ ≠ gb551)) (by (with_reducible repeat (first | apply Kd.R_alloc | apply Kd.R_drewN | apply Kd.R_drew)); exact Kd.R_mono HO_7.out (fun _ hk => ⟨hk.2, hk.1⟩)) hg hat)
       have n1_ := Aside0.mk (blk_grown (g := gb551) (o := .cells #[.int .i64 t556, .int .i64 t557] 31 (0, 0)) (kX BK551.out) hg (Kd.R_away HO_10.out (fun _ hk => hk.2)))
       have n2_ := Aside0.mk (blk_grown (g := gb552) (o := .cells #[.int .i64 a2_0, .int .i64 a2_1] 49 (0, 0)) (kX BK552.out) hg (Kd.R_ne HO_10.out BK552.out (by decide)))
       have n3_ := Aside0.mk (hb)
       have n4_ := Aside0.mk (ho)
       clear HO_7
       clear BK551
       clear BK552
       clear HB
       clear HO_10
       have HO_7 := n0_
       have BK551 := n1_
       have BK552 := n2_
       have HB := n3_
       have HO564 := n4_
       clear n0_ n1_ n2_ n3_ n4_
       clear ho hb hg hat
       refine hK.out _ _ ?_
       clear hK K
       refine nm 65 ?_
       refine pu 18 10 (Bs 19 19) HT_ ?_
       refine done_ (done_of HT_.out (by kernel_rfl)) ?_
       try go_wp2
       go_roundg k1
       case measure => have := HK1.out; omega
       case rel => exact ⟨(y562), (wrap64 (x11_1 + 1)), (by first | rfl | (simp; done) | (simp [*]; done)), H', ⟨by have := HK1.out; omega⟩, ⟨by (with_reducible repeat (first | apply Kd.R_alloc | apply Kd.R_drewN | apply Kd.R_drew)); exact Kd.R_mono HO_7.out (fun _ hk => ⟨hk.2, hk.1⟩)⟩, ⟨by (with_reducible repeat (first | apply Kd.R_alloc | apply Kd.R_drewN | apply Kd.R_drew)); exact HO564.out⟩, ⟨by (with_reducible repeat (first | refine kN ?_ _ | refine kD ?_ | refine kA ?_ _)); exact BK551.out⟩, ⟨by (with_reducible repeat (first | refine kN ?_ _ | refine kD ?_ | refine kA ?_ _)); exact BK552.out⟩, ⟨by repeat (first | (with_reducible first | exact HB.out | apply lA | apply lN | apply lD | refine lS ?_ GE551.out | refine lS ?_ GE552.out) | exact HB.out)⟩⟩
      ·rw [if_neg c19] at H
       exact absurd H (by simp)
     ·rw [if_neg c18] at H
      exact absurd H (by simp)
    ·rw [if_neg c17] at H
     have c17b0 : decide (x11_1 < (t553.length : Int)) = false := decide_eq_false c17
     clear c17
     have HC23 := Aside0.mk H
     clear H
     obtain ⟨Ao24, co24, eo24⟩ := Kd.R_slice HO_7.out
     subst eo24
     have hnb25 := NB551_552.out
     have hnc25 := NB552_551.out
     have hcz26_0 : wr.cell? ⟨gb551, 0, none⟩ = some (.int .i64 t556) := (blk_cell BK551.out 0).trans rfl
     have hcz26_1 : wr.cell? ⟨gb551, 1, none⟩ = some (.int .i64 t557) := (blk_cell BK551.out 1).trans rfl
     have hfz26_0 := blk_frozen BK551.out 0
     have hfz26_1 := blk_frozen BK551.out 1
     go_upto_region 10 with (first | ((with_reducible refine gate_dst (N := 12) rfl ?_); (try (refine gate_guard (by rfl) ?_; dsimp only)); refine bxe 12 #[.int .i64 0, .int .i64 0] 31 ?_; intro gb565 hg w27 hbox hb; have n0_ := Aside0.mk (Kd.R_below (Kd.R_elderB (by (with_reducible repeat (first | apply Kd.R_alloc | apply Kd.R_drewN | apply Kd.R_drew)); exact HO_7.out) gb565 (Nat.le_of_eq hg.symm)) hb); have n1_ := Aside0.mk (Kd.R_below (Kd.R_elderB (by (with_reducible repeat (first | apply Kd.R_alloc | apply Kd.R_drewN | apply Kd.R_drew)); exact HO_10.out) gb565 (Nat.le_of_eq hg.symm)) hb); have n2_ := Aside0.mk (blk_below (g := gb551) (o := .cells #[.int .i64 t556, .int .i64 t557] 31 (0, 0)) (kX BK551.out) hb); have n3_ := Aside0.mk (blk_below (g := gb552) (o := .cells #[.int .i64 a2_0, .int .i64 a2_1] 49 (0, 0)) (kX BK552.out) hb); have n4_ := Aside0.mk (below_step lB hb); have n5_ := Aside0.mk (hbox); have n6_ := Aside0.mk (lG (w := w) hg); have n7_ := Aside0.mk (lG (w := w) hg); have n8_ := Aside0.mk ((by rw [hg]; exact Nat.ne_of_lt (blk_lt (g := gb551) (o := .cells #[.int .i64 t556, .int .i64 t557] 31 (0, 0)) (kX BK551.out)) : gb551 ≠ gb565)); have n9_ := Aside0.mk ((by rw [hg]; exact Nat.ne_of_gt (blk_lt (g := gb551) (o := .cells #[.int .i64 t556, .int .i64 t557] 31 (0, 0)) (kX BK551.out)) : gb565 ≠ gb551)); have n10_ := Aside0.mk ((by rw [hg]; exact Nat.ne_of_lt (blk_lt (g := gb552) (o := .cells #[.int .i64 a2_0, .int .i64 a2_1] 49 (0, 0)) (kX BK552.out)) : gb552 ≠ gb565)); have n11_ := Aside0.mk ((by rw [hg]; exact Nat.ne_of_gt (blk_lt (g := gb552) (o := .cells #[.int .i64 a2_0, .int .i64 a2_1] 49 (0, 0)) (kX BK552.out)) : gb565 ≠ gb552)); clear HO_7; clear HO_10; clear BK551; clear BK552; clear HB; have HO_7 := n0_; have HO_10 := n1_; have BK551 := n2_; have BK552 := n3_; have HB := n4_; have BK565 := n5_; have GW565 := n6_; have GE565 := n7_; have NB551_565 := n8_; have NB565_551 := n9_; have NB552_565 := n10_; have NB565_552 := n11_; clear n0_ n1_ n2_ n3_ n4_ n5_ n6_ n7_ n8_ n9_ n10_ n11_; clear hb hbox hg; have hnb28 := NB565_551.out; have hnc28 := NB551_565.out; have hnb29 := NB565_552.out; have hnc29 := NB552_565.out; have hcz30_0 : w27.cell? ⟨gb565, 0, none⟩ = some (.int .i64 0) := (blk_cell BK565.out 0).trans rfl; have hcz30_1 : w27.cell? ⟨gb565, 1, none⟩ = some (.int .i64 0) := (blk_cell BK565.out 1).trans rfl; have hfz30_0 := blk_frozen BK565.out 0; have hfz30_1 := blk_frozen BK565.out 1))
     (try simp only [Act.put, sA, sB, sC])
     go_cut [82] (fun v82 wc => ∃ (kq : Nat) (x82_22 : Bool), v82 = .bool x82_22 ∧ Aside0 (silversidelaw01_PlaneMoves.j1 kq t553 (wrap64 (t558 - 2000)) (wrap64 (t559 - 2000)) x10_1 x82_22 t556 t557 (wrap64 (t556 + (wrap64 (t558 - 2000)))) (wrap64 (t557 + (wrap64 (t559 - 2000)))) = some r) ∧ Aside0 (kq ≤ k1) ∧ Aside0 (Kd.R k31 31 wc w.heap.size (fun k_ => some k_ ≠ (u10 : Value).ownBlock ∧ k_ ≠ gb551 ∧ k_ ≠ gb565) (.slice Ao24 t553.length co24) t553) ∧ Aside0 (Kd.R k31 31 wc w.heap.size (fun k_ => some k_ ≠ ((.slice Ao24 t553.length co24) : Value).ownBlock ∧ k_ ≠ gb551 ∧ k_ ≠ gb565) u10 x10_1) ∧ Aside0 (wc.heap[gb551]? = some (.cells #[.int .i64 t556, .int .i64 t557] 31 (0, 0))) ∧ Aside0 (wc.heap[gb552]? = some (.cells #[.int .i64 a2_0, .int .i64 a2_1] 49 (0, 0))) ∧ Aside0 (wc.heap[gb565]? = some (.cells #[.int .i64 (wrap64 (t556 + (wrap64 (t558 - 2000)))), .int .i64 (wrap64 (t557 + (wrap64 (t559 - 2000))))] 31 (0, 0))) ∧ Aside0 (Below w.heap.size w wc))
     case first =>
      have H := HC23.out
      clear HC23
      replace H := Option.bind_eq_some_iff.mp H
      obtain ⟨t566, A310, H⟩ := H
      replace H : (if t566 = true then ((silversideref01_Valid.f (wrap64 (t556 + (wrap64 (t558 - 2000)))) (wrap64 (t557 + (wrap64 (t559 - 2000))))).bind fun t567 => (silversidelaw01_PlaneMoves.j1 k1 t553 (wrap64 (t558 - 2000)) (wrap64 (t559 - 2000)) x10_1 (!t567) t556 t557 (wrap64 (t556 + (wrap64 (t558 - 2000)))) (wrap64 (t557 + (wrap64 (t559 - 2000)))))) else (silversidelaw01_PlaneMoves.j1 k1 t553 (wrap64 (t558 - 2000)) (wrap64 (t559 - 2000)) x10_1 true t556 t557 (wrap64 (t556 + (wrap64 (t558 - 2000)))) (wrap64 (t557 + (wrap64 (t559 - 2000)))))) = some r := H
      have A31 := Aside0.mk A310
      clear A310
      by_cases c32 : t566 = true
      ·subst c32
       have H1 : ((silversideref01_Valid.f (wrap64 (t556 + (wrap64 (t558 - 2000)))) (wrap64 (t557 + (wrap64 (t559 - 2000))))).bind fun t567 => (silversidelaw01_PlaneMoves.j1 k1 t553 (wrap64 (t558 - 2000)) (wrap64 (t559 - 2000)) x10_1 (!t567) t556 t557 (wrap64 (t556 + (wrap64 (t558 - 2000)))) (wrap64 (t557 + (wrap64 (t559 - 2000)))))) = some r := by rw [if_pos rfl] at H; exact H
       clear H
       have H := H1
       clear H1
       replace H := Option.bind_eq_some_iff.mp H
       obtain ⟨t567, A330, H⟩ := H
       replace H : (silversidelaw01_PlaneMoves.j1 k1 t553 (wrap64 (t558 - 2000)) (wrap64 (t559 - 2000)) x10_1 (!t567) t556 t557 (wrap64 (t556 + (wrap64 (t558 - 2000)))) (wrap64 (t557 + (wrap64 (t559 - 2000))))) = some r := H
       have A33 := Aside0.mk A330
       clear A330
       have H' := Aside0.mk H
       clear H
       obtain ⟨Ao34, co34, eo34⟩ := Kd.R_slice HO_10.out
       subst eo34
       go_wp2_with (first | ((with_reducible refine gate_callee (f := 22) rfl ?_); refine goesL_ (some 76) rfl rfl Try.func22 (by kernel_rfl) rfl #[.slice Ao34 x10_1.length co34] rfl (by (try simp only [List.map_toArray, List.map_cons, List.map_nil]); first | done | rfl | (simp only [List.length_drop, List.length_take]; rfl)) ?_; (with_reducible refine (silversideref01_Valids.calls k1 _ _ x10_1 true _ ?side1 ?side2 A31.out).mono ?_); (case side1 => refine (Kd.R_reads' (e := 31) (base := w.heap.size) (ok := fun k_ => ((some k_ ≠ (.slice Ao24 t553.length co24 : Value).ownBlock ∧ k_ ≠ gb551) ∧ k_ ≠ gb565)) (n := x10_1.length) (c := co34) ?_).2.2; exact (by (with_reducible repeat (first | apply Kd.R_alloc | apply Kd.R_drewN | apply Kd.R_drew)); exact (Kd.R_mono (Kd.R_far (p := ⟨gb565, 1, none⟩) (Kd.R_far (p := ⟨gb565, 0, none⟩) (Kd.R_mono HO_10.out (fun k_ hk => (⟨hk, hk.2⟩ : _ ∧ k_ ≠ gb565))) (fun _ hk => hk.2) (.int .i64 (wrap64 (t556 + (wrap64 (t558 - 2000)))))) (fun _ hk => hk.2) (.int .i64 (wrap64 (t557 + (wrap64 (t559 - 2000)))))) (fun _ h_ => h_.1)))); (case side2 => exact (Kd.R_reads' HO_10.out).2.1); rintro e w35 ⟨rfl, hb⟩; refine ⟨_, rfl, ?_⟩; have n0_ := Aside0.mk (Kd.R_below (by (with_reducible repeat (first | apply Kd.R_alloc | apply Kd.R_drewN | apply Kd.R_drew)); exact (Kd.R_mono (Kd.R_far (p := ⟨gb565, 1, none⟩) (Kd.R_far (p := ⟨gb565, 0, none⟩) (Kd.R_mono HO_7.out (fun k_ hk => (⟨hk, hk.2⟩ : _ ∧ k_ ≠ gb565))) (fun _ hk => hk.2) (.int .i64 (wrap64 (t556 + (wrap64 (t558 - 2000)))))) (fun _ hk => hk.2) (.int .i64 (wrap64 (t557 + (wrap64 (t559 - 2000)))))) (fun _ h_ => h_.1))) hb); have n1_ := Aside0.mk (Kd.R_below (by (with_reducible repeat (first | apply Kd.R_alloc | apply Kd.R_drewN | apply Kd.R_drew)); exact (Kd.R_mono (Kd.R_far (p := ⟨gb565, 1, none⟩) (Kd.R_far (p := ⟨gb565, 0, none⟩) (Kd.R_mono HO_10.out (fun k_ hk => (⟨hk, hk.2⟩ : _ ∧ k_ ≠ gb565))) (fun _ hk => hk.2) (.int .i64 (wrap64 (t556 + (wrap64 (t558 - 2000)))))) (fun _ hk => hk.2) (.int .i64 (wrap64 (t557 + (wrap64 (t559 - 2000)))))) (fun _ h_ => h_.1))) hb); have n2_ := Aside0.mk (blk_below (g := gb551) (o := .cells #[.int .i64 t556, .int .i64 t557] 31 (0, 0)) (by (with_reducible repeat (first | refine kN ?_ _ | refine kD ?_ | refine kA ?_ _)); refine blk_far ?_ NB551_565.out _; (with_reducible repeat (first | refine kN ?_ _ | refine kD ?_ | refine kA ?_ _)); refine blk_far ?_ NB551_565.out _; (with_reducible repeat (first | refine kN ?_ _ | refine kD ?_ | refine kA ?_ _)); exact BK551.out) hb); have n3_ := Aside0.mk (blk_below (g := gb552) (o := .cells #[.int .i64 a2_0, .int .i64 a2_1] 49 (0, 0)) (by (with_reducible repeat (first | refine kN ?_ _ | refine kD ?_ | refine kA ?_ _)); refine blk_far ?_ NB552_565.out _; (with_reducible repeat (first | refine kN ?_ _ | refine kD ?_ | refine kA ?_ _)); refine blk_far ?_ NB552_565.out _; (with_reducible repeat (first | refine kN ?_ _ | refine kD ?_ | refine kA ?_ _)); exact BK552.out) hb); have n4_ := Aside0.mk (blk_below (g := gb565) (o := .cells #[.int .i64 (wrap64 (t556 + (wrap64 (t558 - 2000)))), .int .i64 (wrap64 (t557 + (wrap64 (t559 - 2000))))] 31 (0, 0)) (by (with_reducible repeat (first | refine kN ?_ _ | refine kD ?_ | refine kA ?_ _)); refine blk_put (cs := #[.int .i64 (wrap64 (t556 + (wrap64 (t558 - 2000)))), .int .i64 0]) ?_ 1 _ rfl; (with_reducible repeat (first | refine kN ?_ _ | refine kD ?_ | refine kA ?_ _)); refine blk_put (cs := #[.int .i64 0, .int .i64 0]) ?_ 0 _ rfl; (with_reducible repeat (first | refine kN ?_ _ | refine kD ?_ | refine kA ?_ _)); exact BK565.out) hb); have n5_ := Aside0.mk (below_step lB hb); clear HO_7; clear HO_10; clear BK551; clear BK552; clear BK565; clear HB; have HO_7 := n0_; have HO_10 := n1_; have BK551 := n2_; have BK552 := n3_; have BK565 := n4_; have HB := n5_; clear n0_ n1_ n2_ n3_ n4_ n5_; (try clear hb); (try clear hb2); (try clear hk); (try clear hi); have hnb36 := NB565_551.out; have hnc36 := NB551_565.out; have hnb37 := NB565_552.out; have hnc37 := NB552_565.out; have hcz38_0 : w35.cell? ⟨gb565, 0, none⟩ = some (.int .i64 (wrap64 (t556 + (wrap64 (t558 - 2000))))) := (blk_cell BK565.out 0).trans rfl; have hcz38_1 : w35.cell? ⟨gb565, 1, none⟩ = some (.int .i64 (wrap64 (t557 + (wrap64 (t559 - 2000))))) := (blk_cell BK565.out 1).trans rfl; have hfz38_0 := blk_frozen BK565.out 0; have hfz38_1 := blk_frozen BK565.out 1) | (go_at_call 28; (with_reducible refine (silversideref01_Valid.calls (wrap64 (t556 + (wrap64 (t558 - 2000)))) (wrap64 (t557 + (wrap64 (t559 - 2000)))) t567 _ A33.out).mono ?_); rintro e w39 ⟨rfl, hb⟩; have n0_ := Aside0.mk (Kd.R_below (by (with_reducible repeat (first | apply Kd.R_alloc | apply Kd.R_drewN | apply Kd.R_drew)); exact HO_7.out) hb); have n1_ := Aside0.mk (Kd.R_below (by (with_reducible repeat (first | apply Kd.R_alloc | apply Kd.R_drewN | apply Kd.R_drew)); exact HO_10.out) hb); have n2_ := Aside0.mk (blk_below (g := gb551) (o := .cells #[.int .i64 t556, .int .i64 t557] 31 (0, 0)) (kX BK551.out) hb); have n3_ := Aside0.mk (blk_below (g := gb552) (o := .cells #[.int .i64 a2_0, .int .i64 a2_1] 49 (0, 0)) (kX BK552.out) hb); have n4_ := Aside0.mk (blk_below (g := gb565) (o := .cells #[.int .i64 (wrap64 (t556 + (wrap64 (t558 - 2000)))), .int .i64 (wrap64 (t557 + (wrap64 (t559 - 2000))))] 31 (0, 0)) (kX BK565.out) hb); have n5_ := Aside0.mk (below_step lB hb); clear HO_7; clear HO_10; clear BK551; clear BK552; clear BK565; clear HB; have HO_7 := n0_; have HO_10 := n1_; have BK551 := n2_; have BK552 := n3_; have BK565 := n4_; have HB := n5_; clear n0_ n1_ n2_ n3_ n4_ n5_; (try clear hb); (try clear hb2); (try clear hk); (try clear hi)))
       go_meet
       case rel => exact ⟨_, (!t567), (by first | rfl | (simp; done) | (simp [*]; done)), H', ⟨by have := HK1.out; first | omega | exact Nat.le_refl _⟩, ⟨by (with_reducible repeat (first | apply Kd.R_alloc | apply Kd.R_drewN | apply Kd.R_drew)); exact Kd.R_mono HO_7.out (fun _ hk => ⟨hk.1.1, ⟨hk.1.2, hk.2⟩⟩)⟩, ⟨by (with_reducible repeat (first | apply Kd.R_alloc | apply Kd.R_drewN | apply Kd.R_drew)); exact Kd.R_mono HO_10.out (fun _ hk => ⟨hk.1.1, ⟨hk.1.2, hk.2⟩⟩)⟩, ⟨by (with_reducible repeat (first | refine kN ?_ _ | refine kD ?_ | refine kA ?_ _)); exact BK551.out⟩, ⟨by (with_reducible repeat (first | refine kN ?_ _ | refine kD ?_ | refine kA ?_ _)); exact BK552.out⟩, ⟨by (with_reducible repeat (first | refine kN ?_ _ | refine kD ?_ | refine kA ?_ _)); exact BK565.out⟩, ⟨by repeat (first | (with_reducible first | exact HB.out | apply lA | apply lN | apply lD | refine lS ?_ GE551.out | refine lS ?_ GE552.out | refine lS ?_ GE565.out) | exact HB.out)⟩⟩
      ·replace c32 := Bool.eq_false_iff.mpr c32
       subst c32
       have H1 : (silversidelaw01_PlaneMoves.j1 k1 t553 (wrap64 (t558 - 2000)) (wrap64 (t559 - 2000)) x10_1 true t556 t557 (wrap64 (t556 + (wrap64 (t558 - 2000)))) (wrap64 (t557 + (wrap64 (t559 - 2000))))) = some r := by rw [if_neg (show ¬ (false = true) by decide)] at H; exact H
       clear H
       have H := H1
       clear H1
       have H' := Aside0.mk H
       clear H
       obtain ⟨Ao40, co40, eo40⟩ := Kd.R_slice HO_10.out
       subst eo40
       go_wp2_with (first | ((with_reducible refine gate_callee (f := 22) rfl ?_); refine goesL_ (some 76) rfl rfl Try.func22 (by kernel_rfl) rfl #[.slice Ao40 x10_1.length co40] rfl (by (try simp only [List.map_toArray, List.map_cons, List.map_nil]); first | done | rfl | (simp only [List.length_drop, List.length_take]; rfl)) ?_; (with_reducible refine (silversideref01_Valids.calls k1 _ _ x10_1 false _ ?side1 ?side2 A31.out).mono ?_); (case side1 => refine (Kd.R_reads' (e := 31) (base := w.heap.size) (ok := fun k_ => ((some k_ ≠ (.slice Ao24 t553.length co24 : Value).ownBlock ∧ k_ ≠ gb551) ∧ k_ ≠ gb565)) (n := x10_1.length) (c := co40) ?_).2.2; exact (by (with_reducible repeat (first | apply Kd.R_alloc | apply Kd.R_drewN | apply Kd.R_drew)); exact (Kd.R_mono (Kd.R_far (p := ⟨gb565, 1, none⟩) (Kd.R_far (p := ⟨gb565, 0, none⟩) (Kd.R_mono HO_10.out (fun k_ hk => (⟨hk, hk.2⟩ : _ ∧ k_ ≠ gb565))) (fun _ hk => hk.2) (.int .i64 (wrap64 (t556 + (wrap64 (t558 - 2000)))))) (fun _ hk => hk.2) (.int .i64 (wrap64 (t557 + (wrap64 (t559 - 2000)))))) (fun _ h_ => h_.1)))); (case side2 => exact (Kd.R_reads' HO_10.out).2.1); rintro e w41 ⟨rfl, hb⟩; refine ⟨_, rfl, ?_⟩; have n0_ := Aside0.mk (Kd.R_below (by (with_reducible repeat (first | apply Kd.R_alloc | apply Kd.R_drewN | apply Kd.R_drew)); exact (Kd.R_mono (Kd.R_far (p := ⟨gb565, 1, none⟩) (Kd.R_far (p := ⟨gb565, 0, none⟩) (Kd.R_mono HO_7.out (fun k_ hk => (⟨hk, hk.2⟩ : _ ∧ k_ ≠ gb565))) (fun _ hk => hk.2) (.int .i64 (wrap64 (t556 + (wrap64 (t558 - 2000)))))) (fun _ hk => hk.2) (.int .i64 (wrap64 (t557 + (wrap64 (t559 - 2000)))))) (fun _ h_ => h_.1))) hb); have n1_ := Aside0.mk (Kd.R_below (by (with_reducible repeat (first | apply Kd.R_alloc | apply Kd.R_drewN | apply Kd.R_drew)); exact (Kd.R_mono (Kd.R_far (p := ⟨gb565, 1, none⟩) (Kd.R_far (p := ⟨gb565, 0, none⟩) (Kd.R_mono HO_10.out (fun k_ hk => (⟨hk, hk.2⟩ : _ ∧ k_ ≠ gb565))) (fun _ hk => hk.2) (.int .i64 (wrap64 (t556 + (wrap64 (t558 - 2000)))))) (fun _ hk => hk.2) (.int .i64 (wrap64 (t557 + (wrap64 (t559 - 2000)))))) (fun _ h_ => h_.1))) hb); have n2_ := Aside0.mk (blk_below (g := gb551) (o := .cells #[.int .i64 t556, .int .i64 t557] 31 (0, 0)) (by (with_reducible repeat (first | refine kN ?_ _ | refine kD ?_ | refine kA ?_ _)); refine blk_far ?_ NB551_565.out _; (with_reducible repeat (first | refine kN ?_ _ | refine kD ?_ | refine kA ?_ _)); refine blk_far ?_ NB551_565.out _; (with_reducible repeat (first | refine kN ?_ _ | refine kD ?_ | refine kA ?_ _)); exact BK551.out) hb); have n3_ := Aside0.mk (blk_below (g := gb552) (o := .cells #[.int .i64 a2_0, .int .i64 a2_1] 49 (0, 0)) (by (with_reducible repeat (first | refine kN ?_ _ | refine kD ?_ | refine kA ?_ _)); refine blk_far ?_ NB552_565.out _; (with_reducible repeat (first | refine kN ?_ _ | refine kD ?_ | refine kA ?_ _)); refine blk_far ?_ NB552_565.out _; (with_reducible repeat (first | refine kN ?_ _ | refine kD ?_ | refine kA ?_ _)); exact BK552.out) hb); have n4_ := Aside0.mk (blk_below (g := gb565) (o := .cells #[.int .i64 (wrap64 (t556 + (wrap64 (t558 - 2000)))), .int .i64 (wrap64 (t557 + (wrap64 (t559 - 2000))))] 31 (0, 0)) (by (with_reducible repeat (first | refine kN ?_ _ | refine kD ?_ | refine kA ?_ _)); refine blk_put (cs := #[.int .i64 (wrap64 (t556 + (wrap64 (t558 - 2000)))), .int .i64 0]) ?_ 1 _ rfl; (with_reducible repeat (first | refine kN ?_ _ | refine kD ?_ | refine kA ?_ _)); refine blk_put (cs := #[.int .i64 0, .int .i64 0]) ?_ 0 _ rfl; (with_reducible repeat (first | refine kN ?_ _ | refine kD ?_ | refine kA ?_ _)); exact BK565.out) hb); have n5_ := Aside0.mk (below_step lB hb); clear HO_7; clear HO_10; clear BK551; clear BK552; clear BK565; clear HB; have HO_7 := n0_; have HO_10 := n1_; have BK551 := n2_; have BK552 := n3_; have BK565 := n4_; have HB := n5_; clear n0_ n1_ n2_ n3_ n4_ n5_; (try clear hb); (try clear hb2); (try clear hk); (try clear hi)))
       go_meet
       case rel => exact ⟨_, (true), (by first | rfl | (simp; done) | (simp [*]; done)), H', ⟨by have := HK1.out; first | omega | exact Nat.le_refl _⟩, ⟨by (with_reducible repeat (first | apply Kd.R_alloc | apply Kd.R_drewN | apply Kd.R_drew)); exact Kd.R_mono HO_7.out (fun _ hk => ⟨hk.1.1, ⟨hk.1.2, hk.2⟩⟩)⟩, ⟨by (with_reducible repeat (first | apply Kd.R_alloc | apply Kd.R_drewN | apply Kd.R_drew)); exact Kd.R_mono HO_10.out (fun _ hk => ⟨hk.1.1, ⟨hk.1.2, hk.2⟩⟩)⟩, ⟨by (with_reducible repeat (first | refine kN ?_ _ | refine kD ?_ | refine kA ?_ _)); exact BK551.out⟩, ⟨by (with_reducible repeat (first | refine kN ?_ _ | refine kD ?_ | refine kA ?_ _)); exact BK552.out⟩, ⟨by (with_reducible repeat (first | refine kN ?_ _ | refine kD ?_ | refine kA ?_ _)); exact BK565.out⟩, ⟨by repeat (first | (with_reducible first | exact HB.out | apply lA | apply lN | apply lD | refine lS ?_ GE551.out | refine lS ?_ GE552.out | refine lS ?_ GE565.out) | exact HB.out)⟩⟩
     case rest =>
      clear HC23
      try clear c1
      try clear c2
      try clear p2
      try clear c3
      try clear c4
      try clear p5
      try clear q5
      try clear hx5
      try clear p6
      try clear c11
      try clear c14
      try clear c17
      try clear c17b0
      try clear c18
      try clear c18b0
      try clear c19
      try clear c22
      try clear c25
      try clear c28
      try clear c29
      try clear c32
      try clear c36
      try clear c37
      try clear hcz12_0
      try clear hcz12_1
      try clear hcz14_0
      try clear hcz14_1
      try clear hcz26_0
      try clear hcz26_1
      try clear hcz30_0
      try clear hcz30_1
      try clear hcz38_0
      try clear hcz38_1
      try clear hfz12_0
      try clear hfz12_1
      try clear hfz14_0
      try clear hfz14_1
      try clear hfz26_0
      try clear hfz26_1
      try clear hfz30_0
      try clear hfz30_1
      try clear hfz38_0
      try clear hfz38_1
      try clear hx560_0
      try clear hx560_1
      try clear hx561_0
      try clear hx561_1
      try clear p2
      try clear p560
      try clear p561
      try clear p6
      try clear q560
      try clear q561
      obtain ⟨kq, x82_22, rfl, HA, HJ22, HO_7, HO_10, BK551, BK552, BK565, HB⟩ := hcut
      as_aux_lemma =>
       cases kq with
       | zero => exact absurd HA.out (by simp [silversidelaw01_PlaneMoves.j1])
       | succ kj22 =>
        have H := HA.out
        clear HA
        simp only [silversidelaw01_PlaneMoves.j1] at H
        by_cases c42 : x82_22 = true
        ·subst c42
         have H1 : ((silversidelaw01_awake.f kj22).bind fun t568 => (some t568)) = some r := by rw [if_pos rfl] at H; exact H
         clear H
         have H := H1
         clear H1
         replace H := Option.bind_eq_some_iff.mp H
         obtain ⟨t568, A430, H⟩ := H
         replace H : (some t568) = some r := H
         have A43 := Aside0.mk A430
         clear A430
         obtain rfl := Option.some.inj H
         go_wp2_with (first | ((with_reducible refine gate_callee (f := 23) rfl ?_); refine goesL_ (some 83) rfl rfl Try.func23 (by kernel_rfl) rfl #[] rfl (by (try simp only [List.map_toArray, List.map_cons, List.map_nil]); first | done | rfl | (simp only [List.length_drop, List.length_take]; rfl)) ?_; (with_reducible refine (silversidelaw01_awake.calls kj22  t568 _ A43.out).mono ?_); rintro e w44 ⟨rfl, hb⟩; refine ⟨_, rfl, ?_⟩; have n0_ := Aside0.mk (Kd.R_below (by (with_reducible repeat (first | apply Kd.R_alloc | apply Kd.R_drewN | apply Kd.R_drew)); exact HO_7.out) hb); have n1_ := Aside0.mk (Kd.R_below (by (with_reducible repeat (first | apply Kd.R_alloc | apply Kd.R_drewN | apply Kd.R_drew)); exact HO_10.out) hb); have n2_ := Aside0.mk (blk_below (g := gb551) (o := .cells #[.int .i64 t556, .int .i64 t557] 31 (0, 0)) (kX BK551.out) hb); have n3_ := Aside0.mk (blk_below (g := gb552) (o := .cells #[.int .i64 a2_0, .int .i64 a2_1] 49 (0, 0)) (kX BK552.out) hb); have n4_ := Aside0.mk (blk_below (g := gb565) (o := .cells #[.int .i64 (wrap64 (t556 + (wrap64 (t558 - 2000)))), .int .i64 (wrap64 (t557 + (wrap64 (t559 - 2000))))] 31 (0, 0)) (kX BK565.out) hb); have n5_ := Aside0.mk (below_step lB hb); clear HO_7; clear HO_10; clear BK551; clear BK552; clear BK565; clear HB; have HO_7 := n0_; have HO_10 := n1_; have BK551 := n2_; have BK552 := n3_; have BK565 := n4_; have HB := n5_; clear n0_ n1_ n2_ n3_ n4_ n5_; (try clear hb); (try clear hb2); (try clear hk); (try clear hi)))
         go_ret
         exact en
        ·replace c42 := Bool.eq_false_iff.mpr c42
         subst c42
         have H1 : ((plane_Hull.f t553).bind fun bt569 => ((plane_Hull.f x10_1).bind fun bt573 => ((plane_Area.f t553).bind fun bt577 => ((plane_Area.f x10_1).bind fun bt579 => ((plane_Widest.f t553).bind fun bt581 => ((plane_Widest.f x10_1).bind fun bt583 => (if bt569.2 = 0 then (if bt573.2 = 0 then (if bt577.2 = 0 then (if bt579.2 = 0 then (if bt581.2 = 0 then (if bt583.2 = 0 then (if bt577.1 = bt579.1 then (if bt581.1 = bt583.1 then (silversidelaw01_PlaneMoves.j2 kj22 t553 (wrap64 (t558 - 2000)) (wrap64 (t559 - 2000)) x10_1 bt569.1 bt573.1 ((bt569.1.length : Int) != (bt573.1.length : Int)) t556 t557 (wrap64 (t556 + (wrap64 (t558 - 2000)))) (wrap64 (t557 + (wrap64 (t559 - 2000))))) else (silversidelaw01_PlaneMoves.j2 kj22 t553 (wrap64 (t558 - 2000)) (wrap64 (t559 - 2000)) x10_1 bt569.1 bt573.1 true t556 t557 (wrap64 (t556 + (wrap64 (t558 - 2000)))) (wrap64 (t557 + (wrap64 (t559 - 2000)))))) else (silversidelaw01_PlaneMoves.j2 kj22 t553 (wrap64 (t558 - 2000)) (wrap64 (t559 - 2000)) x10_1 bt569.1 bt573.1 true t556 t557 (wrap64 (t556 + (wrap64 (t558 - 2000)))) (wrap64 (t557 + (wrap64 (t559 - 2000)))))) else (silversidelaw01_PlaneMoves.j2 kj22 t553 (wrap64 (t558 - 2000)) (wrap64 (t559 - 2000)) x10_1 bt569.1 bt573.1 true t556 t557 (wrap64 (t556 + (wrap64 (t558 - 2000)))) (wrap64 (t557 + (wrap64 (t559 - 2000)))))) else (silversidelaw01_PlaneMoves.j2 kj22 t553 (wrap64 (t558 - 2000)) (wrap64 (t559 - 2000)) x10_1 bt569.1 bt573.1 true t556 t557 (wrap64 (t556 + (wrap64 (t558 - 2000)))) (wrap64 (t557 + (wrap64 (t559 - 2000)))))) else (silversidelaw01_PlaneMoves.j2 kj22 t553 (wrap64 (t558 - 2000)) (wrap64 (t559 - 2000)) x10_1 bt569.1 bt573.1 true t556 t557 (wrap64 (t556 + (wrap64 (t558 - 2000)))) (wrap64 (t557 + (wrap64 (t559 - 2000)))))) else (silversidelaw01_PlaneMoves.j2 kj22 t553 (wrap64 (t558 - 2000)) (wrap64 (t559 - 2000)) x10_1 bt569.1 bt573.1 true t556 t557 (wrap64 (t556 + (wrap64 (t558 - 2000)))) (wrap64 (t557 + (wrap64 (t559 - 2000)))))) else (silversidelaw01_PlaneMoves.j2 kj22 t553 (wrap64 (t558 - 2000)) (wrap64 (t559 - 2000)) x10_1 bt569.1 bt573.1 true t556 t557 (wrap64 (t556 + (wrap64 (t558 - 2000)))) (wrap64 (t557 + (wrap64 (t559 - 2000)))))) else (silversidelaw01_PlaneMoves.j2 kj22 t553 (wrap64 (t558 - 2000)) (wrap64 (t559 - 2000)) x10_1 bt569.1 bt573.1 true t556 t557 (wrap64 (t556 + (wrap64 (t558 - 2000)))) (wrap64 (t557 + (wrap64 (t559 - 2000)))))))))))) = some r := by rw [if_neg (show ¬ (false = true) by decide)] at H; exact H
         clear H
         have H := H1
         clear H1
         replace H := Option.bind_eq_some_iff.mp H
         obtain ⟨⟨t569, t570⟩, A450, H⟩ := H
         replace H : ((plane_Hull.f x10_1).bind fun bt573 => ((plane_Area.f t553).bind fun bt577 => ((plane_Area.f x10_1).bind fun bt579 => ((plane_Widest.f t553).bind fun bt581 => ((plane_Widest.f x10_1).bind fun bt583 => (if t570 = 0 then (if bt573.2 = 0 then (if bt577.2 = 0 then (if bt579.2 = 0 then (if bt581.2 = 0 then (if bt583.2 = 0 then (if bt577.1 = bt579.1 then (if bt581.1 = bt583.1 then (silversidelaw01_PlaneMoves.j2 kj22 t553 (wrap64 (t558 - 2000)) (wrap64 (t559 - 2000)) x10_1 t569 bt573.1 ((t569.length : Int) != (bt573.1.length : Int)) t556 t557 (wrap64 (t556 + (wrap64 (t558 - 2000)))) (wrap64 (t557 + (wrap64 (t559 - 2000))))) else (silversidelaw01_PlaneMoves.j2 kj22 t553 (wrap64 (t558 - 2000)) (wrap64 (t559 - 2000)) x10_1 t569 bt573.1 true t556 t557 (wrap64 (t556 + (wrap64 (t558 - 2000)))) (wrap64 (t557 + (wrap64 (t559 - 2000)))))) else (silversidelaw01_PlaneMoves.j2 kj22 t553 (wrap64 (t558 - 2000)) (wrap64 (t559 - 2000)) x10_1 t569 bt573.1 true t556 t557 (wrap64 (t556 + (wrap64 (t558 - 2000)))) (wrap64 (t557 + (wrap64 (t559 - 2000)))))) else (silversidelaw01_PlaneMoves.j2 kj22 t553 (wrap64 (t558 - 2000)) (wrap64 (t559 - 2000)) x10_1 t569 bt573.1 true t556 t557 (wrap64 (t556 + (wrap64 (t558 - 2000)))) (wrap64 (t557 + (wrap64 (t559 - 2000)))))) else (silversidelaw01_PlaneMoves.j2 kj22 t553 (wrap64 (t558 - 2000)) (wrap64 (t559 - 2000)) x10_1 t569 bt573.1 true t556 t557 (wrap64 (t556 + (wrap64 (t558 - 2000)))) (wrap64 (t557 + (wrap64 (t559 - 2000)))))) else (silversidelaw01_PlaneMoves.j2 kj22 t553 (wrap64 (t558 - 2000)) (wrap64 (t559 - 2000)) x10_1 t569 bt573.1 true t556 t557 (wrap64 (t556 + (wrap64 (t558 - 2000)))) (wrap64 (t557 + (wrap64 (t559 - 2000)))))) else (silversidelaw01_PlaneMoves.j2 kj22 t553 (wrap64 (t558 - 2000)) (wrap64 (t559 - 2000)) x10_1 t569 bt573.1 true t556 t557 (wrap64 (t556 + (wrap64 (t558 - 2000)))) (wrap64 (t557 + (wrap64 (t559 - 2000)))))) else (silversidelaw01_PlaneMoves.j2 kj22 t553 (wrap64 (t558 - 2000)) (wrap64 (t559 - 2000)) x10_1 t569 bt573.1 true t556 t557 (wrap64 (t556 + (wrap64 (t558 - 2000)))) (wrap64 (t557 + (wrap64 (t559 - 2000)))))) else (silversidelaw01_PlaneMoves.j2 kj22 t553 (wrap64 (t558 - 2000)) (wrap64 (t559 - 2000)) x10_1 t569 bt573.1 true t556 t557 (wrap64 (t556 + (wrap64 (t558 - 2000)))) (wrap64 (t557 + (wrap64 (t559 - 2000))))))))))) = some r := H
         have A45 := Aside0.mk A450
         clear A450
         replace H := Option.bind_eq_some_iff.mp H
         obtain ⟨⟨t573, t574⟩, A460, H⟩ := H
         replace H : ((plane_Area.f t553).bind fun bt577 => ((plane_Area.f x10_1).bind fun bt579 => ((plane_Widest.f t553).bind fun bt581 => ((plane_Widest.f x10_1).bind fun bt583 => (if t570 = 0 then (if t574 = 0 then (if bt577.2 = 0 then (if bt579.2 = 0 then (if bt581.2 = 0 then (if bt583.2 = 0 then (if bt577.1 = bt579.1 then (if bt581.1 = bt583.1 then (silversidelaw01_PlaneMoves.j2 kj22 t553 (wrap64 (t558 - 2000)) (wrap64 (t559 - 2000)) x10_1 t569 t573 ((t569.length : Int) != (t573.length : Int)) t556 t557 (wrap64 (t556 + (wrap64 (t558 - 2000)))) (wrap64 (t557 + (wrap64 (t559 - 2000))))) else (silversidelaw01_PlaneMoves.j2 kj22 t553 (wrap64 (t558 - 2000)) (wrap64 (t559 - 2000)) x10_1 t569 t573 true t556 t557 (wrap64 (t556 + (wrap64 (t558 - 2000)))) (wrap64 (t557 + (wrap64 (t559 - 2000)))))) else (silversidelaw01_PlaneMoves.j2 kj22 t553 (wrap64 (t558 - 2000)) (wrap64 (t559 - 2000)) x10_1 t569 t573 true t556 t557 (wrap64 (t556 + (wrap64 (t558 - 2000)))) (wrap64 (t557 + (wrap64 (t559 - 2000)))))) else (silversidelaw01_PlaneMoves.j2 kj22 t553 (wrap64 (t558 - 2000)) (wrap64 (t559 - 2000)) x10_1 t569 t573 true t556 t557 (wrap64 (t556 + (wrap64 (t558 - 2000)))) (wrap64 (t557 + (wrap64 (t559 - 2000)))))) else (silversidelaw01_PlaneMoves.j2 kj22 t553 (wrap64 (t558 - 2000)) (wrap64 (t559 - 2000)) x10_1 t569 t573 true t556 t557 (wrap64 (t556 + (wrap64 (t558 - 2000)))) (wrap64 (t557 + (wrap64 (t559 - 2000)))))) else (silversidelaw01_PlaneMoves.j2 kj22 t553 (wrap64 (t558 - 2000)) (wrap64 (t559 - 2000)) x10_1 t569 t573 true t556 t557 (wrap64 (t556 + (wrap64 (t558 - 2000)))) (wrap64 (t557 + (wrap64 (t559 - 2000)))))) else (silversidelaw01_PlaneMoves.j2 kj22 t553 (wrap64 (t558 - 2000)) (wrap64 (t559 - 2000)) x10_1 t569 t573 true t556 t557 (wrap64 (t556 + (wrap64 (t558 - 2000)))) (wrap64 (t557 + (wrap64 (t559 - 2000)))))) else (silversidelaw01_PlaneMoves.j2 kj22 t553 (wrap64 (t558 - 2000)) (wrap64 (t559 - 2000)) x10_1 t569 t573 true t556 t557 (wrap64 (t556 + (wrap64 (t558 - 2000)))) (wrap64 (t557 + (wrap64 (t559 - 2000)))))) else (silversidelaw01_PlaneMoves.j2 kj22 t553 (wrap64 (t558 - 2000)) (wrap64 (t559 - 2000)) x10_1 t569 t573 true t556 t557 (wrap64 (t556 + (wrap64 (t558 - 2000)))) (wrap64 (t557 + (wrap64 (t559 - 2000)))))))))) = some r := H
         have A46 := Aside0.mk A460
         clear A460
         replace H := Option.bind_eq_some_iff.mp H
         obtain ⟨⟨t577, t578⟩, A470, H⟩ := H
         replace H : ((plane_Area.f x10_1).bind fun bt579 => ((plane_Widest.f t553).bind fun bt581 => ((plane_Widest.f x10_1).bind fun bt583 => (if t570 = 0 then (if t574 = 0 then (if t578 = 0 then (if bt579.2 = 0 then (if bt581.2 = 0 then (if bt583.2 = 0 then (if t577 = bt579.1 then (if bt581.1 = bt583.1 then (silversidelaw01_PlaneMoves.j2 kj22 t553 (wrap64 (t558 - 2000)) (wrap64 (t559 - 2000)) x10_1 t569 t573 ((t569.length : Int) != (t573.length : Int)) t556 t557 (wrap64 (t556 + (wrap64 (t558 - 2000)))) (wrap64 (t557 + (wrap64 (t559 - 2000))))) else (silversidelaw01_PlaneMoves.j2 kj22 t553 (wrap64 (t558 - 2000)) (wrap64 (t559 - 2000)) x10_1 t569 t573 true t556 t557 (wrap64 (t556 + (wrap64 (t558 - 2000)))) (wrap64 (t557 + (wrap64 (t559 - 2000)))))) else (silversidelaw01_PlaneMoves.j2 kj22 t553 (wrap64 (t558 - 2000)) (wrap64 (t559 - 2000)) x10_1 t569 t573 true t556 t557 (wrap64 (t556 + (wrap64 (t558 - 2000)))) (wrap64 (t557 + (wrap64 (t559 - 2000)))))) else (silversidelaw01_PlaneMoves.j2 kj22 t553 (wrap64 (t558 - 2000)) (wrap64 (t559 - 2000)) x10_1 t569 t573 true t556 t557 (wrap64 (t556 + (wrap64 (t558 - 2000)))) (wrap64 (t557 + (wrap64 (t559 - 2000)))))) else (silversidelaw01_PlaneMoves.j2 kj22 t553 (wrap64 (t558 - 2000)) (wrap64 (t559 - 2000)) x10_1 t569 t573 true t556 t557 (wrap64 (t556 + (wrap64 (t558 - 2000)))) (wrap64 (t557 + (wrap64 (t559 - 2000)))))) else (silversidelaw01_PlaneMoves.j2 kj22 t553 (wrap64 (t558 - 2000)) (wrap64 (t559 - 2000)) x10_1 t569 t573 true t556 t557 (wrap64 (t556 + (wrap64 (t558 - 2000)))) (wrap64 (t557 + (wrap64 (t559 - 2000)))))) else (silversidelaw01_PlaneMoves.j2 kj22 t553 (wrap64 (t558 - 2000)) (wrap64 (t559 - 2000)) x10_1 t569 t573 true t556 t557 (wrap64 (t556 + (wrap64 (t558 - 2000)))) (wrap64 (t557 + (wrap64 (t559 - 2000)))))) else (silversidelaw01_PlaneMoves.j2 kj22 t553 (wrap64 (t558 - 2000)) (wrap64 (t559 - 2000)) x10_1 t569 t573 true t556 t557 (wrap64 (t556 + (wrap64 (t558 - 2000)))) (wrap64 (t557 + (wrap64 (t559 - 2000)))))) else (silversidelaw01_PlaneMoves.j2 kj22 t553 (wrap64 (t558 - 2000)) (wrap64 (t559 - 2000)) x10_1 t569 t573 true t556 t557 (wrap64 (t556 + (wrap64 (t558 - 2000)))) (wrap64 (t557 + (wrap64 (t559 - 2000))))))))) = some r := H
         have A47 := Aside0.mk A470
         clear A470
         replace H := Option.bind_eq_some_iff.mp H
         obtain ⟨⟨t579, t580⟩, A480, H⟩ := H
         replace H : ((plane_Widest.f t553).bind fun bt581 => ((plane_Widest.f x10_1).bind fun bt583 => (if t570 = 0 then (if t574 = 0 then (if t578 = 0 then (if t580 = 0 then (if bt581.2 = 0 then (if bt583.2 = 0 then (if t577 = t579 then (if bt581.1 = bt583.1 then (silversidelaw01_PlaneMoves.j2 kj22 t553 (wrap64 (t558 - 2000)) (wrap64 (t559 - 2000)) x10_1 t569 t573 ((t569.length : Int) != (t573.length : Int)) t556 t557 (wrap64 (t556 + (wrap64 (t558 - 2000)))) (wrap64 (t557 + (wrap64 (t559 - 2000))))) else (silversidelaw01_PlaneMoves.j2 kj22 t553 (wrap64 (t558 - 2000)) (wrap64 (t559 - 2000)) x10_1 t569 t573 true t556 t557 (wrap64 (t556 + (wrap64 (t558 - 2000)))) (wrap64 (t557 + (wrap64 (t559 - 2000)))))) else (silversidelaw01_PlaneMoves.j2 kj22 t553 (wrap64 (t558 - 2000)) (wrap64 (t559 - 2000)) x10_1 t569 t573 true t556 t557 (wrap64 (t556 + (wrap64 (t558 - 2000)))) (wrap64 (t557 + (wrap64 (t559 - 2000)))))) else (silversidelaw01_PlaneMoves.j2 kj22 t553 (wrap64 (t558 - 2000)) (wrap64 (t559 - 2000)) x10_1 t569 t573 true t556 t557 (wrap64 (t556 + (wrap64 (t558 - 2000)))) (wrap64 (t557 + (wrap64 (t559 - 2000)))))) else (silversidelaw01_PlaneMoves.j2 kj22 t553 (wrap64 (t558 - 2000)) (wrap64 (t559 - 2000)) x10_1 t569 t573 true t556 t557 (wrap64 (t556 + (wrap64 (t558 - 2000)))) (wrap64 (t557 + (wrap64 (t559 - 2000)))))) else (silversidelaw01_PlaneMoves.j2 kj22 t553 (wrap64 (t558 - 2000)) (wrap64 (t559 - 2000)) x10_1 t569 t573 true t556 t557 (wrap64 (t556 + (wrap64 (t558 - 2000)))) (wrap64 (t557 + (wrap64 (t559 - 2000)))))) else (silversidelaw01_PlaneMoves.j2 kj22 t553 (wrap64 (t558 - 2000)) (wrap64 (t559 - 2000)) x10_1 t569 t573 true t556 t557 (wrap64 (t556 + (wrap64 (t558 - 2000)))) (wrap64 (t557 + (wrap64 (t559 - 2000)))))) else (silversidelaw01_PlaneMoves.j2 kj22 t553 (wrap64 (t558 - 2000)) (wrap64 (t559 - 2000)) x10_1 t569 t573 true t556 t557 (wrap64 (t556 + (wrap64 (t558 - 2000)))) (wrap64 (t557 + (wrap64 (t559 - 2000)))))) else (silversidelaw01_PlaneMoves.j2 kj22 t553 (wrap64 (t558 - 2000)) (wrap64 (t559 - 2000)) x10_1 t569 t573 true t556 t557 (wrap64 (t556 + (wrap64 (t558 - 2000)))) (wrap64 (t557 + (wrap64 (t559 - 2000)))))))) = some r := H
         have A48 := Aside0.mk A480
         clear A480
         replace H := Option.bind_eq_some_iff.mp H
         obtain ⟨⟨t581, t582⟩, A490, H⟩ := H
         replace H : ((plane_Widest.f x10_1).bind fun bt583 => (if t570 = 0 then (if t574 = 0 then (if t578 = 0 then (if t580 = 0 then (if t582 = 0 then (if bt583.2 = 0 then (if t577 = t579 then (if t581 = bt583.1 then (silversidelaw01_PlaneMoves.j2 kj22 t553 (wrap64 (t558 - 2000)) (wrap64 (t559 - 2000)) x10_1 t569 t573 ((t569.length : Int) != (t573.length : Int)) t556 t557 (wrap64 (t556 + (wrap64 (t558 - 2000)))) (wrap64 (t557 + (wrap64 (t559 - 2000))))) else (silversidelaw01_PlaneMoves.j2 kj22 t553 (wrap64 (t558 - 2000)) (wrap64 (t559 - 2000)) x10_1 t569 t573 true t556 t557 (wrap64 (t556 + (wrap64 (t558 - 2000)))) (wrap64 (t557 + (wrap64 (t559 - 2000)))))) else (silversidelaw01_PlaneMoves.j2 kj22 t553 (wrap64 (t558 - 2000)) (wrap64 (t559 - 2000)) x10_1 t569 t573 true t556 t557 (wrap64 (t556 + (wrap64 (t558 - 2000)))) (wrap64 (t557 + (wrap64 (t559 - 2000)))))) else (silversidelaw01_PlaneMoves.j2 kj22 t553 (wrap64 (t558 - 2000)) (wrap64 (t559 - 2000)) x10_1 t569 t573 true t556 t557 (wrap64 (t556 + (wrap64 (t558 - 2000)))) (wrap64 (t557 + (wrap64 (t559 - 2000)))))) else (silversidelaw01_PlaneMoves.j2 kj22 t553 (wrap64 (t558 - 2000)) (wrap64 (t559 - 2000)) x10_1 t569 t573 true t556 t557 (wrap64 (t556 + (wrap64 (t558 - 2000)))) (wrap64 (t557 + (wrap64 (t559 - 2000)))))) else (silversidelaw01_PlaneMoves.j2 kj22 t553 (wrap64 (t558 - 2000)) (wrap64 (t559 - 2000)) x10_1 t569 t573 true t556 t557 (wrap64 (t556 + (wrap64 (t558 - 2000)))) (wrap64 (t557 + (wrap64 (t559 - 2000)))))) else (silversidelaw01_PlaneMoves.j2 kj22 t553 (wrap64 (t558 - 2000)) (wrap64 (t559 - 2000)) x10_1 t569 t573 true t556 t557 (wrap64 (t556 + (wrap64 (t558 - 2000)))) (wrap64 (t557 + (wrap64 (t559 - 2000)))))) else (silversidelaw01_PlaneMoves.j2 kj22 t553 (wrap64 (t558 - 2000)) (wrap64 (t559 - 2000)) x10_1 t569 t573 true t556 t557 (wrap64 (t556 + (wrap64 (t558 - 2000)))) (wrap64 (t557 + (wrap64 (t559 - 2000)))))) else (silversidelaw01_PlaneMoves.j2 kj22 t553 (wrap64 (t558 - 2000)) (wrap64 (t559 - 2000)) x10_1 t569 t573 true t556 t557 (wrap64 (t556 + (wrap64 (t558 - 2000)))) (wrap64 (t557 + (wrap64 (t559 - 2000))))))) = some r := H
         have A49 := Aside0.mk A490
         clear A490
         replace H := Option.bind_eq_some_iff.mp H
         obtain ⟨⟨t583, t584⟩, A500, H⟩ := H
         replace H : (if t570 = 0 then (if t574 = 0 then (if t578 = 0 then (if t580 = 0 then (if t582 = 0 then (if t584 = 0 then (if t577 = t579 then (if t581 = t583 then (silversidelaw01_PlaneMoves.j2 kj22 t553 (wrap64 (t558 - 2000)) (wrap64 (t559 - 2000)) x10_1 t569 t573 ((t569.length : Int) != (t573.length : Int)) t556 t557 (wrap64 (t556 + (wrap64 (t558 - 2000)))) (wrap64 (t557 + (wrap64 (t559 - 2000))))) else (silversidelaw01_PlaneMoves.j2 kj22 t553 (wrap64 (t558 - 2000)) (wrap64 (t559 - 2000)) x10_1 t569 t573 true t556 t557 (wrap64 (t556 + (wrap64 (t558 - 2000)))) (wrap64 (t557 + (wrap64 (t559 - 2000)))))) else (silversidelaw01_PlaneMoves.j2 kj22 t553 (wrap64 (t558 - 2000)) (wrap64 (t559 - 2000)) x10_1 t569 t573 true t556 t557 (wrap64 (t556 + (wrap64 (t558 - 2000)))) (wrap64 (t557 + (wrap64 (t559 - 2000)))))) else (silversidelaw01_PlaneMoves.j2 kj22 t553 (wrap64 (t558 - 2000)) (wrap64 (t559 - 2000)) x10_1 t569 t573 true t556 t557 (wrap64 (t556 + (wrap64 (t558 - 2000)))) (wrap64 (t557 + (wrap64 (t559 - 2000)))))) else (silversidelaw01_PlaneMoves.j2 kj22 t553 (wrap64 (t558 - 2000)) (wrap64 (t559 - 2000)) x10_1 t569 t573 true t556 t557 (wrap64 (t556 + (wrap64 (t558 - 2000)))) (wrap64 (t557 + (wrap64 (t559 - 2000)))))) else (silversidelaw01_PlaneMoves.j2 kj22 t553 (wrap64 (t558 - 2000)) (wrap64 (t559 - 2000)) x10_1 t569 t573 true t556 t557 (wrap64 (t556 + (wrap64 (t558 - 2000)))) (wrap64 (t557 + (wrap64 (t559 - 2000)))))) else (silversidelaw01_PlaneMoves.j2 kj22 t553 (wrap64 (t558 - 2000)) (wrap64 (t559 - 2000)) x10_1 t569 t573 true t556 t557 (wrap64 (t556 + (wrap64 (t558 - 2000)))) (wrap64 (t557 + (wrap64 (t559 - 2000)))))) else (silversidelaw01_PlaneMoves.j2 kj22 t553 (wrap64 (t558 - 2000)) (wrap64 (t559 - 2000)) x10_1 t569 t573 true t556 t557 (wrap64 (t556 + (wrap64 (t558 - 2000)))) (wrap64 (t557 + (wrap64 (t559 - 2000)))))) else (silversidelaw01_PlaneMoves.j2 kj22 t553 (wrap64 (t558 - 2000)) (wrap64 (t559 - 2000)) x10_1 t569 t573 true t556 t557 (wrap64 (t556 + (wrap64 (t558 - 2000)))) (wrap64 (t557 + (wrap64 (t559 - 2000)))))) = some r := H
         have A50 := Aside0.mk A500
         clear A500
         have HC51 := Aside0.mk H
         clear H
         go_upto_region 18 with (first | ((with_reducible refine gate_callee (f := 32) rfl ?_); refine goesL_ (some 86) rfl rfl Try.func32 (by kernel_rfl) rfl #[.slice Ao24 t553.length co24] rfl (by (try simp only [List.map_toArray, List.map_cons, List.map_nil]); first | done | rfl | (simp only [List.length_drop, List.length_take]; rfl)) ?_; (with_reducible refine (plane_Hull.calls _ _ t553 t569 t570 _ ?side1 ?side2 A45.out).mono ?_); (case side1 => repeat (first | exact (Kd.R_reads' HO_7.out).2.2 | (with_reducible refine Kd.C_alloc ?_ _) | (with_reducible refine Kd.C_drewN ?_ _) | (with_reducible refine Kd.C_drew ?_))); (case side2 => exact (Kd.R_reads' HO_7.out).2.1); rintro e w52 ⟨v571, rfl, ho0, hb⟩; refine ⟨_, rfl, ?_⟩; have n0_ := Aside0.mk (Kd.R_elder' (by (with_reducible repeat (first | apply Kd.R_alloc | apply Kd.R_drewN | apply Kd.R_drew)); exact HO_7.out) (Kd.R_base ho0) hb); have n1_ := Aside0.mk (Kd.R_elder' (by (with_reducible repeat (first | apply Kd.R_alloc | apply Kd.R_drewN | apply Kd.R_drew)); exact HO_10.out) (Kd.R_base ho0) hb); have n2_ := Aside0.mk (Kd.R_lower (Kd.R_newB (Kd.R_newB (Kd.R_new' (Kd.R_new' ho0 (Kd.R_lt (by (with_reducible repeat (first | apply Kd.R_alloc | apply Kd.R_drewN | apply Kd.R_drew)); exact HO_7.out))) (Kd.R_lt (by (with_reducible repeat (first | apply Kd.R_alloc | apply Kd.R_drewN | apply Kd.R_drew)); exact HO_10.out))) (g := gb551) (o := .cells #[.int .i64 t556, .int .i64 t557] 31 (0, 0)) (kX BK551.out)) (g := gb565) (o := .cells #[.int .i64 (wrap64 (t556 + (wrap64 (t558 - 2000)))), .int .i64 (wrap64 (t557 + (wrap64 (t559 - 2000))))] 31 (0, 0)) (kX BK565.out)) (below_size lB)); have n3_ := Aside0.mk (blk_below (g := gb551) (o := .cells #[.int .i64 t556, .int .i64 t557] 31 (0, 0)) (kX BK551.out) hb); have n4_ := Aside0.mk (blk_below (g := gb552) (o := .cells #[.int .i64 a2_0, .int .i64 a2_1] 49 (0, 0)) (kX BK552.out) hb); have n5_ := Aside0.mk (blk_below (g := gb565) (o := .cells #[.int .i64 (wrap64 (t556 + (wrap64 (t558 - 2000)))), .int .i64 (wrap64 (t557 + (wrap64 (t559 - 2000))))] 31 (0, 0)) (kX BK565.out) hb); have n6_ := Aside0.mk (below_step lB hb); clear HO_7; clear HO_10; clear BK551; clear BK552; clear BK565; clear HB; have HO_7 := n0_; have HO_10 := n1_; have HO572 := n2_; have BK551 := n3_; have BK552 := n4_; have BK565 := n5_; have HB := n6_; clear n0_ n1_ n2_ n3_ n4_ n5_ n6_; (try clear hb); (try clear hb2); (try clear hk); (try clear hi); (try clear ho0); obtain ⟨Ao53, co53, eo53⟩ := Kd.R_slice HO_10.out; subst eo53) | ((with_reducible refine gate_callee (f := 32) rfl ?_); refine goesL_ (some 91) rfl rfl Try.func32 (by kernel_rfl) rfl #[.slice Ao53 x10_1.length co53] rfl (by (try simp only [List.map_toArray, List.map_cons, List.map_nil]); first | done | rfl | (simp only [List.length_drop, List.length_take]; rfl)) ?_; (with_reducible refine (plane_Hull.calls _ _ x10_1 t573 t574 _ ?side1 ?side2 A46.out).mono ?_); (case side1 => repeat (first | exact (Kd.R_reads' HO_10.out).2.2 | (with_reducible refine Kd.C_alloc ?_ _) | (with_reducible refine Kd.C_drewN ?_ _) | (with_reducible refine Kd.C_drew ?_))); (case side2 => exact (Kd.R_reads' HO_10.out).2.1); rintro e w54 ⟨v575, rfl, ho0, hb⟩; refine ⟨_, rfl, ?_⟩; have n0_ := Aside0.mk (Kd.R_elder' (by (with_reducible repeat (first | apply Kd.R_alloc | apply Kd.R_drewN | apply Kd.R_drew)); exact HO_7.out) (Kd.R_base ho0) hb); have n1_ := Aside0.mk (Kd.R_elder' (by (with_reducible repeat (first | apply Kd.R_alloc | apply Kd.R_drewN | apply Kd.R_drew)); exact HO_10.out) (Kd.R_base ho0) hb); have n2_ := Aside0.mk (Kd.R_elder' (by (with_reducible repeat (first | apply Kd.R_alloc | apply Kd.R_drewN | apply Kd.R_drew)); exact HO572.out) (Kd.R_base ho0) hb); have n3_ := Aside0.mk (Kd.R_lower (Kd.R_newB (Kd.R_newB (Kd.R_new' (Kd.R_new' (Kd.R_new' ho0 (Kd.R_lt (by (with_reducible repeat (first | apply Kd.R_alloc | apply Kd.R_drewN | apply Kd.R_drew)); exact HO_7.out))) (Kd.R_lt (by (with_reducible repeat (first | apply Kd.R_alloc | apply Kd.R_drewN | apply Kd.R_drew)); exact HO_10.out))) (Kd.R_lt (by (with_reducible repeat (first | apply Kd.R_alloc | apply Kd.R_drewN | apply Kd.R_drew)); exact HO572.out))) (g := gb551) (o := .cells #[.int .i64 t556, .int .i64 t557] 31 (0, 0)) (kX BK551.out)) (g := gb565) (o := .cells #[.int .i64 (wrap64 (t556 + (wrap64 (t558 - 2000)))), .int .i64 (wrap64 (t557 + (wrap64 (t559 - 2000))))] 31 (0, 0)) (kX BK565.out)) (below_size lB)); have n4_ := Aside0.mk (blk_below (g := gb551) (o := .cells #[.int .i64 t556, .int .i64 t557] 31 (0, 0)) (kX BK551.out) hb); have n5_ := Aside0.mk (blk_below (g := gb552) (o := .cells #[.int .i64 a2_0, .int .i64 a2_1] 49 (0, 0)) (kX BK552.out) hb); have n6_ := Aside0.mk (blk_below (g := gb565) (o := .cells #[.int .i64 (wrap64 (t556 + (wrap64 (t558 - 2000)))), .int .i64 (wrap64 (t557 + (wrap64 (t559 - 2000))))] 31 (0, 0)) (kX BK565.out) hb); have n7_ := Aside0.mk (below_step lB hb); clear HO_7; clear HO_10; clear HO572; clear BK551; clear BK552; clear BK565; clear HB; have HO_7 := n0_; have HO_10 := n1_; have HO572 := n2_; have HO576 := n3_; have BK551 := n4_; have BK552 := n5_; have BK565 := n6_; have HB := n7_; clear n0_ n1_ n2_ n3_ n4_ n5_ n6_ n7_; (try clear hb); (try clear hb2); (try clear hk); (try clear hi); (try clear ho0)) | ((with_reducible refine gate_callee (f := 21) rfl ?_); refine goesL_ (some 96) rfl rfl Try.func21 (by kernel_rfl) rfl #[.slice Ao24 t553.length co24] rfl (by (try simp only [List.map_toArray, List.map_cons, List.map_nil]); first | done | rfl | (simp only [List.length_drop, List.length_take]; rfl)) ?_; (with_reducible refine (plane_Area.calls _ _ t553 t577 t578 _ ?side1 ?side2 A47.out).mono ?_); (case side1 => repeat (first | exact (Kd.R_reads' HO_7.out).2.2 | (with_reducible refine Kd.C_alloc ?_ _) | (with_reducible refine Kd.C_drewN ?_ _) | (with_reducible refine Kd.C_drew ?_))); (case side2 => exact (Kd.R_reads' HO_7.out).2.1); rintro e w55 ⟨rfl, hb⟩; refine ⟨_, rfl, ?_⟩; have n0_ := Aside0.mk (Kd.R_below (by (with_reducible repeat (first | apply Kd.R_alloc | apply Kd.R_drewN | apply Kd.R_drew)); exact HO_7.out) hb); have n1_ := Aside0.mk (Kd.R_below (by (with_reducible repeat (first | apply Kd.R_alloc | apply Kd.R_drewN | apply Kd.R_drew)); exact HO_10.out) hb); have n2_ := Aside0.mk (Kd.R_below (by (with_reducible repeat (first | apply Kd.R_alloc | apply Kd.R_drewN | apply Kd.R_drew)); exact HO572.out) hb); have n3_ := Aside0.mk (Kd.R_below (by (with_reducible repeat (first | apply Kd.R_alloc | apply Kd.R_drewN | apply Kd.R_drew)); exact HO576.out) hb); have n4_ := Aside0.mk (blk_below (g := gb551) (o := .cells #[.int .i64 t556, .int .i64 t557] 31 (0, 0)) (kX BK551.out) hb); have n5_ := Aside0.mk (blk_below (g := gb552) (o := .cells #[.int .i64 a2_0, .int .i64 a2_1] 49 (0, 0)) (kX BK552.out) hb); have n6_ := Aside0.mk (blk_below (g := gb565) (o := .cells #[.int .i64 (wrap64 (t556 + (wrap64 (t558 - 2000)))), .int .i64 (wrap64 (t557 + (wrap64 (t559 - 2000))))] 31 (0, 0)) (kX BK565.out) hb); have n7_ := Aside0.mk (below_step lB hb); clear HO_7; clear HO_10; clear HO572; clear HO576; clear BK551; clear BK552; clear BK565; clear HB; have HO_7 := n0_; have HO_10 := n1_; have HO572 := n2_; have HO576 := n3_; have BK551 := n4_; have BK552 := n5_; have BK565 := n6_; have HB := n7_; clear n0_ n1_ n2_ n3_ n4_ n5_ n6_ n7_; (try clear hb); (try clear hb2); (try clear hk); (try clear hi)) | ((with_reducible refine gate_callee (f := 21) rfl ?_); refine goesL_ (some 101) rfl rfl Try.func21 (by kernel_rfl) rfl #[.slice Ao53 x10_1.length co53] rfl (by (try simp only [List.map_toArray, List.map_cons, List.map_nil]); first | done | rfl | (simp only [List.length_drop, List.length_take]; rfl)) ?_; (with_reducible refine (plane_Area.calls _ _ x10_1 t579 t580 _ ?side1 ?side2 A48.out).mono ?_); (case side1 => repeat (first | exact (Kd.R_reads' HO_10.out).2.2 | (with_reducible refine Kd.C_alloc ?_ _) | (with_reducible refine Kd.C_drewN ?_ _) | (with_reducible refine Kd.C_drew ?_))); (case side2 => exact (Kd.R_reads' HO_10.out).2.1); rintro e w56 ⟨rfl, hb⟩; refine ⟨_, rfl, ?_⟩; have n0_ := Aside0.mk (Kd.R_below (by (with_reducible repeat (first | apply Kd.R_alloc | apply Kd.R_drewN | apply Kd.R_drew)); exact HO_7.out) hb); have n1_ := Aside0.mk (Kd.R_below (by (with_reducible repeat (first | apply Kd.R_alloc | apply Kd.R_drewN | apply Kd.R_drew)); exact HO_10.out) hb); have n2_ := Aside0.mk (Kd.R_below (by (with_reducible repeat (first | apply Kd.R_alloc | apply Kd.R_drewN | apply Kd.R_drew)); exact HO572.out) hb); have n3_ := Aside0.mk (Kd.R_below (by (with_reducible repeat (first | apply Kd.R_alloc | apply Kd.R_drewN | apply Kd.R_drew)); exact HO576.out) hb); have n4_ := Aside0.mk (blk_below (g := gb551) (o := .cells #[.int .i64 t556, .int .i64 t557] 31 (0, 0)) (kX BK551.out) hb); have n5_ := Aside0.mk (blk_below (g := gb552) (o := .cells #[.int .i64 a2_0, .int .i64 a2_1] 49 (0, 0)) (kX BK552.out) hb); have n6_ := Aside0.mk (blk_below (g := gb565) (o := .cells #[.int .i64 (wrap64 (t556 + (wrap64 (t558 - 2000)))), .int .i64 (wrap64 (t557 + (wrap64 (t559 - 2000))))] 31 (0, 0)) (kX BK565.out) hb); have n7_ := Aside0.mk (below_step lB hb); clear HO_7; clear HO_10; clear HO572; clear HO576; clear BK551; clear BK552; clear BK565; clear HB; have HO_7 := n0_; have HO_10 := n1_; have HO572 := n2_; have HO576 := n3_; have BK551 := n4_; have BK552 := n5_; have BK565 := n6_; have HB := n7_; clear n0_ n1_ n2_ n3_ n4_ n5_ n6_ n7_; (try clear hb); (try clear hb2); (try clear hk); (try clear hi)) | ((with_reducible refine gate_callee (f := 42) rfl ?_); refine goesL_ (some 106) rfl rfl Try.func42 (by kernel_rfl) rfl #[.slice Ao24 t553.length co24] rfl (by (try simp only [List.map_toArray, List.map_cons, List.map_nil]); first | done | rfl | (simp only [List.length_drop, List.length_take]; rfl)) ?_; (with_reducible refine (plane_Widest.calls _ _ t553 t581 t582 _ ?side1 ?side2 A49.out).mono ?_); (case side1 => repeat (first | exact (Kd.R_reads' HO_7.out).2.2 | (with_reducible refine Kd.C_alloc ?_ _) | (with_reducible refine Kd.C_drewN ?_ _) | (with_reducible refine Kd.C_drew ?_))); (case side2 => exact (Kd.R_reads' HO_7.out).2.1); rintro e w57 ⟨rfl, hb⟩; refine ⟨_, rfl, ?_⟩; have n0_ := Aside0.mk (Kd.R_below (by (with_reducible repeat (first | apply Kd.R_alloc | apply Kd.R_drewN | apply Kd.R_drew)); exact HO_7.out) hb); have n1_ := Aside0.mk (Kd.R_below (by (with_reducible repeat (first | apply Kd.R_alloc | apply Kd.R_drewN | apply Kd.R_drew)); exact HO_10.out) hb); have n2_ := Aside0.mk (Kd.R_below (by (with_reducible repeat (first | apply Kd.R_alloc | apply Kd.R_drewN | apply Kd.R_drew)); exact HO572.out) hb); have n3_ := Aside0.mk (Kd.R_below (by (with_reducible repeat (first | apply Kd.R_alloc | apply Kd.R_drewN | apply Kd.R_drew)); exact HO576.out) hb); have n4_ := Aside0.mk (blk_below (g := gb551) (o := .cells #[.int .i64 t556, .int .i64 t557] 31 (0, 0)) (kX BK551.out) hb); have n5_ := Aside0.mk (blk_below (g := gb552) (o := .cells #[.int .i64 a2_0, .int .i64 a2_1] 49 (0, 0)) (kX BK552.out) hb); have n6_ := Aside0.mk (blk_below (g := gb565) (o := .cells #[.int .i64 (wrap64 (t556 + (wrap64 (t558 - 2000)))), .int .i64 (wrap64 (t557 + (wrap64 (t559 - 2000))))] 31 (0, 0)) (kX BK565.out) hb); have n7_ := Aside0.mk (below_step lB hb); clear HO_7; clear HO_10; clear HO572; clear HO576; clear BK551; clear BK552; clear BK565; clear HB; have HO_7 := n0_; have HO_10 := n1_; have HO572 := n2_; have HO576 := n3_; have BK551 := n4_; have BK552 := n5_; have BK565 := n6_; have HB := n7_; clear n0_ n1_ n2_ n3_ n4_ n5_ n6_ n7_; (try clear hb); (try clear hb2); (try clear hk); (try clear hi)) | ((with_reducible refine gate_callee (f := 42) rfl ?_); refine goesL_ (some 111) rfl rfl Try.func42 (by kernel_rfl) rfl #[.slice Ao53 x10_1.length co53] rfl (by (try simp only [List.map_toArray, List.map_cons, List.map_nil]); first | done | rfl | (simp only [List.length_drop, List.length_take]; rfl)) ?_; (with_reducible refine (plane_Widest.calls _ _ x10_1 t583 t584 _ ?side1 ?side2 A50.out).mono ?_); (case side1 => repeat (first | exact (Kd.R_reads' HO_10.out).2.2 | (with_reducible refine Kd.C_alloc ?_ _) | (with_reducible refine Kd.C_drewN ?_ _) | (with_reducible refine Kd.C_drew ?_))); (case side2 => exact (Kd.R_reads' HO_10.out).2.1); rintro e w58 ⟨rfl, hb⟩; refine ⟨_, rfl, ?_⟩; have n0_ := Aside0.mk (Kd.R_below (by (with_reducible repeat (first | apply Kd.R_alloc | apply Kd.R_drewN | apply Kd.R_drew)); exact HO_7.out) hb); have n1_ := Aside0.mk (Kd.R_below (by (with_reducible repeat (first | apply Kd.R_alloc | apply Kd.R_drewN | apply Kd.R_drew)); exact HO_10.out) hb); have n2_ := Aside0.mk (Kd.R_below (by (with_reducible repeat (first | apply Kd.R_alloc | apply Kd.R_drewN | apply Kd.R_drew)); exact HO572.out) hb); have n3_ := Aside0.mk (Kd.R_below (by (with_reducible repeat (first | apply Kd.R_alloc | apply Kd.R_drewN | apply Kd.R_drew)); exact HO576.out) hb); have n4_ := Aside0.mk (blk_below (g := gb551) (o := .cells #[.int .i64 t556, .int .i64 t557] 31 (0, 0)) (kX BK551.out) hb); have n5_ := Aside0.mk (blk_below (g := gb552) (o := .cells #[.int .i64 a2_0, .int .i64 a2_1] 49 (0, 0)) (kX BK552.out) hb); have n6_ := Aside0.mk (blk_below (g := gb565) (o := .cells #[.int .i64 (wrap64 (t556 + (wrap64 (t558 - 2000)))), .int .i64 (wrap64 (t557 + (wrap64 (t559 - 2000))))] 31 (0, 0)) (kX BK565.out) hb); have n7_ := Aside0.mk (below_step lB hb); clear HO_7; clear HO_10; clear HO572; clear HO576; clear BK551; clear BK552; clear BK565; clear HB; have HO_7 := n0_; have HO_10 := n1_; have HO572 := n2_; have HO576 := n3_; have BK551 := n4_; have BK552 := n5_; have BK565 := n6_; have HB := n7_; clear n0_ n1_ n2_ n3_ n4_ n5_ n6_ n7_; (try clear hb); (try clear hb2); (try clear hk); (try clear hi)))
         (try simp only [Act.put, sA, sB, sC])
         go_cut [152] (fun v152 wc => ∃ (kq : Nat) (x152_50 : Bool), v152 = .bool x152_50 ∧ Aside0 (silversidelaw01_PlaneMoves.j2 kq t553 (wrap64 (t558 - 2000)) (wrap64 (t559 - 2000)) x10_1 t569 t573 x152_50 t556 t557 (wrap64 (t556 + (wrap64 (t558 - 2000)))) (wrap64 (t557 + (wrap64 (t559 - 2000)))) = some r) ∧ Aside0 (kq ≤ kj22) ∧ Aside0 (Kd.R k31 31 wc w.heap.size (fun k_ => some k_ ≠ ((.slice Ao53 x10_1.length co53) : Value).ownBlock ∧ some k_ ≠ (v571 : Value).ownBlock ∧ some k_ ≠ (v575 : Value).ownBlock ∧ k_ ≠ gb551 ∧ k_ ≠ gb565) (.slice Ao24 t553.length co24) t553) ∧ Aside0 (Kd.R k31 31 wc w.heap.size (fun k_ => some k_ ≠ ((.slice Ao24 t553.length co24) : Value).ownBlock ∧ some k_ ≠ (v571 : Value).ownBlock ∧ some k_ ≠ (v575 : Value).ownBlock ∧ k_ ≠ gb551 ∧ k_ ≠ gb565) (.slice Ao53 x10_1.length co53) x10_1) ∧ Aside0 (Kd.R k31 31 wc w.heap.size (fun k_ => some k_ ≠ ((.slice Ao24 t553.length co24) : Value).ownBlock ∧ some k_ ≠ ((.slice Ao53 x10_1.length co53) : Value).ownBlock ∧ some k_ ≠ (v575 : Value).ownBlock ∧ k_ ≠ gb551 ∧ k_ ≠ gb565) v571 t569) ∧ Aside0 (Kd.R k31 31 wc w.heap.size (fun k_ => some k_ ≠ ((.slice Ao24 t553.length co24) : Value).ownBlock ∧ some k_ ≠ ((.slice Ao53 x10_1.length co53) : Value).ownBlock ∧ some k_ ≠ (v571 : Value).ownBlock ∧ k_ ≠ gb551 ∧ k_ ≠ gb565) v575 t573) ∧ Aside0 (wc.heap[gb551]? = some (.cells #[.int .i64 t556, .int .i64 t557] 31 (0, 0))) ∧ Aside0 (wc.heap[gb552]? = some (.cells #[.int .i64 a2_0, .int .i64 a2_1] 49 (0, 0))) ∧ Aside0 (wc.heap[gb565]? = some (.cells #[.int .i64 (wrap64 (t556 + (wrap64 (t558 - 2000)))), .int .i64 (wrap64 (t557 + (wrap64 (t559 - 2000))))] 31 (0, 0))) ∧ Aside0 (Below w.heap.size w wc))
         case first =>
          have H := HC51.out
          clear HC51
          by_cases c59 : t570 = 0
          ·rw [if_pos c59] at H
           have c59b0 : (t570 == 0) = true := beq_iff_eq.mpr c59
           have c59b1 : (t570 != 0) = false := bne_eq_false_iff_eq.mpr c59
           clear c59
           (first | rw [c59b0] | (simp only [i64_w, i32_w]; rw [c59b0]) | skip)
           by_cases c60 : t574 = 0
           ·rw [if_pos c60] at H
            have c60b0 : (t574 == 0) = true := beq_iff_eq.mpr c60
            have c60b1 : (t574 != 0) = false := bne_eq_false_iff_eq.mpr c60
            clear c60
            by_cases c61 : t578 = 0
            ·rw [if_pos c61] at H
             have c61b0 : (t578 == 0) = true := beq_iff_eq.mpr c61
             have c61b1 : (t578 != 0) = false := bne_eq_false_iff_eq.mpr c61
             clear c61
             by_cases c62 : t580 = 0
             ·rw [if_pos c62] at H
              have c62b0 : (t580 == 0) = true := beq_iff_eq.mpr c62
              have c62b1 : (t580 != 0) = false := bne_eq_false_iff_eq.mpr c62
              clear c62
              by_cases c63 : t582 = 0
              ·rw [if_pos c63] at H
               have c63b0 : (t582 == 0) = true := beq_iff_eq.mpr c63
               have c63b1 : (t582 != 0) = false := bne_eq_false_iff_eq.mpr c63
               clear c63
               by_cases c64 : t584 = 0
               ·rw [if_pos c64] at H
                have c64b0 : (t584 == 0) = true := beq_iff_eq.mpr c64
                have c64b1 : (t584 != 0) = false := bne_eq_false_iff_eq.mpr c64
                clear c64
                by_cases c65 : t577 = t579
                ·rw [if_pos c65] at H
                 have c65b0 : (t577 == t579) = true := beq_iff_eq.mpr c65
                 have c65b1 : (t577 != t579) = false := bne_eq_false_iff_eq.mpr c65
                 clear c65
                 by_cases c66 : t581 = t583
                 ·rw [if_pos c66] at H
                  have c66b0 : (t581 == t583) = true := beq_iff_eq.mpr c66
                  have c66b1 : (t581 != t583) = false := bne_eq_false_iff_eq.mpr c66
                  clear c66
                  have H' := Aside0.mk H
                  clear H
                  obtain ⟨Ao67, co67, eo67⟩ := Kd.R_slice HO572.out
                  subst eo67
                  obtain ⟨Ao68, co68, eo68⟩ := Kd.R_slice HO576.out
                  subst eo68
                  go_wp2
                  go_meet
                  case rel => exact ⟨_, (((t569.length : Int) != (t573.length : Int))), (by first | rfl | (simp; done) | (simp [*]; done)), H', ⟨by have := HK1.out; have := HJ22.out; first | omega | exact Nat.le_refl _⟩, ⟨by (with_reducible repeat (first | apply Kd.R_alloc | apply Kd.R_drewN | apply Kd.R_drew)); exact Kd.R_mono HO_7.out (fun _ hk => ⟨hk.1.1.1, ⟨hk.1.2, ⟨hk.2, ⟨hk.1.1.2.1, hk.1.1.2.2⟩⟩⟩⟩)⟩, ⟨by (with_reducible repeat (first | apply Kd.R_alloc | apply Kd.R_drewN | apply Kd.R_drew)); exact Kd.R_mono HO_10.out (fun _ hk => ⟨hk.1.1.1, ⟨hk.1.2, ⟨hk.2, ⟨hk.1.1.2.1, hk.1.1.2.2⟩⟩⟩⟩)⟩, ⟨by (with_reducible repeat (first | apply Kd.R_alloc | apply Kd.R_drewN | apply Kd.R_drew)); exact Kd.R_mono HO572.out (fun _ hk => ⟨hk.1.1.1.1.2, ⟨hk.1.1.1.2, ⟨hk.2, ⟨hk.1.1.2, hk.1.2⟩⟩⟩⟩)⟩, ⟨by (with_reducible repeat (first | apply Kd.R_alloc | apply Kd.R_drewN | apply Kd.R_drew)); exact Kd.R_mono HO576.out (fun _ hk => ⟨hk.1.1.1.1.2, ⟨hk.1.1.1.2, ⟨hk.1.1.2, ⟨hk.1.2, hk.2⟩⟩⟩⟩)⟩, ⟨by (with_reducible repeat (first | refine kN ?_ _ | refine kD ?_ | refine kA ?_ _)); exact BK551.out⟩, ⟨by (with_reducible repeat (first | refine kN ?_ _ | refine kD ?_ | refine kA ?_ _)); exact BK552.out⟩, ⟨by (with_reducible repeat (first | refine kN ?_ _ | refine kD ?_ | refine kA ?_ _)); exact BK565.out⟩, ⟨by repeat (first | (with_reducible first | exact HB.out | apply lA | apply lN | apply lD | refine lS ?_ GE551.out | refine lS ?_ GE552.out | refine lS ?_ GE565.out) | exact HB.out)⟩⟩
                 ·rw [if_neg c66] at H
                  have c66b0 : (t581 == t583) = false := beq_eq_false_iff_ne.mpr c66
                  have c66b1 : (t581 != t583) = true := bne_iff_ne.mpr c66
                  have H' := Aside0.mk H
                  clear H
                  go_wp2
                  go_meet
                  case rel => exact ⟨_, (true), (by first | rfl | (simp; done) | (simp [*]; done)), H', ⟨by have := HK1.out; have := HJ22.out; first | omega | exact Nat.le_refl _⟩, ⟨by (with_reducible repeat (first | apply Kd.R_alloc | apply Kd.R_drewN | apply Kd.R_drew)); exact Kd.R_mono HO_7.out (fun _ hk => ⟨hk.1.1.1, ⟨hk.1.2, ⟨hk.2, ⟨hk.1.1.2.1, hk.1.1.2.2⟩⟩⟩⟩)⟩, ⟨by (with_reducible repeat (first | apply Kd.R_alloc | apply Kd.R_drewN | apply Kd.R_drew)); exact Kd.R_mono HO_10.out (fun _ hk => ⟨hk.1.1.1, ⟨hk.1.2, ⟨hk.2, ⟨hk.1.1.2.1, hk.1.1.2.2⟩⟩⟩⟩)⟩, ⟨by (with_reducible repeat (first | apply Kd.R_alloc | apply Kd.R_drewN | apply Kd.R_drew)); exact Kd.R_mono HO572.out (fun _ hk => ⟨hk.1.1.1.1.2, ⟨hk.1.1.1.2, ⟨hk.2, ⟨hk.1.1.2, hk.1.2⟩⟩⟩⟩)⟩, ⟨by (with_reducible repeat (first | apply Kd.R_alloc | apply Kd.R_drewN | apply Kd.R_drew)); exact Kd.R_mono HO576.out (fun _ hk => ⟨hk.1.1.1.1.2, ⟨hk.1.1.1.2, ⟨hk.1.1.2, ⟨hk.1.2, hk.2⟩⟩⟩⟩)⟩, ⟨by (with_reducible repeat (first | refine kN ?_ _ | refine kD ?_ | refine kA ?_ _)); exact BK551.out⟩, ⟨by (with_reducible repeat (first | refine kN ?_ _ | refine kD ?_ | refine kA ?_ _)); exact BK552.out⟩, ⟨by (with_reducible repeat (first | refine kN ?_ _ | refine kD ?_ | refine kA ?_ _)); exact BK565.out⟩, ⟨by repeat (first | (with_reducible first | exact HB.out | apply lA | apply lN | apply lD | refine lS ?_ GE551.out | refine lS ?_ GE552.out | refine lS ?_ GE565.out) | exact HB.out)⟩⟩
                ·rw [if_neg c65] at H
                 have c65b0 : (t577 == t579) = false := beq_eq_false_iff_ne.mpr c65
                 have c65b1 : (t577 != t579) = true := bne_iff_ne.mpr c65
                 have H' := Aside0.mk H
                 clear H
                 go_wp2
                 go_meet
                 case rel => exact ⟨_, (true), (by first | rfl | (simp; done) | (simp [*]; done)), H', ⟨by have := HK1.out; have := HJ22.out; first | omega | exact Nat.le_refl _⟩, ⟨by (with_reducible repeat (first | apply Kd.R_alloc | apply Kd.R_drewN | apply Kd.R_drew)); exact Kd.R_mono HO_7.out (fun _ hk => ⟨hk.1.1.1, ⟨hk.1.2, ⟨hk.2, ⟨hk.1.1.2.1, hk.1.1.2.2⟩⟩⟩⟩)⟩, ⟨by (with_reducible repeat (first | apply Kd.R_alloc | apply Kd.R_drewN | apply Kd.R_drew)); exact Kd.R_mono HO_10.out (fun _ hk => ⟨hk.1.1.1, ⟨hk.1.2, ⟨hk.2, ⟨hk.1.1.2.1, hk.1.1.2.2⟩⟩⟩⟩)⟩, ⟨by (with_reducible repeat (first | apply Kd.R_alloc | apply Kd.R_drewN | apply Kd.R_drew)); exact Kd.R_mono HO572.out (fun _ hk => ⟨hk.1.1.1.1.2, ⟨hk.1.1.1.2, ⟨hk.2, ⟨hk.1.1.2, hk.1.2⟩⟩⟩⟩)⟩, ⟨by (with_reducible repeat (first | apply Kd.R_alloc | apply Kd.R_drewN | apply Kd.R_drew)); exact Kd.R_mono HO576.out (fun _ hk => ⟨hk.1.1.1.1.2, ⟨hk.1.1.1.2, ⟨hk.1.1.2, ⟨hk.1.2, hk.2⟩⟩⟩⟩)⟩, ⟨by (with_reducible repeat (first | refine kN ?_ _ | refine kD ?_ | refine kA ?_ _)); exact BK551.out⟩, ⟨by (with_reducible repeat (first | refine kN ?_ _ | refine kD ?_ | refine kA ?_ _)); exact BK552.out⟩, ⟨by (with_reducible repeat (first | refine kN ?_ _ | refine kD ?_ | refine kA ?_ _)); exact BK565.out⟩, ⟨by repeat (first | (with_reducible first | exact HB.out | apply lA | apply lN | apply lD | refine lS ?_ GE551.out | refine lS ?_ GE552.out | refine lS ?_ GE565.out) | exact HB.out)⟩⟩
               ·rw [if_neg c64] at H
                have c64b0 : (t584 == 0) = false := beq_eq_false_iff_ne.mpr c64
                have c64b1 : (t584 != 0) = true := bne_iff_ne.mpr c64
                have H' := Aside0.mk H
                clear H
                go_wp2
                go_meet
                case rel => exact ⟨_, (true), (by first | rfl | (simp; done) | (simp [*]; done)), H', ⟨by have := HK1.out; have := HJ22.out; first | omega | exact Nat.le_refl _⟩, ⟨by (with_reducible repeat (first | apply Kd.R_alloc | apply Kd.R_drewN | apply Kd.R_drew)); exact Kd.R_mono HO_7.out (fun _ hk => ⟨hk.1.1.1, ⟨hk.1.2, ⟨hk.2, ⟨hk.1.1.2.1, hk.1.1.2.2⟩⟩⟩⟩)⟩, ⟨by (with_reducible repeat (first | apply Kd.R_alloc | apply Kd.R_drewN | apply Kd.R_drew)); exact Kd.R_mono HO_10.out (fun _ hk => ⟨hk.1.1.1, ⟨hk.1.2, ⟨hk.2, ⟨hk.1.1.2.1, hk.1.1.2.2⟩⟩⟩⟩)⟩, ⟨by (with_reducible repeat (first | apply Kd.R_alloc | apply Kd.R_drewN | apply Kd.R_drew)); exact Kd.R_mono HO572.out (fun _ hk => ⟨hk.1.1.1.1.2, ⟨hk.1.1.1.2, ⟨hk.2, ⟨hk.1.1.2, hk.1.2⟩⟩⟩⟩)⟩, ⟨by (with_reducible repeat (first | apply Kd.R_alloc | apply Kd.R_drewN | apply Kd.R_drew)); exact Kd.R_mono HO576.out (fun _ hk => ⟨hk.1.1.1.1.2, ⟨hk.1.1.1.2, ⟨hk.1.1.2, ⟨hk.1.2, hk.2⟩⟩⟩⟩)⟩, ⟨by (with_reducible repeat (first | refine kN ?_ _ | refine kD ?_ | refine kA ?_ _)); exact BK551.out⟩, ⟨by (with_reducible repeat (first | refine kN ?_ _ | refine kD ?_ | refine kA ?_ _)); exact BK552.out⟩, ⟨by (with_reducible repeat (first | refine kN ?_ _ | refine kD ?_ | refine kA ?_ _)); exact BK565.out⟩, ⟨by repeat (first | (with_reducible first | exact HB.out | apply lA | apply lN | apply lD | refine lS ?_ GE551.out | refine lS ?_ GE552.out | refine lS ?_ GE565.out) | exact HB.out)⟩⟩
              ·rw [if_neg c63] at H
               have c63b0 : (t582 == 0) = false := beq_eq_false_iff_ne.mpr c63
               have c63b1 : (t582 != 0) = true := bne_iff_ne.mpr c63
               have H' := Aside0.mk H
               clear H
               go_wp2
               go_meet
               case rel => exact ⟨_, (true), (by first | rfl | (simp; done) | (simp [*]; done)), H', ⟨by have := HK1.out; have := HJ22.out; first | omega | exact Nat.le_refl _⟩, ⟨by (with_reducible repeat (first | apply Kd.R_alloc | apply Kd.R_drewN | apply Kd.R_drew)); exact Kd.R_mono HO_7.out (fun _ hk => ⟨hk.1.1.1, ⟨hk.1.2, ⟨hk.2, ⟨hk.1.1.2.1, hk.1.1.2.2⟩⟩⟩⟩)⟩, ⟨by (with_reducible repeat (first | apply Kd.R_alloc | apply Kd.R_drewN | apply Kd.R_drew)); exact Kd.R_mono HO_10.out (fun _ hk => ⟨hk.1.1.1, ⟨hk.1.2, ⟨hk.2, ⟨hk.1.1.2.1, hk.1.1.2.2⟩⟩⟩⟩)⟩, ⟨by (with_reducible repeat (first | apply Kd.R_alloc | apply Kd.R_drewN | apply Kd.R_drew)); exact Kd.R_mono HO572.out (fun _ hk => ⟨hk.1.1.1.1.2, ⟨hk.1.1.1.2, ⟨hk.2, ⟨hk.1.1.2, hk.1.2⟩⟩⟩⟩)⟩, ⟨by (with_reducible repeat (first | apply Kd.R_alloc | apply Kd.R_drewN | apply Kd.R_drew)); exact Kd.R_mono HO576.out (fun _ hk => ⟨hk.1.1.1.1.2, ⟨hk.1.1.1.2, ⟨hk.1.1.2, ⟨hk.1.2, hk.2⟩⟩⟩⟩)⟩, ⟨by (with_reducible repeat (first | refine kN ?_ _ | refine kD ?_ | refine kA ?_ _)); exact BK551.out⟩, ⟨by (with_reducible repeat (first | refine kN ?_ _ | refine kD ?_ | refine kA ?_ _)); exact BK552.out⟩, ⟨by (with_reducible repeat (first | refine kN ?_ _ | refine kD ?_ | refine kA ?_ _)); exact BK565.out⟩, ⟨by repeat (first | (with_reducible first | exact HB.out | apply lA | apply lN | apply lD | refine lS ?_ GE551.out | refine lS ?_ GE552.out | refine lS ?_ GE565.out) | exact HB.out)⟩⟩
             ·rw [if_neg c62] at H
              have c62b0 : (t580 == 0) = false := beq_eq_false_iff_ne.mpr c62
              have c62b1 : (t580 != 0) = true := bne_iff_ne.mpr c62
              have H' := Aside0.mk H
              clear H
              go_wp2
              go_meet
              case rel => exact ⟨_, (true), (by first | rfl | (simp; done) | (simp [*]; done)), H', ⟨by have := HK1.out; have := HJ22.out; first | omega | exact Nat.le_refl _⟩, ⟨by (with_reducible repeat (first | apply Kd.R_alloc | apply Kd.R_drewN | apply Kd.R_drew)); exact Kd.R_mono HO_7.out (fun _ hk => ⟨hk.1.1.1, ⟨hk.1.2, ⟨hk.2, ⟨hk.1.1.2.1, hk.1.1.2.2⟩⟩⟩⟩)⟩, ⟨by (with_reducible repeat (first | apply Kd.R_alloc | apply Kd.R_drewN | apply Kd.R_drew)); exact Kd.R_mono HO_10.out (fun _ hk => ⟨hk.1.1.1, ⟨hk.1.2, ⟨hk.2, ⟨hk.1.1.2.1, hk.1.1.2.2⟩⟩⟩⟩)⟩, ⟨by (with_reducible repeat (first | apply Kd.R_alloc | apply Kd.R_drewN | apply Kd.R_drew)); exact Kd.R_mono HO572.out (fun _ hk => ⟨hk.1.1.1.1.2, ⟨hk.1.1.1.2, ⟨hk.2, ⟨hk.1.1.2, hk.1.2⟩⟩⟩⟩)⟩, ⟨by (with_reducible repeat (first | apply Kd.R_alloc | apply Kd.R_drewN | apply Kd.R_drew)); exact Kd.R_mono HO576.out (fun _ hk => ⟨hk.1.1.1.1.2, ⟨hk.1.1.1.2, ⟨hk.1.1.2, ⟨hk.1.2, hk.2⟩⟩⟩⟩)⟩, ⟨by (with_reducible repeat (first | refine kN ?_ _ | refine kD ?_ | refine kA ?_ _)); exact BK551.out⟩, ⟨by (with_reducible repeat (first | refine kN ?_ _ | refine kD ?_ | refine kA ?_ _)); exact BK552.out⟩, ⟨by (with_reducible repeat (first | refine kN ?_ _ | refine kD ?_ | refine kA ?_ _)); exact BK565.out⟩, ⟨by repeat (first | (with_reducible first | exact HB.out | apply lA | apply lN | apply lD | refine lS ?_ GE551.out | refine lS ?_ GE552.out | refine lS ?_ GE565.out) | exact HB.out)⟩⟩
            ·rw [if_neg c61] at H
             have c61b0 : (t578 == 0) = false := beq_eq_false_iff_ne.mpr c61
             have c61b1 : (t578 != 0) = true := bne_iff_ne.mpr c61
             have H' := Aside0.mk H
             clear H
             go_wp2
             go_meet
             case rel => exact ⟨_, (true), (by first | rfl | (simp; done) | (simp [*]; done)), H', ⟨by have := HK1.out; have := HJ22.out; first | omega | exact Nat.le_refl _⟩, ⟨by (with_reducible repeat (first | apply Kd.R_alloc | apply Kd.R_drewN | apply Kd.R_drew)); exact Kd.R_mono HO_7.out (fun _ hk => ⟨hk.1.1.1, ⟨hk.1.2, ⟨hk.2, ⟨hk.1.1.2.1, hk.1.1.2.2⟩⟩⟩⟩)⟩, ⟨by (with_reducible repeat (first | apply Kd.R_alloc | apply Kd.R_drewN | apply Kd.R_drew)); exact Kd.R_mono HO_10.out (fun _ hk => ⟨hk.1.1.1, ⟨hk.1.2, ⟨hk.2, ⟨hk.1.1.2.1, hk.1.1.2.2⟩⟩⟩⟩)⟩, ⟨by (with_reducible repeat (first | apply Kd.R_alloc | apply Kd.R_drewN | apply Kd.R_drew)); exact Kd.R_mono HO572.out (fun _ hk => ⟨hk.1.1.1.1.2, ⟨hk.1.1.1.2, ⟨hk.2, ⟨hk.1.1.2, hk.1.2⟩⟩⟩⟩)⟩, ⟨by (with_reducible repeat (first | apply Kd.R_alloc | apply Kd.R_drewN | apply Kd.R_drew)); exact Kd.R_mono HO576.out (fun _ hk => ⟨hk.1.1.1.1.2, ⟨hk.1.1.1.2, ⟨hk.1.1.2, ⟨hk.1.2, hk.2⟩⟩⟩⟩)⟩, ⟨by (with_reducible repeat (first | refine kN ?_ _ | refine kD ?_ | refine kA ?_ _)); exact BK551.out⟩, ⟨by (with_reducible repeat (first | refine kN ?_ _ | refine kD ?_ | refine kA ?_ _)); exact BK552.out⟩, ⟨by (with_reducible repeat (first | refine kN ?_ _ | refine kD ?_ | refine kA ?_ _)); exact BK565.out⟩, ⟨by repeat (first | (with_reducible first | exact HB.out | apply lA | apply lN | apply lD | refine lS ?_ GE551.out | refine lS ?_ GE552.out | refine lS ?_ GE565.out) | exact HB.out)⟩⟩
           ·rw [if_neg c60] at H
            have c60b0 : (t574 == 0) = false := beq_eq_false_iff_ne.mpr c60
            have c60b1 : (t574 != 0) = true := bne_iff_ne.mpr c60
            have H' := Aside0.mk H
            clear H
            go_wp2
            go_meet
            case rel => exact ⟨_, (true), (by first | rfl | (simp; done) | (simp [*]; done)), H', ⟨by have := HK1.out; have := HJ22.out; first | omega | exact Nat.le_refl _⟩, ⟨by (with_reducible repeat (first | apply Kd.R_alloc | apply Kd.R_drewN | apply Kd.R_drew)); exact Kd.R_mono HO_7.out (fun _ hk => ⟨hk.1.1.1, ⟨hk.1.2, ⟨hk.2, ⟨hk.1.1.2.1, hk.1.1.2.2⟩⟩⟩⟩)⟩, ⟨by (with_reducible repeat (first | apply Kd.R_alloc | apply Kd.R_drewN | apply Kd.R_drew)); exact Kd.R_mono HO_10.out (fun _ hk => ⟨hk.1.1.1, ⟨hk.1.2, ⟨hk.2, ⟨hk.1.1.2.1, hk.1.1.2.2⟩⟩⟩⟩)⟩, ⟨by (with_reducible repeat (first | apply Kd.R_alloc | apply Kd.R_drewN | apply Kd.R_drew)); exact Kd.R_mono HO572.out (fun _ hk => ⟨hk.1.1.1.1.2, ⟨hk.1.1.1.2, ⟨hk.2, ⟨hk.1.1.2, hk.1.2⟩⟩⟩⟩)⟩, ⟨by (with_reducible repeat (first | apply Kd.R_alloc | apply Kd.R_drewN | apply Kd.R_drew)); exact Kd.R_mono HO576.out (fun _ hk => ⟨hk.1.1.1.1.2, ⟨hk.1.1.1.2, ⟨hk.1.1.2, ⟨hk.1.2, hk.2⟩⟩⟩⟩)⟩, ⟨by (with_reducible repeat (first | refine kN ?_ _ | refine kD ?_ | refine kA ?_ _)); exact BK551.out⟩, ⟨by (with_reducible repeat (first | refine kN ?_ _ | refine kD ?_ | refine kA ?_ _)); exact BK552.out⟩, ⟨by (with_reducible repeat (first | refine kN ?_ _ | refine kD ?_ | refine kA ?_ _)); exact BK565.out⟩, ⟨by repeat (first | (with_reducible first | exact HB.out | apply lA | apply lN | apply lD | refine lS ?_ GE551.out | refine lS ?_ GE552.out | refine lS ?_ GE565.out) | exact HB.out)⟩⟩
          ·rw [if_neg c59] at H
           have c59b0 : (t570 == 0) = false := beq_eq_false_iff_ne.mpr c59
           have c59b1 : (t570 != 0) = true := bne_iff_ne.mpr c59
           (first | rw [c59b0] | (simp only [i64_w, i32_w]; rw [c59b0]) | skip)
           have H' := Aside0.mk H
           clear H
           go_wp2
           go_meet
           case rel => exact ⟨_, (true), (by first | rfl | (simp; done) | (simp [*]; done)), H', ⟨by have := HK1.out; have := HJ22.out; first | omega | exact Nat.le_refl _⟩, ⟨by (with_reducible repeat (first | apply Kd.R_alloc | apply Kd.R_drewN | apply Kd.R_drew)); exact Kd.R_mono HO_7.out (fun _ hk => ⟨hk.1.1.1, ⟨hk.1.2, ⟨hk.2, ⟨hk.1.1.2.1, hk.1.1.2.2⟩⟩⟩⟩)⟩, ⟨by (with_reducible repeat (first | apply Kd.R_alloc | apply Kd.R_drewN | apply Kd.R_drew)); exact Kd.R_mono HO_10.out (fun _ hk => ⟨hk.1.1.1, ⟨hk.1.2, ⟨hk.2, ⟨hk.1.1.2.1, hk.1.1.2.2⟩⟩⟩⟩)⟩, ⟨by (with_reducible repeat (first | apply Kd.R_alloc | apply Kd.R_drewN | apply Kd.R_drew)); exact Kd.R_mono HO572.out (fun _ hk => ⟨hk.1.1.1.1.2, ⟨hk.1.1.1.2, ⟨hk.2, ⟨hk.1.1.2, hk.1.2⟩⟩⟩⟩)⟩, ⟨by (with_reducible repeat (first | apply Kd.R_alloc | apply Kd.R_drewN | apply Kd.R_drew)); exact Kd.R_mono HO576.out (fun _ hk => ⟨hk.1.1.1.1.2, ⟨hk.1.1.1.2, ⟨hk.1.1.2, ⟨hk.1.2, hk.2⟩⟩⟩⟩)⟩, ⟨by (with_reducible repeat (first | refine kN ?_ _ | refine kD ?_ | refine kA ?_ _)); exact BK551.out⟩, ⟨by (with_reducible repeat (first | refine kN ?_ _ | refine kD ?_ | refine kA ?_ _)); exact BK552.out⟩, ⟨by (with_reducible repeat (first | refine kN ?_ _ | refine kD ?_ | refine kA ?_ _)); exact BK565.out⟩, ⟨by repeat (first | (with_reducible first | exact HB.out | apply lA | apply lN | apply lD | refine lS ?_ GE551.out | refine lS ?_ GE552.out | refine lS ?_ GE565.out) | exact HB.out)⟩⟩
         case rest =>
          clear HC51
          try clear c1
          try clear c2
          try clear p2
          try clear c3
          try clear c4
          try clear c5
          try clear p5
          try clear q5
          try clear hx5
          try clear c6
          try clear p6
          try clear c11
          try clear c14
          try clear c17
          try clear c17b0
          try clear c18
          try clear c18b0
          try clear c19
          try clear c21
          try clear c22
          try clear c23
          try clear c25
          try clear c28
          try clear c29
          try clear c32
          try clear c36
          try clear c37
          try clear c42
          try clear c44
          try clear p56
          try clear q56
          try clear hx56
          try clear c59
          try clear c59b0
          try clear c59b1
          try clear c60
          try clear c60b0
          try clear c60b1
          try clear c61
          try clear c61b0
          try clear c61b1
          try clear c62
          try clear c62b0
          try clear c62b1
          try clear c63
          try clear c63b0
          try clear c63b1
          try clear c64
          try clear c64b0
          try clear c64b1
          try clear p64
          try clear c65
          try clear c65b0
          try clear c65b1
          try clear c66
          try clear c66b0
          try clear c66b1
          try clear hcz12_0
          try clear hcz12_1
          try clear hcz14_0
          try clear hcz14_1
          try clear hcz26_0
          try clear hcz26_1
          try clear hcz30_0
          try clear hcz30_1
          try clear hcz38_0
          try clear hcz38_1
          try clear hfz12_0
          try clear hfz12_1
          try clear hfz14_0
          try clear hfz14_1
          try clear hfz26_0
          try clear hfz26_1
          try clear hfz30_0
          try clear hfz30_1
          try clear hfz38_0
          try clear hfz38_1
          try clear hx560_0
          try clear hx560_1
          try clear hx561_0
          try clear hx561_1
          try clear p2
          try clear p5
          try clear p560
          try clear p561
          try clear p6
          try clear q5
          try clear q560
          try clear q561
          obtain ⟨kq, x152_50, rfl, HA, HJ50, HO_7, HO_10, HO_13, HO_15, BK551, BK552, BK565, HB⟩ := hcut
          as_aux_lemma =>
           cases kq with
           | zero => exact absurd HA.out (by simp [silversidelaw01_PlaneMoves.j2])
           | succ kj50 =>
            have H := HA.out
            clear HA
            simp only [silversidelaw01_PlaneMoves.j2] at H
            by_cases c69 : x152_50 = true
            ·subst c69
             exact absurd ((Option.some.inj (show (some false : Option Bool) = some r from by rw [if_pos rfl] at H; exact H)).trans hr_.out) (by decide)
            ·replace c69 := Bool.eq_false_iff.mpr c69
             subst c69
             have H1 : (silversidelaw01_PlaneMoves.l1 kj50 t553 (wrap64 (t558 - 2000)) (wrap64 (t559 - 2000)) x10_1 t569 t573 0 t556 t557 (wrap64 (t556 + (wrap64 (t558 - 2000)))) (wrap64 (t557 + (wrap64 (t559 - 2000))))) = some r := by rw [if_neg (show ¬ (false = true) by decide)] at H; exact H
             clear H
             have H := H1
             clear H1
             have H' := Aside0.mk H
             clear H
             go_wp2
             go_loopg [25] kj50 (fun kq v25 w' => ∃ (x25_4 : Int), v25 = .int .i64 x25_4 ∧ Aside0 (silversidelaw01_PlaneMoves.l1 kq t553 (wrap64 (t558 - 2000)) (wrap64 (t559 - 2000)) x10_1 t569 t573 x25_4 t556 t557 (wrap64 (t556 + (wrap64 (t558 - 2000)))) (wrap64 (t557 + (wrap64 (t559 - 2000)))) = some r) ∧ Aside0 (kq ≤ kj50) ∧ Aside0 (Kd.R k31 31 w' w.heap.size (fun k_ => some k_ ≠ ((.slice Ao53 x10_1.length co53) : Value).ownBlock ∧ some k_ ≠ (v571 : Value).ownBlock ∧ some k_ ≠ (v575 : Value).ownBlock ∧ k_ ≠ gb551 ∧ k_ ≠ gb565) (.slice Ao24 t553.length co24) t553) ∧ Aside0 (Kd.R k31 31 w' w.heap.size (fun k_ => some k_ ≠ ((.slice Ao24 t553.length co24) : Value).ownBlock ∧ some k_ ≠ (v571 : Value).ownBlock ∧ some k_ ≠ (v575 : Value).ownBlock ∧ k_ ≠ gb551 ∧ k_ ≠ gb565) (.slice Ao53 x10_1.length co53) x10_1) ∧ Aside0 (Kd.R k31 31 w' w.heap.size (fun k_ => some k_ ≠ ((.slice Ao24 t553.length co24) : Value).ownBlock ∧ some k_ ≠ ((.slice Ao53 x10_1.length co53) : Value).ownBlock ∧ some k_ ≠ (v575 : Value).ownBlock ∧ k_ ≠ gb551 ∧ k_ ≠ gb565) v571 t569) ∧ Aside0 (Kd.R k31 31 w' w.heap.size (fun k_ => some k_ ≠ ((.slice Ao24 t553.length co24) : Value).ownBlock ∧ some k_ ≠ ((.slice Ao53 x10_1.length co53) : Value).ownBlock ∧ some k_ ≠ (v571 : Value).ownBlock ∧ k_ ≠ gb551 ∧ k_ ≠ gb565) v575 t573) ∧ Aside0 (w'.heap[gb551]? = some (.cells #[.int .i64 t556, .int .i64 t557] 31 (0, 0))) ∧ Aside0 (w'.heap[gb552]? = some (.cells #[.int .i64 a2_0, .int .i64 a2_1] 49 (0, 0))) ∧ Aside0 (w'.heap[gb565]? = some (.cells #[.int .i64 (wrap64 (t556 + (wrap64 (t558 - 2000)))), .int .i64 (wrap64 (t557 + (wrap64 (t559 - 2000))))] 31 (0, 0))) ∧ Aside0 (Below w.heap.size w w'))
             case atStart => exact ⟨(0), (by first | rfl | (simp; done) | (simp [*]; done)), H', ⟨Nat.le_refl _⟩, ⟨by (with_reducible repeat (first | apply Kd.R_alloc | apply Kd.R_drewN | apply Kd.R_drew)); exact HO_7.out⟩, ⟨by (with_reducible repeat (first | apply Kd.R_alloc | apply Kd.R_drewN | apply Kd.R_drew)); exact HO_10.out⟩, ⟨by (with_reducible repeat (first | apply Kd.R_alloc | apply Kd.R_drewN | apply Kd.R_drew)); exact HO_13.out⟩, ⟨by (with_reducible repeat (first | apply Kd.R_alloc | apply Kd.R_drewN | apply Kd.R_drew)); exact HO_15.out⟩, ⟨by (with_reducible repeat (first | refine kN ?_ _ | refine kD ?_ | refine kA ?_ _)); exact BK551.out⟩, ⟨by (with_reducible repeat (first | refine kN ?_ _ | refine kD ?_ | refine kA ?_ _)); exact BK552.out⟩, ⟨by (with_reducible repeat (first | refine kN ?_ _ | refine kD ?_ | refine kA ?_ _)); exact BK565.out⟩, ⟨by repeat (first | (with_reducible first | exact HB.out | apply lA | apply lN | apply lD | refine lS ?_ GE551.out | refine lS ?_ GE552.out | refine lS ?_ GE565.out) | exact HB.out)⟩⟩
             case round =>
              as_aux_lemma =>
               clear H'
               try clear c1
               try clear c2
               try clear p2
               try clear c3
               try clear c4
               try clear c5
               try clear p5
               try clear q5
               try clear hx5
               try clear c6
               try clear p6
               try clear c11
               try clear c14
               try clear c17
               try clear c17b0
               try clear c18
               try clear c18b0
               try clear c19
               try clear c21
               try clear c22
               try clear c23
               try clear c25
               try clear c28
               try clear c29
               try clear c32
               try clear c36
               try clear c37
               try clear c42
               try clear c44
               try clear p56
               try clear q56
               try clear hx56
               try clear c59
               try clear c59b0
               try clear c59b1
               try clear c60
               try clear c60b0
               try clear c60b1
               try clear c61
               try clear c61b0
               try clear c61b1
               try clear c62
               try clear c62b0
               try clear c62b1
               try clear c63
               try clear c63b0
               try clear c63b1
               try clear c64
               try clear c64b0
               try clear c64b1
               try clear p64
               try clear c65
               try clear c65b0
               try clear c65b1
               try clear c66
               try clear c66b0
               try clear c66b1
               try clear c69
               try clear hcz12_0
               try clear hcz12_1
               try clear hcz14_0
               try clear hcz14_1
               try clear hcz26_0
               try clear hcz26_1
               try clear hcz30_0
               try clear hcz30_1
               try clear hcz38_0
               try clear hcz38_1
               try clear hfz12_0
               try clear hfz12_1
               try clear hfz14_0
               try clear hfz14_1
               try clear hfz26_0
               try clear hfz26_1
               try clear hfz30_0
               try clear hfz30_1
               try clear hfz38_0
               try clear hfz38_1
               try clear hx560_0
               try clear hx560_1
               try clear hx561_0
               try clear hx561_1
               try clear p2
               try clear p5
               try clear p56
               try clear p560
               try clear p561
               try clear p6
               try clear p64
               try clear q5
               try clear q56
               try clear q560
               try clear q561
               obtain ⟨x25_4, rfl, HA, HK4, HO_7, HO_10, HO_13, HO_15, BK551, BK552, BK565, HB⟩ := hrel
               cases gk with
               | zero => exact absurd HA.out (by simp [silversidelaw01_PlaneMoves.l1])
               | succ k4 =>
                have H := HA.out
                clear HA
                simp only [silversidelaw01_PlaneMoves.l1] at H
                by_cases c70 : x25_4 < (t569.length : Int)
                ·rw [if_pos c70] at H
                 have c70b0 : decide (x25_4 < (t569.length : Int)) = true := decide_eq_true c70
                 clear c70
                 by_cases c71 : 0 ≤ x25_4
                 ·rw [if_pos c71] at H
                  have c71b0 : decide (0 ≤ x25_4) = true := decide_eq_true c71
                  clear c71
                  by_cases c72 : x25_4 < (t573.length : Int)
                  ·rw [if_pos c72] at H
                   have c72b0 : decide (x25_4 < (t573.length : Int)) = true := decide_eq_true c72
                   clear c72
                   by_cases c73 : (wrap64 (((rd_T31 t569 x25_4).f0) + (wrap64 (t558 - 2000)))) = ((rd_T31 t573 x25_4).f0)
                   ·rw [if_pos c73] at H
                    have c73b0 : ((wrap64 (((rd_T31 t569 x25_4).f0) + (wrap64 (t558 - 2000)))) == ((rd_T31 t573 x25_4).f0)) = true := beq_iff_eq.mpr c73
                    have c73b1 : ((wrap64 (((rd_T31 t569 x25_4).f0) + (wrap64 (t558 - 2000)))) != ((rd_T31 t573 x25_4).f0)) = false := bne_eq_false_iff_eq.mpr c73
                    clear c73
                    by_cases c74 : (wrap64 (((rd_T31 t569 x25_4).f1) + (wrap64 (t559 - 2000)))) = ((rd_T31 t573 x25_4).f1)
                    ·rw [if_pos c74] at H
                     have c74b0 : ((wrap64 (((rd_T31 t569 x25_4).f1) + (wrap64 (t559 - 2000)))) == ((rd_T31 t573 x25_4).f1)) = true := beq_iff_eq.mpr c74
                     have c74b1 : ((wrap64 (((rd_T31 t569 x25_4).f1) + (wrap64 (t559 - 2000)))) != ((rd_T31 t573 x25_4).f1)) = false := bne_eq_false_iff_eq.mpr c74
                     clear c74
                     have H' := Aside0.mk H
                     clear H
                     obtain ⟨Ao75, co75, eo75⟩ := Kd.R_slice HO_13.out
                     subst eo75
                     try go_wp2
                     replace HO_7 := Aside0.mk (Kd.R_drew HO_7.out)
                     replace HO_10 := Aside0.mk (Kd.R_drew HO_10.out)
                     replace HO_13 := Aside0.mk (Kd.R_drew HO_13.out)
                     replace HO_15 := Aside0.mk (Kd.R_drew HO_15.out)
                     replace BK551 := Aside0.mk (kD BK551.out)
                     replace BK552 := Aside0.mk (kD BK552.out)
                     replace BK565 := Aside0.mk (kD BK565.out)
                     replace HB := Aside0.mk (lD HB.out)
                     have p585 : 0 ≤ (x25_4 : Int) := of_decide_eq_true (by first | (with_reducible assumption) | assumption)
                     have q585 : x25_4 < (t569.length : Int) := of_decide_eq_true (by first | (with_reducible assumption) | assumption)
                     obtain ⟨ad585, e585, hx585_0, hx585_1⟩ := at_T31 (Kd.R_reads' HO_13.out).2.2 x25_4 p585 q585
                     cases e585
                     replace p585 := eq_true p585
                     replace q585 := eq_true q585
                     obtain ⟨Ao77, co77, eo77⟩ := Kd.R_slice HO_15.out
                     (first | subst eo77 | (injection eo77 with f1_ f2_ f3_; have f4_ := f1_.symm; have f5_ := f3_.symm; clear f1_ f2_ f3_; subst f4_; subst f5_))
                     have p586 : 0 ≤ (x25_4 : Int) := of_decide_eq_true (by first | (with_reducible assumption) | assumption)
                     have q586 : x25_4 < (t573.length : Int) := of_decide_eq_true (by first | (with_reducible assumption) | assumption)
                     obtain ⟨ad586, e586, hx586_0, hx586_1⟩ := at_T31 (Kd.R_reads' HO_15.out).2.2 x25_4 p586 q586
                     cases e586
                     replace p586 := eq_true p586
                     replace q586 := eq_true q586
                     have p587 : 0 ≤ (x25_4 : Int) := of_decide_eq_true (by first | (with_reducible assumption) | assumption)
                     have q587 : x25_4 < (t569.length : Int) := of_decide_eq_true (by first | (with_reducible assumption) | assumption)
                     obtain ⟨ad587, e587, hx587_0, hx587_1⟩ := at_T31 (Kd.R_reads' HO_13.out).2.2 x25_4 p587 q587
                     obtain rfl : ad585 = ad587 := (by injection e587)
                     replace p587 := eq_true p587
                     replace q587 := eq_true q587
                     have p588 : 0 ≤ (x25_4 : Int) := of_decide_eq_true (by first | (with_reducible assumption) | assumption)
                     have q588 : x25_4 < (t573.length : Int) := of_decide_eq_true (by first | (with_reducible assumption) | assumption)
                     obtain ⟨ad588, e588, hx588_0, hx588_1⟩ := at_T31 (Kd.R_reads' HO_15.out).2.2 x25_4 p588 q588
                     obtain rfl : ad586 = ad588 := (by injection e588)
                     replace p588 := eq_true p588
                     replace q588 := eq_true q588
                     refine start_ (n := 28) (S := fun w' => w'.cell? (ad585.add ((x25_4).toNat * 2)) = some (.int .i64 ((rd_T31 t569 x25_4).f0)) ∧ w'.cell? ⟨(ad585.add ((x25_4).toNat * 2)).block, (ad585.add ((x25_4).toNat * 2)).off + 1, none⟩ = some (.int .i64 ((rd_T31 t569 x25_4).f1)) ∧ w'.cell? (ad586.add ((x25_4).toNat * 2)) = some (.int .i64 ((rd_T31 t573 x25_4).f0)) ∧ w'.cell? ⟨(ad586.add ((x25_4).toNat * 2)).block, (ad586.add ((x25_4).toNat * 2)).off + 1, none⟩ = some (.int .i64 ((rd_T31 t573 x25_4).f1)) ∧ w'.cell? (ad585.add ((x25_4).toNat * 2)) = some (.int .i64 ((rd_T31 t569 x25_4).f0)) ∧ w'.cell? ⟨(ad585.add ((x25_4).toNat * 2)).block, (ad585.add ((x25_4).toNat * 2)).off + 1, none⟩ = some (.int .i64 ((rd_T31 t569 x25_4).f1)) ∧ w'.cell? (ad586.add ((x25_4).toNat * 2)) = some (.int .i64 ((rd_T31 t573 x25_4).f0)) ∧ w'.cell? ⟨(ad586.add ((x25_4).toNat * 2)).block, (ad586.add ((x25_4).toNat * 2)).off + 1, none⟩ = some (.int .i64 ((rd_T31 t573 x25_4).f1))) (ds := []) (Bs 0 28) (by kernel_rfl) rfl rfl ⟨hx585_0, hx585_1, hx586_0, hx586_1, hx587_0, hx587_1, hx588_0, hx588_1⟩ (fun hHeld => ?_); refine with_tabW silversidelaw01_PlaneMoves.tab23 silversidelaw01_PlaneMoves.bits23 (fun HT_ HW_ => ?_)
                     generalize wr.drew = w76 at HO_7 HO_10 HO_13 HO_15 BK551 BK552 BK565 HB hx585_0 hx585_1 hx586_0 hx586_1 hx587_0 hx587_1 hx588_0 hx588_1 hHeld ⊢
                     refine pu 0 159 (Bs 1 28) HT_ ?_
                     refine pu 1 160 (Bs 2 28) HT_ ?_
                     refine pu 2 161 (Bs 3 28) HT_ ?_
                     refine pu 3 162 (Bs 4 28) HT_ ?_
                     refine pu 5 164 (Br [4,1,1,22]) HT_ ?_
                     refine pu 7 166 (Br [4,1,1,1,1,20]) HT_ ?_
                     refine pu 8 167 (Br [4,1,1,1,2,19]) HT_ ?_
                     refine pu 9 168 (Br [4,1,1,1,3,18]) HT_ ?_
                     refine pu 10 169 (Br [4,1,1,1,4,17]) HT_ ?_
                     refine ta 4 163 (Br [6,1,4,17]) HT_ HW_ hHeld ?_
                     refine pu 6 165 (Bs 11 28) HT_ ?_
                     refine ta 11 170 (Bs 12 28) HT_ HW_ hHeld ?_
                     refine pu 12 171 (Bs 13 28) HT_ ?_
                     refine pu 13 172 (Bs 14 28) HT_ ?_
                     refine pu 14 173 (Bs 15 28) HT_ ?_
                     refine pu 15 174 (Bs 16 28) HT_ ?_
                     refine pu 16 175 (Bs 17 28) HT_ ?_
                     refine pu 17 176 (Bs 18 28) HT_ ?_
                     refine pu 19 178 (Br [18,1,1,8]) HT_ ?_
                     refine pu 21 180 (Br [18,1,1,1,1,6]) HT_ ?_
                     refine pu 22 181 (Br [18,1,1,1,2,5]) HT_ ?_
                     refine pu 23 182 (Br [18,1,1,1,3,4]) HT_ ?_
                     refine pu 24 183 (Br [18,1,1,1,4,3]) HT_ ?_
                     refine ta 18 177 (Br [20,1,4,3]) HT_ HW_ hHeld ?_
                     refine pu 20 179 (Bs 25 28) HT_ ?_
                     refine ta 25 184 (Bs 26 28) HT_ HW_ hHeld ?_
                     refine pu 26 185 (Bs 27 28) HT_ ?_
                     refine pu 27 186 (Bs 28 28) HT_ ?_
                     refine done_ (done_of HT_.out (by kernel_rfl)) ?_
                     try go_wp2
                     go_roundg k4
                     case measure => have := HK1.out; have := HJ22.out; have := HJ50.out; have := HK4.out; omega
                     case rel => exact ⟨(wrap64 (x25_4 + 1)), (by first | rfl | (simp; done) | (simp [*]; done)), H', ⟨by have := HK1.out; have := HJ22.out; have := HJ50.out; have := HK4.out; omega⟩, ⟨by (with_reducible repeat (first | apply Kd.R_alloc | apply Kd.R_drewN | apply Kd.R_drew)); exact HO_7.out⟩, ⟨by (with_reducible repeat (first | apply Kd.R_alloc | apply Kd.R_drewN | apply Kd.R_drew)); exact HO_10.out⟩, ⟨by (with_reducible repeat (first | apply Kd.R_alloc | apply Kd.R_drewN | apply Kd.R_drew)); exact HO_13.out⟩, ⟨by (with_reducible repeat (first | apply Kd.R_alloc | apply Kd.R_drewN | apply Kd.R_drew)); exact HO_15.out⟩, ⟨by (with_reducible repeat (first | refine kN ?_ _ | refine kD ?_ | refine kA ?_ _)); exact BK551.out⟩, ⟨by (with_reducible repeat (first | refine kN ?_ _ | refine kD ?_ | refine kA ?_ _)); exact BK552.out⟩, ⟨by (with_reducible repeat (first | refine kN ?_ _ | refine kD ?_ | refine kA ?_ _)); exact BK565.out⟩, ⟨by repeat (first | (with_reducible first | exact HB.out | apply lA | apply lN | apply lD | refine lS ?_ GE551.out | refine lS ?_ GE552.out | refine lS ?_ GE565.out) | exact HB.out)⟩⟩
                    ·rw [if_neg c74] at H
                     exact absurd ((Option.some.inj H).trans hr_.out) (by decide)
                   ·rw [if_neg c73] at H
                    exact absurd ((Option.some.inj H).trans hr_.out) (by decide)
                  ·rw [if_neg c72] at H
                   exact absurd H (by simp)
                 ·rw [if_neg c71] at H
                  exact absurd H (by simp)
                ·rw [if_neg c70] at H
                 have c70b0 : decide (x25_4 < (t569.length : Int)) = false := decide_eq_false c70
                 clear c70
                 replace H := Option.bind_eq_some_iff.mp H
                 obtain ⟨⟨t589, t590⟩, A840, H⟩ := H
                 replace H : ((plane_Inside.f k4 x10_1 (wrap64 (t556 + (wrap64 (t558 - 2000)))) (wrap64 (t557 + (wrap64 (t559 - 2000))))).bind fun bt591 => ((plane_Simple.f k4 t553).bind fun t593 => ((plane_Simple.f k4 x10_1).bind fun t594 => (if (t593 == t594) = true then (if t589 = bt591.1 then (if t590 = bt591.2 then (if 0 < (t553.length : Int) then (if 0 ≤ (wrap64 ((t553.length : Int) - 1)) then (if (wrap64 ((t553.length : Int) - 1)) < (t553.length : Int) then ((silversidelaw01_turn.f ((rd_T31 t553 0).f0) ((rd_T31 t553 0).f1) t556 t557 ((rd_T31 t553 (wrap64 ((t553.length : Int) - 1))).f0) ((rd_T31 t553 (wrap64 ((t553.length : Int) - 1))).f1)).bind fun t597 => (if 0 < (x10_1.length : Int) then (if (wrap64 ((t553.length : Int) - 1)) < (x10_1.length : Int) then ((silversidelaw01_turn.f ((rd_T31 x10_1 0).f0) ((rd_T31 x10_1 0).f1) (wrap64 (t556 + (wrap64 (t558 - 2000)))) (wrap64 (t557 + (wrap64 (t559 - 2000)))) ((rd_T31 x10_1 (wrap64 ((t553.length : Int) - 1))).f0) ((rd_T31 x10_1 (wrap64 ((t553.length : Int) - 1))).f1)).bind fun t600 => (if t597 = t600 then ((silversidelaw01_awake.f k4).bind fun t601 => (some t601)) else (some false))) else (none)) else (none))) else (none)) else (none)) else (none)) else (some false)) else (some false)) else (some false))))) = some r := H
                 have A84 := Aside0.mk A840
                 clear A840
                 replace H := Option.bind_eq_some_iff.mp H
                 obtain ⟨⟨t591, t592⟩, A850, H⟩ := H
                 replace H : ((plane_Simple.f k4 t553).bind fun t593 => ((plane_Simple.f k4 x10_1).bind fun t594 => (if (t593 == t594) = true then (if t589 = t591 then (if t590 = t592 then (if 0 < (t553.length : Int) then (if 0 ≤ (wrap64 ((t553.length : Int) - 1)) then (if (wrap64 ((t553.length : Int) - 1)) < (t553.length : Int) then ((silversidelaw01_turn.f ((rd_T31 t553 0).f0) ((rd_T31 t553 0).f1) t556 t557 ((rd_T31 t553 (wrap64 ((t553.length : Int) - 1))).f0) ((rd_T31 t553 (wrap64 ((t553.length : Int) - 1))).f1)).bind fun t597 => (if 0 < (x10_1.length : Int) then (if (wrap64 ((t553.length : Int) - 1)) < (x10_1.length : Int) then ((silversidelaw01_turn.f ((rd_T31 x10_1 0).f0) ((rd_T31 x10_1 0).f1) (wrap64 (t556 + (wrap64 (t558 - 2000)))) (wrap64 (t557 + (wrap64 (t559 - 2000)))) ((rd_T31 x10_1 (wrap64 ((t553.length : Int) - 1))).f0) ((rd_T31 x10_1 (wrap64 ((t553.length : Int) - 1))).f1)).bind fun t600 => (if t597 = t600 then ((silversidelaw01_awake.f k4).bind fun t601 => (some t601)) else (some false))) else (none)) else (none))) else (none)) else (none)) else (none)) else (some false)) else (some false)) else (some false)))) = some r := H
                 have A85 := Aside0.mk A850
                 clear A850
                 replace H := Option.bind_eq_some_iff.mp H
                 obtain ⟨t593, A860, H⟩ := H
                 replace H : ((plane_Simple.f k4 x10_1).bind fun t594 => (if (t593 == t594) = true then (if t589 = t591 then (if t590 = t592 then (if 0 < (t553.length : Int) then (if 0 ≤ (wrap64 ((t553.length : Int) - 1)) then (if (wrap64 ((t553.length : Int) - 1)) < (t553.length : Int) then ((silversidelaw01_turn.f ((rd_T31 t553 0).f0) ((rd_T31 t553 0).f1) t556 t557 ((rd_T31 t553 (wrap64 ((t553.length : Int) - 1))).f0) ((rd_T31 t553 (wrap64 ((t553.length : Int) - 1))).f1)).bind fun t597 => (if 0 < (x10_1.length : Int) then (if (wrap64 ((t553.length : Int) - 1)) < (x10_1.length : Int) then ((silversidelaw01_turn.f ((rd_T31 x10_1 0).f0) ((rd_T31 x10_1 0).f1) (wrap64 (t556 + (wrap64 (t558 - 2000)))) (wrap64 (t557 + (wrap64 (t559 - 2000)))) ((rd_T31 x10_1 (wrap64 ((t553.length : Int) - 1))).f0) ((rd_T31 x10_1 (wrap64 ((t553.length : Int) - 1))).f1)).bind fun t600 => (if t597 = t600 then ((silversidelaw01_awake.f k4).bind fun t601 => (some t601)) else (some false))) else (none)) else (none))) else (none)) else (none)) else (none)) else (some false)) else (some false)) else (some false))) = some r := H
                 have A86 := Aside0.mk A860
                 clear A860
                 replace H := Option.bind_eq_some_iff.mp H
                 obtain ⟨t594, A870, H⟩ := H
                 replace H : (if (t593 == t594) = true then (if t589 = t591 then (if t590 = t592 then (if 0 < (t553.length : Int) then (if 0 ≤ (wrap64 ((t553.length : Int) - 1)) then (if (wrap64 ((t553.length : Int) - 1)) < (t553.length : Int) then ((silversidelaw01_turn.f ((rd_T31 t553 0).f0) ((rd_T31 t553 0).f1) t556 t557 ((rd_T31 t553 (wrap64 ((t553.length : Int) - 1))).f0) ((rd_T31 t553 (wrap64 ((t553.length : Int) - 1))).f1)).bind fun t597 => (if 0 < (x10_1.length : Int) then (if (wrap64 ((t553.length : Int) - 1)) < (x10_1.length : Int) then ((silversidelaw01_turn.f ((rd_T31 x10_1 0).f0) ((rd_T31 x10_1 0).f1) (wrap64 (t556 + (wrap64 (t558 - 2000)))) (wrap64 (t557 + (wrap64 (t559 - 2000)))) ((rd_T31 x10_1 (wrap64 ((t553.length : Int) - 1))).f0) ((rd_T31 x10_1 (wrap64 ((t553.length : Int) - 1))).f1)).bind fun t600 => (if t597 = t600 then ((silversidelaw01_awake.f k4).bind fun t601 => (some t601)) else (some false))) else (none)) else (none))) else (none)) else (none)) else (none)) else (some false)) else (some false)) else (some false)) = some r := H
                 have A87 := Aside0.mk A870
                 clear A870
                 by_cases c88 : (t593 == t594) = true
                 ·rw [if_pos c88] at H
                  have c88b0 : (t593 == t594) = true := c88
                  (try (have c88b1 : decide (t593 = t594) = true := by simpa using c88))
                  (try (have c88b2 : (t593 == t594) = true := by simpa using c88))
                  clear c88
                  by_cases c89 : t589 = t591
                  ·rw [if_pos c89] at H
                   have c89b0 : (t589 == t591) = true := beq_iff_eq.mpr c89
                   have c89b1 : (t589 != t591) = false := bne_eq_false_iff_eq.mpr c89
                   clear c89
                   by_cases c90 : t590 = t592
                   ·rw [if_pos c90] at H
                    have c90b0 : (t590 == t592) = true := beq_iff_eq.mpr c90
                    have c90b1 : (t590 != t592) = false := bne_eq_false_iff_eq.mpr c90
                    clear c90
                    by_cases c91 : 0 < (t553.length : Int)
                    ·rw [if_pos c91] at H
                     have c91b0 : decide (0 < (t553.length : Int)) = true := decide_eq_true c91
                     have c91b1 : decide (0 < t553.length) = true := decide_eq_true (by omega)
                     clear c91
                     obtain ⟨ji92, hji92⟩ : ∃ j_ : Int, (wrap64 ((t553.length : Int) - 1)) = j_ := ⟨_, rfl⟩
                     replace H : (if 0 ≤ (ji92) then (if (ji92) < (t553.length : Int) then ((silversidelaw01_turn.f ((rd_T31 t553 0).f0) ((rd_T31 t553 0).f1) t556 t557 ((rd_T31 t553 (ji92)).f0) ((rd_T31 t553 (ji92)).f1)).bind fun t597 => (if 0 < (x10_1.length : Int) then (if (ji92) < (x10_1.length : Int) then ((silversidelaw01_turn.f ((rd_T31 x10_1 0).f0) ((rd_T31 x10_1 0).f1) (wrap64 (t556 + (wrap64 (t558 - 2000)))) (wrap64 (t557 + (wrap64 (t559 - 2000)))) ((rd_T31 x10_1 (ji92)).f0) ((rd_T31 x10_1 (ji92)).f1)).bind fun t600 => (if t597 = t600 then ((silversidelaw01_awake.f k4).bind fun t601 => (some t601)) else (some false))) else (none)) else (none))) else (none)) else (none)) = some r := by first | (rw [hji92] at H; exact H) | (simp only [hji92] at H ⊢; exact H)
                     (try rw [hji92] at A84)
                     (try rw [hji92] at A85)
                     (try rw [hji92] at A86)
                     (try rw [hji92] at A87)
                     have hji92w : (IntKind.i64.wrap ((t553.length : Int) - 1)) = ji92 := (i64_w _).trans hji92
                     by_cases c93 : 0 ≤ (ji92)
                     ·rw [if_pos c93] at H
                      have c93b0 : decide (0 ≤ (ji92)) = true := decide_eq_true c93
                      clear c93
                      by_cases c94 : (ji92) < (t553.length : Int)
                      ·rw [if_pos c94] at H
                       have c94b0 : decide ((ji92) < (t553.length : Int)) = true := decide_eq_true c94
                       clear c94
                       replace H := Option.bind_eq_some_iff.mp H
                       obtain ⟨t597, A950, H⟩ := H
                       replace H : (if 0 < (x10_1.length : Int) then (if (ji92) < (x10_1.length : Int) then ((silversidelaw01_turn.f ((rd_T31 x10_1 0).f0) ((rd_T31 x10_1 0).f1) (wrap64 (t556 + (wrap64 (t558 - 2000)))) (wrap64 (t557 + (wrap64 (t559 - 2000)))) ((rd_T31 x10_1 (ji92)).f0) ((rd_T31 x10_1 (ji92)).f1)).bind fun t600 => (if t597 = t600 then ((silversidelaw01_awake.f k4).bind fun t601 => (some t601)) else (some false))) else (none)) else (none)) = some r := H
                       have A95 := Aside0.mk A950
                       clear A950
                       by_cases c96 : 0 < (x10_1.length : Int)
                       ·rw [if_pos c96] at H
                        have c96b0 : decide (0 < (x10_1.length : Int)) = true := decide_eq_true c96
                        have c96b1 : decide (0 < x10_1.length) = true := decide_eq_true (by omega)
                        clear c96
                        by_cases c97 : (ji92) < (x10_1.length : Int)
                        ·rw [if_pos c97] at H
                         have c97b0 : decide ((ji92) < (x10_1.length : Int)) = true := decide_eq_true c97
                         clear c97
                         replace H := Option.bind_eq_some_iff.mp H
                         obtain ⟨t600, A980, H⟩ := H
                         replace H : (if t597 = t600 then ((silversidelaw01_awake.f k4).bind fun t601 => (some t601)) else (some false)) = some r := H
                         have A98 := Aside0.mk A980
                         clear A980
                         by_cases c99 : t597 = t600
                         ·rw [if_pos c99] at H
                          have c99b0 : (t597 == t600) = true := beq_iff_eq.mpr c99
                          have c99b1 : (t597 != t600) = false := bne_eq_false_iff_eq.mpr c99
                          clear c99
                          replace H := Option.bind_eq_some_iff.mp H
                          obtain ⟨t601, A1000, H⟩ := H
                          replace H : (some t601) = some r := H
                          have A100 := Aside0.mk A1000
                          clear A1000
                          obtain rfl := Option.some.inj H
                          obtain ⟨Ao101, co101, eo101⟩ := Kd.R_slice HO_13.out
                          subst eo101
                          have hnb102 := NB551_552.out
                          have hnc102 := NB552_551.out
                          have hnb103 := NB551_565.out
                          have hnc103 := NB565_551.out
                          have hcz104_0 : wr.cell? ⟨gb551, 0, none⟩ = some (.int .i64 t556) := (blk_cell BK551.out 0).trans rfl
                          have hcz104_1 : wr.cell? ⟨gb551, 1, none⟩ = some (.int .i64 t557) := (blk_cell BK551.out 1).trans rfl
                          have hfz104_0 := blk_frozen BK551.out 0
                          have hfz104_1 := blk_frozen BK551.out 1
                          try go_wp2_with (first | ((with_reducible refine gate_callee (f := 27) rfl ?_); refine goesL_ (some 190) rfl rfl Try.func27 (by kernel_rfl) rfl #[.slice Ao24 t553.length co24, .agg #[.int .i64 t556, .int .i64 t557]] rfl (by (try simp only [List.map_toArray, List.map_cons, List.map_nil]); first | done | rfl | (simp only [List.length_drop, List.length_take]; rfl)) ?_; (with_reducible refine (plane_Inside.calls k4 _ _ t553 t556 t557 t589 t590 _ ?side1 ?side2 A84.out).mono ?_); (case side1 => repeat (first | exact (Kd.R_reads' HO_7.out).2.2 | (with_reducible refine Kd.C_alloc ?_ _) | (with_reducible refine Kd.C_drewN ?_ _) | (with_reducible refine Kd.C_drew ?_))); (case side2 => exact (Kd.R_reads' HO_7.out).2.1); rintro e w105 ⟨rfl, hb⟩; refine ⟨_, rfl, ?_⟩; have n0_ := Aside0.mk (Kd.R_below (by (with_reducible repeat (first | apply Kd.R_alloc | apply Kd.R_drewN | apply Kd.R_drew)); exact HO_7.out) hb); have n1_ := Aside0.mk (Kd.R_below (by (with_reducible repeat (first | apply Kd.R_alloc | apply Kd.R_drewN | apply Kd.R_drew)); exact HO_10.out) hb); have n2_ := Aside0.mk (Kd.R_below (by (with_reducible repeat (first | apply Kd.R_alloc | apply Kd.R_drewN | apply Kd.R_drew)); exact HO_13.out) hb); have n3_ := Aside0.mk (Kd.R_below (by (with_reducible repeat (first | apply Kd.R_alloc | apply Kd.R_drewN | apply Kd.R_drew)); exact HO_15.out) hb); have n4_ := Aside0.mk (blk_below (g := gb551) (o := .cells #[.int .i64 t556, .int .i64 t557] 31 (0, 0)) (kX BK551.out) hb); have n5_ := Aside0.mk (blk_below (g := gb552) (o := .cells #[.int .i64 a2_0, .int .i64 a2_1] 49 (0, 0)) (kX BK552.out) hb); have n6_ := Aside0.mk (blk_below (g := gb565) (o := .cells #[.int .i64 (wrap64 (t556 + (wrap64 (t558 - 2000)))), .int .i64 (wrap64 (t557 + (wrap64 (t559 - 2000))))] 31 (0, 0)) (kX BK565.out) hb); have n7_ := Aside0.mk (below_step lB hb); clear HO_7; clear HO_10; clear HO_13; clear HO_15; clear BK551; clear BK552; clear BK565; clear HB; have HO_7 := n0_; have HO_10 := n1_; have HO_13 := n2_; have HO_15 := n3_; have BK551 := n4_; have BK552 := n5_; have BK565 := n6_; have HB := n7_; clear n0_ n1_ n2_ n3_ n4_ n5_ n6_ n7_; (try clear hb); (try clear hb2); (try clear hk); (try clear hi); have hnb106 := NB565_552.out; have hnc106 := NB552_565.out; have hcz107_0 : w105.cell? ⟨gb565, 0, none⟩ = some (.int .i64 (wrap64 (t556 + (wrap64 (t558 - 2000))))) := (blk_cell BK565.out 0).trans rfl; have hcz107_1 : w105.cell? ⟨gb565, 1, none⟩ = some (.int .i64 (wrap64 (t557 + (wrap64 (t559 - 2000))))) := (blk_cell BK565.out 1).trans rfl; have hfz107_0 := blk_frozen BK565.out 0; have hfz107_1 := blk_frozen BK565.out 1) | ((with_reducible refine gate_callee (f := 27) rfl ?_); refine goesL_ (some 196) rfl rfl Try.func27 (by kernel_rfl) rfl #[.slice Ao53 x10_1.length co53, .agg #[.int .i64 (wrap64 (t556 + (wrap64 (t558 - 2000)))), .int .i64 (wrap64 (t557 + (wrap64 (t559 - 2000))))]] rfl (by (try simp only [List.map_toArray, List.map_cons, List.map_nil]); first | done | rfl | (simp only [List.length_drop, List.length_take]; rfl)) ?_; (with_reducible refine (plane_Inside.calls k4 _ _ x10_1 (wrap64 (t556 + (wrap64 (t558 - 2000)))) (wrap64 (t557 + (wrap64 (t559 - 2000)))) t591 t592 _ ?side1 ?side2 A85.out).mono ?_); (case side1 => repeat (first | exact (Kd.R_reads' HO_10.out).2.2 | (with_reducible refine Kd.C_alloc ?_ _) | (with_reducible refine Kd.C_drewN ?_ _) | (with_reducible refine Kd.C_drew ?_))); (case side2 => exact (Kd.R_reads' HO_10.out).2.1); rintro e w108 ⟨rfl, hb⟩; refine ⟨_, rfl, ?_⟩; have n0_ := Aside0.mk (Kd.R_below (by (with_reducible repeat (first | apply Kd.R_alloc | apply Kd.R_drewN | apply Kd.R_drew)); exact HO_7.out) hb); have n1_ := Aside0.mk (Kd.R_below (by (with_reducible repeat (first | apply Kd.R_alloc | apply Kd.R_drewN | apply Kd.R_drew)); exact HO_10.out) hb); have n2_ := Aside0.mk (Kd.R_below (by (with_reducible repeat (first | apply Kd.R_alloc | apply Kd.R_drewN | apply Kd.R_drew)); exact HO_13.out) hb); have n3_ := Aside0.mk (Kd.R_below (by (with_reducible repeat (first | apply Kd.R_alloc | apply Kd.R_drewN | apply Kd.R_drew)); exact HO_15.out) hb); have n4_ := Aside0.mk (blk_below (g := gb551) (o := .cells #[.int .i64 t556, .int .i64 t557] 31 (0, 0)) (kX BK551.out) hb); have n5_ := Aside0.mk (blk_below (g := gb552) (o := .cells #[.int .i64 a2_0, .int .i64 a2_1] 49 (0, 0)) (kX BK552.out) hb); have n6_ := Aside0.mk (blk_below (g := gb565) (o := .cells #[.int .i64 (wrap64 (t556 + (wrap64 (t558 - 2000)))), .int .i64 (wrap64 (t557 + (wrap64 (t559 - 2000))))] 31 (0, 0)) (kX BK565.out) hb); have n7_ := Aside0.mk (below_step lB hb); clear HO_7; clear HO_10; clear HO_13; clear HO_15; clear BK551; clear BK552; clear BK565; clear HB; have HO_7 := n0_; have HO_10 := n1_; have HO_13 := n2_; have HO_15 := n3_; have BK551 := n4_; have BK552 := n5_; have BK565 := n6_; have HB := n7_; clear n0_ n1_ n2_ n3_ n4_ n5_ n6_ n7_; (try clear hb); (try clear hb2); (try clear hk); (try clear hi)))
                          replace HO_7 := Aside0.mk (Kd.R_drew HO_7.out)
                          replace HO_10 := Aside0.mk (Kd.R_drew HO_10.out)
                          replace HO_13 := Aside0.mk (Kd.R_drew HO_13.out)
                          replace HO_15 := Aside0.mk (Kd.R_drew HO_15.out)
                          replace BK551 := Aside0.mk (kD BK551.out)
                          replace BK552 := Aside0.mk (kD BK552.out)
                          replace BK565 := Aside0.mk (kD BK565.out)
                          replace HB := Aside0.mk (lD HB.out)
                          have p595 : 0 ≤ (0 : Int) := (by omega)
                          have q595 : 0 < (t553.length : Int) := of_decide_eq_true (by first | (with_reducible assumption) | assumption)
                          obtain ⟨ad595, e595, hx595_0, hx595_1⟩ := at_T31 (Kd.R_reads' HO_7.out).2.2 0 p595 q595
                          cases e595
                          have qi595 : (0 < t553.length) = True := eq_true (by omega)
                          (try rw [show ((0 : Int)).toNat = 0 from rfl] at hx595_0)
                          (try rw [show 0 * 2 = 0 from rfl] at hx595_0)
                          (try rw [Addr.add_zero'] at hx595_0)
                          (try rw [show ((0 : Int)).toNat = 0 from rfl] at hx595_1)
                          (try rw [show 0 * 2 = 0 from rfl] at hx595_1)
                          (try rw [Addr.add_zero'] at hx595_1)
                          replace p595 := eq_true p595
                          replace q595 := eq_true q595
                          have p596 : 0 ≤ ((ji92) : Int) := of_decide_eq_true (by first | (with_reducible assumption) | assumption)
                          have q596 : (ji92) < (t553.length : Int) := of_decide_eq_true (by first | (with_reducible assumption) | assumption)
                          obtain ⟨ad596, e596, hx596_0, hx596_1⟩ := at_T31 (Kd.R_reads' HO_7.out).2.2 (ji92) p596 q596
                          obtain rfl : ad595 = ad596 := (by injection e596)
                          replace p596 := eq_true p596
                          replace q596 := eq_true q596
                          have p598 : 0 ≤ (0 : Int) := (by omega)
                          have q598 : 0 < (x10_1.length : Int) := of_decide_eq_true (by first | (with_reducible assumption) | assumption)
                          obtain ⟨ad598, e598, hx598_0, hx598_1⟩ := at_T31 (Kd.R_reads' HO_10.out).2.2 0 p598 q598
                          cases e598
                          have qi598 : (0 < x10_1.length) = True := eq_true (by omega)
                          (try rw [show ((0 : Int)).toNat = 0 from rfl] at hx598_0)
                          (try rw [show 0 * 2 = 0 from rfl] at hx598_0)
                          (try rw [Addr.add_zero'] at hx598_0)
                          (try rw [show ((0 : Int)).toNat = 0 from rfl] at hx598_1)
                          (try rw [show 0 * 2 = 0 from rfl] at hx598_1)
                          (try rw [Addr.add_zero'] at hx598_1)
                          replace p598 := eq_true p598
                          replace q598 := eq_true q598
                          have p599 : 0 ≤ ((ji92) : Int) := of_decide_eq_true (by first | (with_reducible assumption) | assumption)
                          have q599 : (ji92) < (x10_1.length : Int) := of_decide_eq_true (by first | (with_reducible assumption) | assumption)
                          obtain ⟨ad599, e599, hx599_0, hx599_1⟩ := at_T31 (Kd.R_reads' HO_10.out).2.2 (ji92) p599 q599
                          obtain rfl : ad598 = ad599 := (by injection e599)
                          replace p599 := eq_true p599
                          replace q599 := eq_true q599
                          refine start_ (n := 44) (S := fun w' => w'.cell? ⟨gb551, 0, none⟩ = some (.int .i64 t556) ∧ w'.cell? ⟨gb551, 1, none⟩ = some (.int .i64 t557) ∧ w'.cell? ⟨gb565, 0, none⟩ = some (.int .i64 (wrap64 (t556 + (wrap64 (t558 - 2000))))) ∧ w'.cell? ⟨gb565, 1, none⟩ = some (.int .i64 (wrap64 (t557 + (wrap64 (t559 - 2000))))) ∧ w'.cell? ad595 = some (.int .i64 ((rd_T31 t553 0).f0)) ∧ w'.cell? ⟨ad595.block, ad595.off + 1, none⟩ = some (.int .i64 ((rd_T31 t553 0).f1)) ∧ w'.cell? (ad595.add (((ji92)).toNat * 2)) = some (.int .i64 ((rd_T31 t553 (ji92)).f0)) ∧ w'.cell? ⟨(ad595.add (((ji92)).toNat * 2)).block, (ad595.add (((ji92)).toNat * 2)).off + 1, none⟩ = some (.int .i64 ((rd_T31 t553 (ji92)).f1)) ∧ w'.cell? ad598 = some (.int .i64 ((rd_T31 x10_1 0).f0)) ∧ w'.cell? ⟨ad598.block, ad598.off + 1, none⟩ = some (.int .i64 ((rd_T31 x10_1 0).f1)) ∧ w'.cell? (ad598.add (((ji92)).toNat * 2)) = some (.int .i64 ((rd_T31 x10_1 (ji92)).f0)) ∧ w'.cell? ⟨(ad598.add (((ji92)).toNat * 2)).block, (ad598.add (((ji92)).toNat * 2)).off + 1, none⟩ = some (.int .i64 ((rd_T31 x10_1 (ji92)).f1))) (ds := []) (Bs 0 44) (by kernel_rfl) rfl rfl ⟨(blk_cell BK551.out 0).trans rfl, (blk_cell BK551.out 1).trans rfl, (blk_cell BK565.out 0).trans rfl, (blk_cell BK565.out 1).trans rfl, hx595_0, hx595_1, hx596_0, hx596_1, hx598_0, hx598_1, hx599_0, hx599_1⟩ (fun hHeld => ?_); refine with_tabW silversidelaw01_PlaneMoves.tab27 silversidelaw01_PlaneMoves.bits27 (fun HT_ HW_ => ?_)
                          generalize w108.drew = w109 at HO_7 HO_10 HO_13 HO_15 BK551 BK552 BK565 HB hx595_0 hx595_1 hx596_0 hx596_1 hx598_0 hx598_1 hx599_0 hx599_1 hHeld ⊢
                          refine pu 0 199 (Bs 1 44) HT_ ?_
                          refine pu 2 201 (Br [1,1,1,41]) HT_ ?_
                          refine one_ (i := 1) (N := some 200) (Bs 3 44) rfl rfl (one_of HT_.out (by kernel_rfl)) (by decide) (fun K hK => ?_)
                          refine goes_ Try.func25 (by kernel_rfl) rfl #[.slice (some ad595) t553.length co24] (by rfl) rfl rfl (by (try simp only [List.map_toArray, List.map_cons, List.map_nil]); first | done | rfl | (simp only [List.length_drop, List.length_take]; rfl)) ?_
                          with_reducible refine (plane_Simple.calls k4 _ _ t553 t593 _ ?side1 ?side2 A86.out).mono ?_
                          (case side1 => repeat (first | exact (Kd.R_reads' HO_7.out).2.2 | (with_reducible refine Kd.C_alloc ?_ _) | (with_reducible refine Kd.C_drewN ?_ _) | (with_reducible refine Kd.C_drew ?_)))
                          (case side2 => exact (Kd.R_reads' HO_7.out).2.1)
                          rintro e w110 ⟨rfl, hb⟩
                          have HS4_ := (hb.cell (World.block_lt_of_cell? _ _ (hHeld.2.2.2.2.1))).trans (hHeld.2.2.2.2.1)
                          have HS5_ := (hb.cell (World.block_lt_of_cell? _ _ (hHeld.2.2.2.2.2.1))).trans (hHeld.2.2.2.2.2.1)
                          have HS6_ := (hb.cell (World.block_lt_of_cell? _ _ (hHeld.2.2.2.2.2.2.1))).trans (hHeld.2.2.2.2.2.2.1)
                          have HS7_ := (hb.cell (World.block_lt_of_cell? _ _ (hHeld.2.2.2.2.2.2.2.1))).trans (hHeld.2.2.2.2.2.2.2.1)
                          have HS8_ := (hb.cell (World.block_lt_of_cell? _ _ (hHeld.2.2.2.2.2.2.2.2.1))).trans (hHeld.2.2.2.2.2.2.2.2.1)
                          have HS9_ := (hb.cell (World.block_lt_of_cell? _ _ (hHeld.2.2.2.2.2.2.2.2.2.1))).trans (hHeld.2.2.2.2.2.2.2.2.2.1)
                          have HS10_ := (hb.cell (World.block_lt_of_cell? _ _ (hHeld.2.2.2.2.2.2.2.2.2.2.1))).trans (hHeld.2.2.2.2.2.2.2.2.2.2.1)
                          have HS11_ := (hb.cell (World.block_lt_of_cell? _ _ (hHeld.2.2.2.2.2.2.2.2.2.2.2))).trans (hHeld.2.2.2.2.2.2.2.2.2.2.2)
                          refine ⟨_, rfl, ?_⟩
                          have n0_ := Aside0.mk (Kd.R_below (by (with_reducible repeat (first | apply Kd.R_alloc | apply Kd.R_drewN | apply Kd.R_drew)); exact HO_7.out) hb)
                          have n1_ := Aside0.mk (Kd.R_below (by (with_reducible repeat (first | apply Kd.R_alloc | apply Kd.R_drewN | apply Kd.R_drew)); exact HO_10.out) hb)
                          have n2_ := Aside0.mk (Kd.R_below (by (with_reducible repeat (first | apply Kd.R_alloc | apply Kd.R_drewN | apply Kd.R_drew)); exact HO_13.out) hb)
                          have n3_ := Aside0.mk (Kd.R_below (by (with_reducible repeat (first | apply Kd.R_alloc | apply Kd.R_drewN | apply Kd.R_drew)); exact HO_15.out) hb)
                          have n7_ := Aside0.mk (below_step lB hb)
                          clear HO_7
                          clear HO_10
                          clear HO_13
                          clear HO_15
                          clear HB
                          have HO_7 := n0_
                          have HO_10 := n1_
                          have HO_13 := n2_
                          have HO_15 := n3_
                          have HB := n7_
                          clear n0_ n1_ n2_ n3_ n7_
                          replace BK551 := Aside0.mk (blk_below (g := gb551) (o := .cells #[.int .i64 t556, .int .i64 t557] 31 (0, 0)) (kX BK551.out) hb)
                          replace BK552 := Aside0.mk (blk_below (g := gb552) (o := .cells #[.int .i64 a2_0, .int .i64 a2_1] 49 (0, 0)) (kX BK552.out) hb)
                          replace BK565 := Aside0.mk (blk_below (g := gb565) (o := .cells #[.int .i64 (wrap64 (t556 + (wrap64 (t558 - 2000)))), .int .i64 (wrap64 (t557 + (wrap64 (t559 - 2000))))] 31 (0, 0)) (kX BK565.out) hb)
                          (try clear hb)
                          (try clear hb2)
                          (try clear hk)
                          (try clear hi)
                          refine hK.out _ _ ⟨(blk_cell BK551.out 0).trans rfl, (blk_cell BK551.out 1).trans rfl, (blk_cell BK565.out 0).trans rfl, (blk_cell BK565.out 1).trans rfl, HS4_, HS5_, HS6_, HS7_, HS8_, HS9_, HS10_, HS11_⟩ (fun hHeld => ?_)
                          clear hK K
                          refine nm 200 ?_
                          refine one_ (i := 3) (N := some 202) (Bs 4 44) rfl rfl (one_of HT_.out (by kernel_rfl)) (by decide) (fun K hK => ?_)
                          refine goes_ Try.func25 (by kernel_rfl) rfl #[.slice (some ad598) x10_1.length co53] (by rfl) rfl rfl (by (try simp only [List.map_toArray, List.map_cons, List.map_nil]); first | done | rfl | (simp only [List.length_drop, List.length_take]; rfl)) ?_
                          with_reducible refine (plane_Simple.calls k4 _ _ x10_1 t594 _ ?side1 ?side2 A87.out).mono ?_
                          (case side1 => repeat (first | exact (Kd.R_reads' HO_10.out).2.2 | (with_reducible refine Kd.C_alloc ?_ _) | (with_reducible refine Kd.C_drewN ?_ _) | (with_reducible refine Kd.C_drew ?_)))
                          (case side2 => exact (Kd.R_reads' HO_10.out).2.1)
                          rintro e w111 ⟨rfl, hb⟩
                          have HS4_ := (hb.cell (World.block_lt_of_cell? _ _ (hHeld.2.2.2.2.1))).trans (hHeld.2.2.2.2.1)
                          have HS5_ := (hb.cell (World.block_lt_of_cell? _ _ (hHeld.2.2.2.2.2.1))).trans (hHeld.2.2.2.2.2.1)
                          have HS6_ := (hb.cell (World.block_lt_of_cell? _ _ (hHeld.2.2.2.2.2.2.1))).trans (hHeld.2.2.2.2.2.2.1)
                          have HS7_ := (hb.cell (World.block_lt_of_cell? _ _ (hHeld.2.2.2.2.2.2.2.1))).trans (hHeld.2.2.2.2.2.2.2.1)
                          have HS8_ := (hb.cell (World.block_lt_of_cell? _ _ (hHeld.2.2.2.2.2.2.2.2.1))).trans (hHeld.2.2.2.2.2.2.2.2.1)
                          have HS9_ := (hb.cell (World.block_lt_of_cell? _ _ (hHeld.2.2.2.2.2.2.2.2.2.1))).trans (hHeld.2.2.2.2.2.2.2.2.2.1)
                          have HS10_ := (hb.cell (World.block_lt_of_cell? _ _ (hHeld.2.2.2.2.2.2.2.2.2.2.1))).trans (hHeld.2.2.2.2.2.2.2.2.2.2.1)
                          have HS11_ := (hb.cell (World.block_lt_of_cell? _ _ (hHeld.2.2.2.2.2.2.2.2.2.2.2))).trans (hHeld.2.2.2.2.2.2.2.2.2.2.2)
                          refine ⟨_, rfl, ?_⟩
                          have n0_ := Aside0.mk (Kd.R_below (by (with_reducible repeat (first | apply Kd.R_alloc | apply Kd.R_drewN | apply Kd.R_drew)); exact HO_7.out) hb)
                          have n1_ := Aside0.mk (Kd.R_below (by (with_reducible repeat (first | apply Kd.R_alloc | apply Kd.R_drewN | apply Kd.R_drew)); exact HO_10.out) hb)
                          have n2_ := Aside0.mk (Kd.R_below (by (with_reducible repeat (first | apply Kd.R_alloc | apply Kd.R_drewN | apply Kd.R_drew)); exact HO_13.out) hb)
                          have n3_ := Aside0.mk (Kd.R_below (by (with_reducible repeat (first | apply Kd.R_alloc | apply Kd.R_drewN | apply Kd.R_drew)); exact HO_15.out) hb)
                          have n7_ := Aside0.mk (below_step lB hb)
                          clear HO_7
                          clear HO_10
                          clear HO_13
                          clear HO_15
                          clear HB
                          have HO_7 := n0_
                          have HO_10 := n1_
                          have HO_13 := n2_
                          have HO_15 := n3_
                          have HB := n7_
                          clear n0_ n1_ n2_ n3_ n7_
                          replace BK551 := Aside0.mk (blk_below (g := gb551) (o := .cells #[.int .i64 t556, .int .i64 t557] 31 (0, 0)) (kX BK551.out) hb)
                          replace BK552 := Aside0.mk (blk_below (g := gb552) (o := .cells #[.int .i64 a2_0, .int .i64 a2_1] 49 (0, 0)) (kX BK552.out) hb)
                          replace BK565 := Aside0.mk (blk_below (g := gb565) (o := .cells #[.int .i64 (wrap64 (t556 + (wrap64 (t558 - 2000)))), .int .i64 (wrap64 (t557 + (wrap64 (t559 - 2000))))] 31 (0, 0)) (kX BK565.out) hb)
                          (try clear hb)
                          (try clear hb2)
                          (try clear hk)
                          (try clear hi)
                          refine hK.out _ _ ⟨(blk_cell BK551.out 0).trans rfl, (blk_cell BK551.out 1).trans rfl, (blk_cell BK565.out 0).trans rfl, (blk_cell BK565.out 1).trans rfl, HS4_, HS5_, HS6_, HS7_, HS8_, HS9_, HS10_, HS11_⟩ (fun hHeld => ?_)
                          clear hK K
                          refine nm 202 ?_
                          refine pu 4 203 (Bs 5 44) HT_ ?_
                          refine pu 5 204 (Bs 6 44) HT_ ?_
                          refine pu 6 205 (Bs 7 44) HT_ ?_
                          refine pu 7 206 (Bs 8 44) HT_ ?_
                          refine pu 8 207 (Bs 9 44) HT_ ?_
                          refine pu 9 208 (Bs 10 44) HT_ ?_
                          refine pu 10 209 (Bs 11 44) HT_ ?_
                          refine pu 11 210 (Bs 12 44) HT_ ?_
                          refine pu 12 211 (Bs 13 44) HT_ ?_
                          refine pu 13 212 (Bs 14 44) HT_ ?_
                          refine pu 14 213 (Bs 15 44) HT_ ?_
                          refine pu 15 214 (Bs 16 44) HT_ ?_
                          refine pu 16 215 (Bs 17 44) HT_ ?_
                          refine pu 17 216 (Bs 18 44) HT_ ?_
                          refine pu 20 219 (Br [18,2,1,23]) HT_ ?_
                          refine pu 21 220 (Br [18,2,2,22]) HT_ ?_
                          refine pu 22 221 (Br [18,2,3,21]) HT_ ?_
                          refine pu 23 222 (Br [18,2,4,20]) HT_ ?_
                          refine pu 24 223 (Br [18,2,5,19]) HT_ ?_
                          refine pu 27 226 (Br [18,2,5,2,1,16]) HT_ ?_
                          refine pu 28 227 (Br [18,2,5,2,2,15]) HT_ ?_
                          refine pu 31 230 (Br [18,2,5,2,2,2,1,12]) HT_ ?_
                          refine pu 32 231 (Br [18,2,5,2,2,2,2,11]) HT_ ?_
                          refine pu 33 232 (Br [18,2,5,2,2,2,3,10]) HT_ ?_
                          refine pu 34 233 (Br [18,2,5,2,2,2,4,9]) HT_ ?_
                          refine pu 35 234 (Br [18,2,5,2,2,2,5,8]) HT_ ?_
                          refine ta 18 217 (Br [19,1,5,2,2,2,5,8]) HT_ HW_ hHeld ?_
                          refine ta 19 218 (Br [25,2,2,2,5,8]) HT_ HW_ hHeld ?_
                          refine ta 25 224 (Br [26,1,2,2,5,8]) HT_ HW_ hHeld ?_
                          refine ta 29 228 (Br [26,1,3,1,5,8]) HT_ HW_ hHeld ?_
                          refine ta 30 229 (Br [26,1,9,8]) HT_ HW_ hHeld ?_
                          refine ta 36 235 (Br [26,1,10,7]) HT_ HW_ hHeld ?_
                          refine one_ (i := 26) (N := some 225) (Bs 37 44) rfl rfl (one_of HT_.out (by kernel_rfl)) (by decide) (fun K hK => ?_)
                          refine goes_ Try.func38 (by kernel_rfl) rfl #[.agg #[.int .i64 ((rd_T31 t553 0).f0), .int .i64 ((rd_T31 t553 0).f1)], .agg #[.int .i64 t556, .int .i64 t557], .agg #[.int .i64 ((rd_T31 t553 (ji92)).f0), .int .i64 ((rd_T31 t553 (ji92)).f1)]] (by rfl) rfl rfl (by (try simp only [List.map_toArray, List.map_cons, List.map_nil]); first | done | (simp only [hji92]; rfl) | rfl | (simp only [List.length_drop, List.length_take]; rfl)) ?_
                          with_reducible refine (silversidelaw01_turn.calls ((rd_T31 t553 0).f0) ((rd_T31 t553 0).f1) t556 t557 ((rd_T31 t553 (ji92)).f0) ((rd_T31 t553 (ji92)).f1) t597 _ A95.out).mono ?_
                          rintro e w112 ⟨rfl, hb⟩
                          have HS4_ := (hb.cell (World.block_lt_of_cell? _ _ (hHeld.2.2.2.2.1))).trans (hHeld.2.2.2.2.1)
                          have HS5_ := (hb.cell (World.block_lt_of_cell? _ _ (hHeld.2.2.2.2.2.1))).trans (hHeld.2.2.2.2.2.1)
                          have HS6_ := (hb.cell (World.block_lt_of_cell? _ _ (hHeld.2.2.2.2.2.2.1))).trans (hHeld.2.2.2.2.2.2.1)
                          have HS7_ := (hb.cell (World.block_lt_of_cell? _ _ (hHeld.2.2.2.2.2.2.2.1))).trans (hHeld.2.2.2.2.2.2.2.1)
                          have HS8_ := (hb.cell (World.block_lt_of_cell? _ _ (hHeld.2.2.2.2.2.2.2.2.1))).trans (hHeld.2.2.2.2.2.2.2.2.1)
                          have HS9_ := (hb.cell (World.block_lt_of_cell? _ _ (hHeld.2.2.2.2.2.2.2.2.2.1))).trans (hHeld.2.2.2.2.2.2.2.2.2.1)
                          have HS10_ := (hb.cell (World.block_lt_of_cell? _ _ (hHeld.2.2.2.2.2.2.2.2.2.2.1))).trans (hHeld.2.2.2.2.2.2.2.2.2.2.1)
                          have HS11_ := (hb.cell (World.block_lt_of_cell? _ _ (hHeld.2.2.2.2.2.2.2.2.2.2.2))).trans (hHeld.2.2.2.2.2.2.2.2.2.2.2)
                          refine ⟨_, rfl, ?_⟩
                          have n0_ := Aside0.mk (Kd.R_below (by (with_reducible repeat (first | apply Kd.R_alloc | apply Kd.R_drewN | apply Kd.R_drew)); exact HO_7.out) hb)
                          have n1_ := Aside0.mk (Kd.R_below (by (with_reducible repeat (first | apply Kd.R_alloc | apply Kd.R_drewN | apply Kd.R_drew)); exact HO_10.out) hb)
                          have n2_ := Aside0.mk (Kd.R_below (by (with_reducible repeat (first | apply Kd.R_alloc | apply Kd.R_drewN | apply Kd.R_drew)); exact HO_13.out) hb)
                          have n3_ := Aside0.mk (Kd.R_below (by (with_reducible repeat (first | apply Kd.R_alloc | apply Kd.R_drewN | apply Kd.R_drew)); exact HO_15.out) hb)
                          have n7_ := Aside0.mk (below_step lB hb)
                          clear HO_7
                          clear HO_10
                          clear HO_13
                          clear HO_15
                          clear HB
                          have HO_7 := n0_
                          have HO_10 := n1_
                          have HO_13 := n2_
                          have HO_15 := n3_
                          have HB := n7_
                          clear n0_ n1_ n2_ n3_ n7_
                          replace BK551 := Aside0.mk (blk_below (g := gb551) (o := .cells #[.int .i64 t556, .int .i64 t557] 31 (0, 0)) (kX BK551.out) hb)
                          replace BK552 := Aside0.mk (blk_below (g := gb552) (o := .cells #[.int .i64 a2_0, .int .i64 a2_1] 49 (0, 0)) (kX BK552.out) hb)
                          replace BK565 := Aside0.mk (blk_below (g := gb565) (o := .cells #[.int .i64 (wrap64 (t556 + (wrap64 (t558 - 2000)))), .int .i64 (wrap64 (t557 + (wrap64 (t559 - 2000))))] 31 (0, 0)) (kX BK565.out) hb)
                          (try clear hb)
                          (try clear hb2)
                          (try clear hk)
                          (try clear hi)
                          refine hK.out _ _ ⟨(blk_cell BK551.out 0).trans rfl, (blk_cell BK551.out 1).trans rfl, (blk_cell BK565.out 0).trans rfl, (blk_cell BK565.out 1).trans rfl, HS4_, HS5_, HS6_, HS7_, HS8_, HS9_, HS10_, HS11_⟩ (fun hHeld => ?_)
                          clear hK K
                          refine nm 225 ?_
                          refine one_ (i := 37) (N := some 236) (Bs 38 44) rfl rfl (one_of HT_.out (by kernel_rfl)) (by decide) (fun K hK => ?_)
                          refine goes_ Try.func38 (by kernel_rfl) rfl #[.agg #[.int .i64 ((rd_T31 x10_1 0).f0), .int .i64 ((rd_T31 x10_1 0).f1)], .agg #[.int .i64 (wrap64 (t556 + (wrap64 (t558 - 2000)))), .int .i64 (wrap64 (t557 + (wrap64 (t559 - 2000))))], .agg #[.int .i64 ((rd_T31 x10_1 (ji92)).f0), .int .i64 ((rd_T31 x10_1 (ji92)).f1)]] (by rfl) rfl rfl (by (try simp only [List.map_toArray, List.map_cons, List.map_nil]); first | done | (simp only [hji92]; rfl) | rfl | (simp only [List.length_drop, List.length_take]; rfl)) ?_
                          with_reducible refine (silversidelaw01_turn.calls ((rd_T31 x10_1 0).f0) ((rd_T31 x10_1 0).f1) (wrap64 (t556 + (wrap64 (t558 - 2000)))) (wrap64 (t557 + (wrap64 (t559 - 2000)))) ((rd_T31 x10_1 (ji92)).f0) ((rd_T31 x10_1 (ji92)).f1) t600 _ A98.out).mono ?_
                          rintro e w113 ⟨rfl, hb⟩
                          have HS4_ := (hb.cell (World.block_lt_of_cell? _ _ (hHeld.2.2.2.2.1))).trans (hHeld.2.2.2.2.1)
                          have HS5_ := (hb.cell (World.block_lt_of_cell? _ _ (hHeld.2.2.2.2.2.1))).trans (hHeld.2.2.2.2.2.1)
                          have HS6_ := (hb.cell (World.block_lt_of_cell? _ _ (hHeld.2.2.2.2.2.2.1))).trans (hHeld.2.2.2.2.2.2.1)
                          have HS7_ := (hb.cell (World.block_lt_of_cell? _ _ (hHeld.2.2.2.2.2.2.2.1))).trans (hHeld.2.2.2.2.2.2.2.1)
                          have HS8_ := (hb.cell (World.block_lt_of_cell? _ _ (hHeld.2.2.2.2.2.2.2.2.1))).trans (hHeld.2.2.2.2.2.2.2.2.1)
                          have HS9_ := (hb.cell (World.block_lt_of_cell? _ _ (hHeld.2.2.2.2.2.2.2.2.2.1))).trans (hHeld.2.2.2.2.2.2.2.2.2.1)
                          have HS10_ := (hb.cell (World.block_lt_of_cell? _ _ (hHeld.2.2.2.2.2.2.2.2.2.2.1))).trans (hHeld.2.2.2.2.2.2.2.2.2.2.1)
                          have HS11_ := (hb.cell (World.block_lt_of_cell? _ _ (hHeld.2.2.2.2.2.2.2.2.2.2.2))).trans (hHeld.2.2.2.2.2.2.2.2.2.2.2)
                          refine ⟨_, rfl, ?_⟩
                          have n0_ := Aside0.mk (Kd.R_below (by (with_reducible repeat (first | apply Kd.R_alloc | apply Kd.R_drewN | apply Kd.R_drew)); exact HO_7.out) hb)
                          have n1_ := Aside0.mk (Kd.R_below (by (with_reducible repeat (first | apply Kd.R_alloc | apply Kd.R_drewN | apply Kd.R_drew)); exact HO_10.out) hb)
                          have n2_ := Aside0.mk (Kd.R_below (by (with_reducible repeat (first | apply Kd.R_alloc | apply Kd.R_drewN | apply Kd.R_drew)); exact HO_13.out) hb)
                          have n3_ := Aside0.mk (Kd.R_below (by (with_reducible repeat (first | apply Kd.R_alloc | apply Kd.R_drewN | apply Kd.R_drew)); exact HO_15.out) hb)
                          have n7_ := Aside0.mk (below_step lB hb)
                          clear HO_7
                          clear HO_10
                          clear HO_13
                          clear HO_15
                          clear HB
                          have HO_7 := n0_
                          have HO_10 := n1_
                          have HO_13 := n2_
                          have HO_15 := n3_
                          have HB := n7_
                          clear n0_ n1_ n2_ n3_ n7_
                          replace BK551 := Aside0.mk (blk_below (g := gb551) (o := .cells #[.int .i64 t556, .int .i64 t557] 31 (0, 0)) (kX BK551.out) hb)
                          replace BK552 := Aside0.mk (blk_below (g := gb552) (o := .cells #[.int .i64 a2_0, .int .i64 a2_1] 49 (0, 0)) (kX BK552.out) hb)
                          replace BK565 := Aside0.mk (blk_below (g := gb565) (o := .cells #[.int .i64 (wrap64 (t556 + (wrap64 (t558 - 2000)))), .int .i64 (wrap64 (t557 + (wrap64 (t559 - 2000))))] 31 (0, 0)) (kX BK565.out) hb)
                          (try clear hb)
                          (try clear hb2)
                          (try clear hk)
                          (try clear hi)
                          refine hK.out _ _ ⟨(blk_cell BK551.out 0).trans rfl, (blk_cell BK551.out 1).trans rfl, (blk_cell BK565.out 0).trans rfl, (blk_cell BK565.out 1).trans rfl, HS4_, HS5_, HS6_, HS7_, HS8_, HS9_, HS10_, HS11_⟩ (fun hHeld => ?_)
                          clear hK K
                          refine nm 236 ?_
                          refine pu 38 237 (Bs 39 44) HT_ ?_
                          refine pu 39 238 (Bs 40 44) HT_ ?_
                          refine pu 40 239 (Bs 41 44) HT_ ?_
                          refine one_ (i := 41) (N := some 240) (Bs 42 44) rfl rfl (one_of HT_.out (by kernel_rfl)) (by decide) (fun K hK => ?_)
                          refine goes_ Try.func23 (by kernel_rfl) rfl #[] (by rfl) rfl rfl (by (try simp only [List.map_toArray, List.map_cons, List.map_nil]); first | done | rfl | (simp only [List.length_drop, List.length_take]; rfl)) ?_
                          with_reducible refine (silversidelaw01_awake.calls k4  t601 _ A100.out).mono ?_
                          rintro e w114 ⟨rfl, hb⟩
                          have HS4_ := (hb.cell (World.block_lt_of_cell? _ _ (hHeld.2.2.2.2.1))).trans (hHeld.2.2.2.2.1)
                          have HS5_ := (hb.cell (World.block_lt_of_cell? _ _ (hHeld.2.2.2.2.2.1))).trans (hHeld.2.2.2.2.2.1)
                          have HS6_ := (hb.cell (World.block_lt_of_cell? _ _ (hHeld.2.2.2.2.2.2.1))).trans (hHeld.2.2.2.2.2.2.1)
                          have HS7_ := (hb.cell (World.block_lt_of_cell? _ _ (hHeld.2.2.2.2.2.2.2.1))).trans (hHeld.2.2.2.2.2.2.2.1)
                          have HS8_ := (hb.cell (World.block_lt_of_cell? _ _ (hHeld.2.2.2.2.2.2.2.2.1))).trans (hHeld.2.2.2.2.2.2.2.2.1)
                          have HS9_ := (hb.cell (World.block_lt_of_cell? _ _ (hHeld.2.2.2.2.2.2.2.2.2.1))).trans (hHeld.2.2.2.2.2.2.2.2.2.1)
                          have HS10_ := (hb.cell (World.block_lt_of_cell? _ _ (hHeld.2.2.2.2.2.2.2.2.2.2.1))).trans (hHeld.2.2.2.2.2.2.2.2.2.2.1)
                          have HS11_ := (hb.cell (World.block_lt_of_cell? _ _ (hHeld.2.2.2.2.2.2.2.2.2.2.2))).trans (hHeld.2.2.2.2.2.2.2.2.2.2.2)
                          refine ⟨_, rfl, ?_⟩
                          have n0_ := Aside0.mk (Kd.R_below (by (with_reducible repeat (first | apply Kd.R_alloc | apply Kd.R_drewN | apply Kd.R_drew)); exact HO_7.out) hb)
                          have n1_ := Aside0.mk (Kd.R_below (by (with_reducible repeat (first | apply Kd.R_alloc | apply Kd.R_drewN | apply Kd.R_drew)); exact HO_10.out) hb)
                          have n2_ := Aside0.mk (Kd.R_below (by (with_reducible repeat (first | apply Kd.R_alloc | apply Kd.R_drewN | apply Kd.R_drew)); exact HO_13.out) hb)
                          have n3_ := Aside0.mk (Kd.R_below (by (with_reducible repeat (first | apply Kd.R_alloc | apply Kd.R_drewN | apply Kd.R_drew)); exact HO_15.out) hb)
                          have n7_ := Aside0.mk (below_step lB hb)
                          clear HO_7
                          clear HO_10
                          clear HO_13
                          clear HO_15
                          clear HB
                          have HO_7 := n0_
                          have HO_10 := n1_
                          have HO_13 := n2_
                          have HO_15 := n3_
                          have HB := n7_
                          clear n0_ n1_ n2_ n3_ n7_
                          replace BK551 := Aside0.mk (blk_below (g := gb551) (o := .cells #[.int .i64 t556, .int .i64 t557] 31 (0, 0)) (kX BK551.out) hb)
                          replace BK552 := Aside0.mk (blk_below (g := gb552) (o := .cells #[.int .i64 a2_0, .int .i64 a2_1] 49 (0, 0)) (kX BK552.out) hb)
                          replace BK565 := Aside0.mk (blk_below (g := gb565) (o := .cells #[.int .i64 (wrap64 (t556 + (wrap64 (t558 - 2000)))), .int .i64 (wrap64 (t557 + (wrap64 (t559 - 2000))))] 31 (0, 0)) (kX BK565.out) hb)
                          (try clear hb)
                          (try clear hb2)
                          (try clear hk)
                          (try clear hi)
                          refine hK.out _ _ ⟨(blk_cell BK551.out 0).trans rfl, (blk_cell BK551.out 1).trans rfl, (blk_cell BK565.out 0).trans rfl, (blk_cell BK565.out 1).trans rfl, HS4_, HS5_, HS6_, HS7_, HS8_, HS9_, HS10_, HS11_⟩ (fun hHeld => ?_)
                          clear hK K
                          refine nm 240 ?_
                          refine pu 42 241 (Bs 43 44) HT_ ?_
                          refine pu 43 6 (Bs 44 44) HT_ ?_
                          refine done_ (done_of HT_.out (by kernel_rfl)) ?_
                          try go_wp2
                          go_ret
                          exact ⟨by first | rfl | (simp [errW_none, errW_some] <;> rfl) | (simp only [← hji92]; first | rfl | (simp [errW_none, errW_some] <;> rfl)) | (simp [*, errW_none, errW_some] <;> rfl), lB⟩
                         ·rw [if_neg c99] at H
                          exact absurd ((Option.some.inj H).trans hr_.out) (by decide)
                        ·rw [if_neg c97] at H
                         exact absurd H (by simp)
                       ·rw [if_neg c96] at H
                        exact absurd H (by simp)
                      ·rw [if_neg c94] at H
                       exact absurd H (by simp)
                     ·rw [if_neg c93] at H
                      exact absurd H (by simp)
                    ·rw [if_neg c91] at H
                     exact absurd H (by simp)
                   ·rw [if_neg c90] at H
                    exact absurd ((Option.some.inj H).trans hr_.out) (by decide)
                  ·rw [if_neg c89] at H
                   exact absurd ((Option.some.inj H).trans hr_.out) (by decide)
                 ·rw [if_neg c88] at H
                  exact absurd ((Option.some.inj H).trans hr_.out) (by decide)

/-! ### silversideref01_Set: function 33 -/
def silversideref01_Set.f (k : Nat) (l0 : List (S31)) : Option (Bool) := if (l0.length : Int) ≥ 1 then (if (l0.length : Int) ≤ 512 then ((silversideref01_Valids.f k l0).bind fun t306 => (some t306)) else (some false)) else (some false)
theorem silversideref01_Set.mono : ∀ a0 k, LeO (silversideref01_Set.f k a0) (silversideref01_Set.f (k + 1) a0) := by
 intro a0 k
 unfold silversideref01_Set.f
 repeat' first
   | (with_reducible exact silversideref01_Valids.mono _ _)
   | (with_reducible exact LeO.refl _)
   | (with_reducible exact LeO.none _)
   | (with_reducible refine LeO.ite ?_ ?_)
   | (with_reducible refine LeO.bind ?_ (fun _ => ?_))
   | exact silversideref01_Valids.mono _ _
   | exact LeO.none _
   | refine LeO.ite ?_ ?_
   | refine LeO.bind ?_ (fun _ => ?_)
set_option maxHeartbeats 8000000 in
set_option maxRecDepth 100000 in
theorem silversideref01_Set.calls (k : Nat) (A0 : Option Addr) (c0 : Nat) (l0 : List (S31)) (r : Bool) (w : World) (hr0 : Kd.C k31 w A0 l0.length l0) (hc0 : l0.length ≤ c0) (h : silversideref01_Set.f k l0 = some r) :
  Calls Try.prog 33 #[.slice A0 l0.length c0] w fun e w' => e = .returned (.bool r) ∧ Below w.heap.size w w' := by
 have HR0 := Aside0.mk hr0
 have HC0 := Aside0.mk hc0
 clear hr0 hc0
 have HB := Aside0.mk (Below.refl w.heap.size w)
 have H : (if (l0.length : Int) ≥ 1 then (if (l0.length : Int) ≤ 512 then ((silversideref01_Valids.f k l0).bind fun t306 => (some t306)) else (some false)) else (some false)) = some r := h
 clear h
 by_cases c2 : (l0.length : Int) ≥ 1
 ·rw [if_pos c2] at H
  have c2b0 : decide (1 ≤ (l0.length : Int)) = true := decide_eq_true c2
  have c2b1 : decide (1 ≤ l0.length) = true := decide_eq_true (by omega)
  clear c2
  by_cases c3 : (l0.length : Int) ≤ 512
  ·rw [if_pos c3] at H
   have c3b0 : decide ((l0.length : Int) ≤ 512) = true := decide_eq_true c3
   have c3b1 : decide (l0.length ≤ 512) = true := decide_eq_true (by omega)
   clear c3
   replace H := Option.bind_eq_some_iff.mp H
   obtain ⟨t306, A40, H⟩ := H
   replace H : (some t306) = some r := H
   have A4 := Aside0.mk A40
   clear A40
   obtain rfl := Option.some.inj H
   go_enter Try.func33, Try.ntmps33
   go_wp2_with (first | (go_at_call 22; (with_reducible refine (silversideref01_Valids.calls k _ _ l0 t306 _ ?side1 ?side2 A4.out).mono ?_); (case side1 => repeat (first | exact HR0.out | (with_reducible refine Kd.C_alloc ?_ _) | (with_reducible refine Kd.C_drewN ?_ _) | (with_reducible refine Kd.C_drew ?_))); (case side2 => exact HC0.out); rintro e w5 ⟨rfl, hb⟩; have n0_ := Aside0.mk (below_step lB hb); clear HB; have HB := n0_; clear n0_; (try clear hb); (try clear hb2); (try clear hk); (try clear hi)))
   go_ret
   exact en
  rw [if_neg c3] at H
  have c3b0 : decide ((l0.length : Int) ≤ 512) = false := decide_eq_false c3
  have c3b1 : decide (l0.length ≤ 512) = false := decide_eq_false (by omega)
  clear c3
  obtain rfl := Option.some.inj H
  go_enter Try.func33, Try.ntmps33
  go_wp2
  go_ret
  exact en
 rw [if_neg c2] at H
 have c2b0 : decide (1 ≤ (l0.length : Int)) = false := decide_eq_false c2
 have c2b1 : decide (1 ≤ l0.length) = false := decide_eq_false (by omega)
 clear c2
 obtain rfl := Option.some.inj H
 go_enter Try.func33, Try.ntmps33
 go_wp2
 go_ret
 exact en


attribute [local go_sem high] eqA31
/-! ### silversidelaw01_same: function 34 -/
def silversidelaw01_same.l0 : Nat → List (S31) → List (S31) → Int → Option (Bool)
 | 0, _, _, _ => none
 | k + 1, x0, x1, x5 => if x5 < (x0.length : Int) then (if 0 ≤ x5 then (if x5 < (x1.length : Int) then (if (!(((rd_T31 x0 x5).f0) == ((rd_T31 x1 x5).f0)) || (!(((rd_T31 x0 x5).f1) == ((rd_T31 x1 x5).f1)))) = true then (some false) else (silversidelaw01_same.l0 k x0 x1 (wrap64 (x5 + 1)))) else (none)) else (none)) else (some true)
def silversidelaw01_same.f (k : Nat) (l0 : List (S31)) (l1 : List (S31)) : Option (Bool) := if (l0.length : Int) = (l1.length : Int) then (silversidelaw01_same.l0 k l0 l1 0) else (some false)
theorem silversidelaw01_same.mono_l : ∀ k, (∀ y0 y1 y2, LeO (silversidelaw01_same.l0 k y0 y1 y2) (silversidelaw01_same.l0 (k + 1) y0 y1 y2))
 | 0 => fun _ _ _ r h => by simp [silversidelaw01_same.l0] at h
 | k + 1 => by
  have ih0 := silversidelaw01_same.mono_l k
  ·intro y0 y1 y2
   unfold silversidelaw01_same.l0
   repeat' first
   | (with_reducible exact ih0 _ _ _)
   | (with_reducible exact LeO.refl _)
   | (with_reducible exact LeO.none _)
   | (with_reducible refine LeO.ite ?_ ?_)
   | (with_reducible refine LeO.bind ?_ (fun _ => ?_))
   | exact ih0 _ _ _
   | exact LeO.none _
   | refine LeO.ite ?_ ?_
   | refine LeO.bind ?_ (fun _ => ?_)
theorem silversidelaw01_same.mono : ∀ a0 a1 k, LeO (silversidelaw01_same.f k a0 a1) (silversidelaw01_same.f (k + 1) a0 a1) := by
 intro a0 a1 k
 have ih0 := silversidelaw01_same.mono_l k
 unfold silversidelaw01_same.f
 repeat' first
   | (with_reducible exact ih0 _ _ _)
   | (with_reducible exact LeO.refl _)
   | (with_reducible exact LeO.none _)
   | (with_reducible refine LeO.ite ?_ ?_)
   | (with_reducible refine LeO.bind ?_ (fun _ => ?_))
   | exact ih0 _ _ _
   | exact LeO.none _
   | refine LeO.ite ?_ ?_
   | refine LeO.bind ?_ (fun _ => ?_)
set_option maxHeartbeats 8000000 in
set_option maxRecDepth 100000 in
theorem silversidelaw01_same.calls (k : Nat) (A0 : Option Addr) (c0 : Nat) (l0 : List (S31)) (A1 : Option Addr) (c1 : Nat) (l1 : List (S31)) (r : Bool) (w : World) (hr0 : Kd.C k31 w A0 l0.length l0) (hc0 : l0.length ≤ c0) (hr1 : Kd.C k31 w A1 l1.length l1) (hc1 : l1.length ≤ c1) (h : silversidelaw01_same.f k l0 l1 = some r) :
  Calls Try.prog 34 #[.slice A0 l0.length c0, .slice A1 l1.length c1] w fun e w' => e = .returned (.bool r) ∧ Drawn0 w w' := by
 have hu31 := Try.underlying31
 have HR0 := Aside0.mk hr0
 have HC0 := Aside0.mk hc0
 clear hr0 hc0
 have HR1 := Aside0.mk hr1
 have HC1 := Aside0.mk hc1
 clear hr1 hc1
 have H : (if (l0.length : Int) = (l1.length : Int) then (silversidelaw01_same.l0 k l0 l1 0) else (some false)) = some r := h
 clear h
 by_cases c3 : (l0.length : Int) = (l1.length : Int)
 ·rw [if_pos c3] at H
  have c3b0 : ((l0.length : Int) == (l1.length : Int)) = true := beq_iff_eq.mpr c3
  have c3b1 : ((l0.length : Int) != (l1.length : Int)) = false := bne_eq_false_iff_eq.mpr c3
  have c3b2 : (l0.length == l1.length) = true := by first | simpa using c3 | (simp at c3 ⊢; omega)
  clear c3
  have H' := Aside0.mk H
  clear H
  go_enter Try.func34, Try.ntmps34
  go_wp2
  repeat (go_quiet (fail); try go_wp2)
  go_loopg [5] k (fun kq v5 w' => ∃ (x5_1 : Int), v5 = .int .i64 x5_1 ∧ Aside0 (silversidelaw01_same.l0 kq l0 l1 x5_1 = some r) ∧ Aside0 (kq ≤ k) ∧ Drawn0 w w')
  case atStart => exact ⟨(0), (by first | rfl | (simp; done) | (simp [*]; done)), H', ⟨Nat.le_refl _⟩, by repeat (first | exact Drawn0.refl _ | apply Drawn0.step)⟩
  case round =>
   clear H'
   try clear c1
   try clear p2
   try clear c3
   try clear c3b0
   try clear c3b1
   try clear c3b2
   obtain ⟨x5_1, rfl, HA, HK1, ⟨m1, rfl⟩⟩ := hrel
   cases gk with
   | zero => exact absurd HA.out (by simp [silversidelaw01_same.l0])
   | succ k1 =>
    have H := HA.out
    clear HA
    simp only [silversidelaw01_same.l0] at H
    by_cases c4 : x5_1 < (l0.length : Int)
    ·rw [if_pos c4] at H
     have c4b0 : decide (x5_1 < (l0.length : Int)) = true := decide_eq_true c4
     clear c4
     by_cases c5 : 0 ≤ x5_1
     ·rw [if_pos c5] at H
      have c5b0 : decide (0 ≤ x5_1) = true := decide_eq_true c5
      clear c5
      by_cases c6 : x5_1 < (l1.length : Int)
      ·rw [if_pos c6] at H
       have c6b0 : decide (x5_1 < (l1.length : Int)) = true := decide_eq_true c6
       clear c6
       by_cases c7 : (!(((rd_T31 l0 x5_1).f0) == ((rd_T31 l1 x5_1).f0)) || (!(((rd_T31 l0 x5_1).f1) == ((rd_T31 l1 x5_1).f1)))) = true
       ·rw [if_pos c7] at H
        have c7b0 : (!(((rd_T31 l0 x5_1).f0) == ((rd_T31 l1 x5_1).f0)) || (!(((rd_T31 l0 x5_1).f1) == ((rd_T31 l1 x5_1).f1)))) = true := c7
        clear c7
        obtain rfl := Option.some.inj H
        have p307 : 0 ≤ (x5_1 : Int) := of_decide_eq_true (by first | (with_reducible assumption) | assumption)
        have q307 : x5_1 < (l0.length : Int) := of_decide_eq_true (by first | (with_reducible assumption) | assumption)
        obtain ⟨ad307, e307, hx307_0, hx307_1⟩ := at_T31 HR0.out x5_1 p307 q307
        cases e307
        replace p307 := eq_true p307
        replace q307 := eq_true q307
        have p308 : 0 ≤ (x5_1 : Int) := of_decide_eq_true (by first | (with_reducible assumption) | assumption)
        have q308 : x5_1 < (l1.length : Int) := of_decide_eq_true (by first | (with_reducible assumption) | assumption)
        obtain ⟨ad308, e308, hx308_0, hx308_1⟩ := at_T31 HR1.out x5_1 p308 q308
        cases e308
        replace p308 := eq_true p308
        replace q308 := eq_true q308
        go_wp2
        repeat (go_quiet (fail); try go_wp2)
        go_ret
        exact ⟨by first | rfl | (simp; done) | (simp [*]; done), by repeat (first | exact Drawn0.refl _ | apply Drawn0.step)⟩
       ·rw [if_neg c7] at H
        have c7b0 : (!(((rd_T31 l0 x5_1).f0) == ((rd_T31 l1 x5_1).f0)) || (!(((rd_T31 l0 x5_1).f1) == ((rd_T31 l1 x5_1).f1)))) = false := by simpa using c7
        clear c7
        have H' := Aside0.mk H
        clear H
        have p307 : 0 ≤ (x5_1 : Int) := of_decide_eq_true (by first | (with_reducible assumption) | assumption)
        have q307 : x5_1 < (l0.length : Int) := of_decide_eq_true (by first | (with_reducible assumption) | assumption)
        obtain ⟨ad307, e307, hx307_0, hx307_1⟩ := at_T31 HR0.out x5_1 p307 q307
        cases e307
        replace p307 := eq_true p307
        replace q307 := eq_true q307
        have p308 : 0 ≤ (x5_1 : Int) := of_decide_eq_true (by first | (with_reducible assumption) | assumption)
        have q308 : x5_1 < (l1.length : Int) := of_decide_eq_true (by first | (with_reducible assumption) | assumption)
        obtain ⟨ad308, e308, hx308_0, hx308_1⟩ := at_T31 HR1.out x5_1 p308 q308
        cases e308
        replace p308 := eq_true p308
        replace q308 := eq_true q308
        go_wp2
        repeat (go_quiet (fail); try go_wp2)
        go_roundg k1
        case measure => have := HK1.out; omega
        case rel => exact ⟨(wrap64 (x5_1 + 1)), (by first | rfl | (simp; done) | (simp [*]; done)), H', ⟨by have := HK1.out; omega⟩, by repeat (first | exact Drawn0.refl _ | apply Drawn0.step)⟩
      ·rw [if_neg c6] at H
       exact absurd H (by simp)
     ·rw [if_neg c5] at H
      exact absurd H (by simp)
    ·rw [if_neg c4] at H
     have c4b0 : decide (x5_1 < (l0.length : Int)) = false := decide_eq_false c4
     clear c4
     obtain rfl := Option.some.inj H
     go_wp2
     repeat (go_quiet (fail); try go_wp2)
     go_ret
     exact ⟨by first | rfl | (simp; done) | (simp [*]; done), by repeat (first | exact Drawn0.refl _ | apply Drawn0.step)⟩
 rw [if_neg c3] at H
 have c3b0 : ((l0.length : Int) == (l1.length : Int)) = false := beq_eq_false_iff_ne.mpr c3
 have c3b1 : ((l0.length : Int) != (l1.length : Int)) = true := bne_iff_ne.mpr c3
 have c3b2 : (l0.length == l1.length) = false := by first | simpa using c3 | (simp at c3 ⊢; omega)
 obtain rfl := Option.some.inj H
 go_enter Try.func34, Try.ntmps34
 go_wp2
 repeat (go_quiet (fail); try go_wp2)
 go_ret
 exact ⟨by first | rfl | (simp; done) | (simp [*]; done), by repeat (first | exact Drawn0.refl _ | apply Drawn0.step)⟩

end Go.Proofs.Ythaklbjcjoolcaa.P
namespace Go.Proofs.Ythaklbjcjoolcaa.P
open Go.RowKit Go.Proofs.YthaklbjcjoolcaaW.PrintWords Go.Proofs.YthaklbjcjoolcaaW.PrintLast Go.Proofs.YthaklbjcjoolcaaW.PrintMore
theorem set_ev (l : List S31) (hl : l.length < 9223372036854775807) : Ev (fun k => silversideref01_Set.f k l) (isSetB l) := by
  unfold silversideref01_Set.f isSetB
  by_cases h1 : (l.length : Int) ≥ 1
  · refine ev_pos h1 ?_
    by_cases h2 : (l.length : Int) ≤ 512
    · refine ev_pos h2 ?_
      rw [decide_eq_true (show 1 ≤ l.length ∧ l.length ≤ 512 from ⟨by omega, by omega⟩), Bool.true_and]
      exact Ev.bind (valids_ev l hl) (Ev.now _)
    · refine ev_neg h2 ?_
      rw [decide_eq_false (show ¬ (1 ≤ l.length ∧ l.length ≤ 512) by omega), Bool.false_and]
      exact Ev.now _
  · refine ev_neg h1 ?_
    rw [decide_eq_false (show ¬ (1 ≤ l.length ∧ l.length ≤ 512) by omega), Bool.false_and]
    exact Ev.now _
theorem same_from (l : List S31) (hl : l.length < 9223372036854775807) : ∀ n i : Nat, l.length - i = n → i ≤ l.length → Ev (fun k => silversidelaw01_same.l0 k l l (i : Int)) true
  | 0, i, hn, hi => by
    refine Ev.step (f := fun _ => some true) (fun k => ?_) (Ev.now _)
    unfold silversidelaw01_same.l0
    rw [if_neg (by omega)]
  | n + 1, i, hn, hi => by
    refine Ev.step (fun k => ?_) (same_from l hl n (i + 1) (by omega) (by omega))
    conv => lhs; unfold silversidelaw01_same.l0
    rw [if_pos (by omega), if_pos (by omega), if_pos (by omega), if_neg (by simp), w64i (x := (i : Int) + 1) (by omega) (by omega)]
    rfl
theorem same_ev (l : List S31) (hl : l.length < 9223372036854775807) : Ev (fun k => silversidelaw01_same.f k l l) true := by
  unfold silversidelaw01_same.f
  exact ev_pos rfl (same_from l hl (l.length - 0) 0 rfl (by omega))
theorem hull_is {t : List S31} (hs : isSetB t = true) : plane_Hull.f t = some (cornersS t, 0) := by
  obtain ⟨⟨hs1, hs2⟩, hok⟩ := (isSetB_iff t).1 hs
  unfold plane_Hull.f plane_corners.f
  rw [isSet_is, hs, Option.bind_some, if_pos rfl, if_pos ⟨hs1, by omega, hok⟩]; rfl
theorem hull_no {t : List S31} (hs : isSetB t = false) : plane_Hull.f t = some ([], 2) := by
  unfold plane_Hull.f
  rw [isSet_is, hs]; rfl
theorem isSet_of {t : List S31} (h1 : 1 ≤ t.length) (h2 : t.length ≤ 512) (h3 : allOk t = true) : isSetB t = true := (isSetB_iff t).2 ⟨⟨h1, h2⟩, h3⟩
/-- the corners of a set are a set -/
theorem corners_set {t : List S31} (h1 : 1 ≤ t.length) (h2 : t.length ≤ 256) (h3 : allOk t = true) : isSetB (cornersS t) = true :=
  isSet_of (corners_hull t h1).pos (by have := cornersS_len t; omega) (cornersS_ok h3)
end Go.Proofs.Ythaklbjcjoolcaa.P
