/- Proved here: what functions that the law reaches compute, and plain laws of that. No conditions but those that the theorems state. Put together by a program; a part of it was printed by a program of the session's, by way of the kit's printer (wip/printplus.py, wip/mend*.py). -/
import Derived.Test.YtppelnlocfcgfaaCFindZero1
import Derived.Test.YtppelnlocfcgfaaB1
import Derived.Test.YtppelnlocfcgfaaB2
import Derived.Test.YtppelnlocfcgfaaB3
set_option linter.unusedVariables false
set_option linter.unusedSimpArgs false
namespace Go.Proofs.Ytppelnlocfcgfaa.P
open Go.RowKit Go.Proofs.YtppelnlocfcgfaaW.PrintWords Go.Proofs.YtppelnlocfcgfaaW.PrintLast Go.Proofs.YtppelnlocfcgfaaW.PrintMore
attribute [local go_sem] max2_int min2_int max_two min_two max_three min_three max_four min_four   -- for this text's walks alone

/-! ### silversidelaw07_FindZero: function 15 -/
mutual
def silversidelaw07_FindZero.j0 : Nat → ByteArray → Bool → Option (Bool)
 | 0, _, _ => none
 | k + 1, x0, x86 => if x86 = true then (some false) else (if 0 ≤ (mn (x0.size : Int) 200) then (if (mn (x0.size : Int) 200) ≤ (x0.size : Int) then ((find_New.f k (x0.extract 0 ((mn (x0.size : Int) 200) : Int).toNat)).bind fun bt488 => ((find_Index_Order.f bt488.1 bt488.2.1 bt488.2.2.1).bind fun t497 => ((find_Index_Overlaps.f bt488.1 bt488.2.1 bt488.2.2.1).bind fun t500 => ((find_Index_Find.f bt488.1 bt488.2.1 bt488.2.2.1 (⟨#[]⟩ : ByteArray)).bind fun t503 => (silversidelaw07_FindZero.l0 k (x0.extract 0 ((mn (x0.size : Int) 200) : Int).toNat) bt488.2.2.2 t497 t500 t503 0 bt488.1 bt488.2.1 bt488.2.2.1))))) else (none)) else (none))
def silversidelaw07_FindZero.l0 : Nat → ByteArray → Int → List Int → List Int → List Int → Int → ByteArray → List Int → List Int → Option (Bool)
 | 0, _, _, _, _, _, _, _, _, _ => none
 | k + 1, x0, x14, x15, x16, x17, x18, x497000, x497001, x497002 => if x18 < (x15.length : Int) then (if 0 ≤ x18 then (silversidelaw07_FindZero.l0 k x0 x14 (x15.set (x18 : Int).toNat (-1)) x16 x17 (wrap64 (x18 + 1)) x497000 x497001 x497002) else (none)) else (silversidelaw07_FindZero.l1 k x0 x14 x16 x17 0 x497000 x497001 x497002)
def silversidelaw07_FindZero.l1 : Nat → ByteArray → Int → List Int → List Int → Int → ByteArray → List Int → List Int → Option (Bool)
 | 0, _, _, _, _, _, _, _, _ => none
 | k + 1, x0, x14, x16, x17, x19, x497000, x497001, x497002 => if x19 < (x16.length : Int) then (if 0 ≤ x19 then (silversidelaw07_FindZero.l1 k x0 x14 (x16.set (x19 : Int).toNat (-1)) x17 (wrap64 (x19 + 1)) x497000 x497001 x497002) else (none)) else (silversidelaw07_FindZero.l2 k x0 x14 x17 0 x497000 x497001 x497002)
def silversidelaw07_FindZero.l2 : Nat → ByteArray → Int → List Int → Int → ByteArray → List Int → List Int → Option (Bool)
 | 0, _, _, _, _, _, _, _ => none
 | k + 1, x0, x14, x17, x20, x497000, x497001, x497002 => if x20 < (x17.length : Int) then (if 0 ≤ x20 then (silversidelaw07_FindZero.l2 k x0 x14 (x17.set (x20 : Int).toNat (-1)) (wrap64 (x20 + 1)) x497000 x497001 x497002) else (none)) else ((silversideref07_Order.f k x0).bind fun t509 => (if x14 = 0 then ((find_Index_Order.f x497000 x497001 x497002).bind fun t512 => ((silversidelaw07_ints.f k t512 t509).bind fun t515 => (if t515 = true then ((find_Index_Overlaps.f x497000 x497001 x497002).bind fun t516 => ((silversideref07_Overlaps.f k x0 t509).bind fun t519 => ((silversidelaw07_ints.f k t516 t519).bind fun t522 => (if t522 = true then ((find_Index_Find.f x497000 x497001 x497002 (⟨#[]⟩ : ByteArray)).bind fun t523 => (if (t523.length : Int) = (x0.size : Int) then ((silversidelaw07_awake.f k).bind fun t526 => (some t526)) else (some false))) else (some false))))) else (some false)))) else (some false)))
end
def silversidelaw07_FindZero.f (k : Nat) (a0 : ByteArray) (a1 : ByteArray) (a2 : Int) : Option (Bool) := (find_Index_Repeat.f k (⟨#[]⟩ : ByteArray) ([] : List Int) ([] : List Int)).bind fun bt471 => ((find_Index_Shortest.f k (⟨#[]⟩ : ByteArray) ([] : List Int) ([] : List Int) a2).bind fun bt474 => ((find_Index_Text.f (⟨#[]⟩ : ByteArray) ([] : List Int) ([] : List Int)).bind fun t476 => (if t476.toList = ([] : List UInt8) then ((find_Index_Order.f (⟨#[]⟩ : ByteArray) ([] : List Int) ([] : List Int)).bind fun t477 => (if (t477.length : Int) = 0 then ((find_Index_Overlaps.f (⟨#[]⟩ : ByteArray) ([] : List Int) ([] : List Int)).bind fun t480 => (if (t480.length : Int) = 0 then ((find_Index_Count.f (⟨#[]⟩ : ByteArray) ([] : List Int) ([] : List Int) a1).bind fun t483 => (if t483 = 0 then ((find_Index_Find.f (⟨#[]⟩ : ByteArray) ([] : List Int) ([] : List Int) a1).bind fun t484 => (if (t484.length : Int) = 0 then (if bt471.1.toList = ([] : List UInt8) then (if bt471.2.1 = 0 then (if bt471.2.2 = 6 then ((find_Index_Distinct.f k (⟨#[]⟩ : ByteArray) ([] : List Int) ([] : List Int)).bind fun t487 => (if t487 = 0 then (if bt474.1 = 0 then (silversidelaw07_FindZero.j0 k a0 (bt474.2 != 2)) else (silversidelaw07_FindZero.j0 k a0 true)) else (silversidelaw07_FindZero.j0 k a0 true))) else (silversidelaw07_FindZero.j0 k a0 true)) else (silversidelaw07_FindZero.j0 k a0 true)) else (silversidelaw07_FindZero.j0 k a0 true)) else (silversidelaw07_FindZero.j0 k a0 true))) else (silversidelaw07_FindZero.j0 k a0 true))) else (silversidelaw07_FindZero.j0 k a0 true))) else (silversidelaw07_FindZero.j0 k a0 true))) else (silversidelaw07_FindZero.j0 k a0 true))))
theorem silversidelaw07_FindZero.mono_l : ∀ k, (∀ y0 y1, LeO (silversidelaw07_FindZero.j0 k y0 y1) (silversidelaw07_FindZero.j0 (k + 1) y0 y1)) ∧ (∀ y0 y1 y2 y3 y4 y5 y6 y7 y8, LeO (silversidelaw07_FindZero.l0 k y0 y1 y2 y3 y4 y5 y6 y7 y8) (silversidelaw07_FindZero.l0 (k + 1) y0 y1 y2 y3 y4 y5 y6 y7 y8)) ∧ (∀ y0 y1 y2 y3 y4 y5 y6 y7, LeO (silversidelaw07_FindZero.l1 k y0 y1 y2 y3 y4 y5 y6 y7) (silversidelaw07_FindZero.l1 (k + 1) y0 y1 y2 y3 y4 y5 y6 y7)) ∧ (∀ y0 y1 y2 y3 y4 y5 y6, LeO (silversidelaw07_FindZero.l2 k y0 y1 y2 y3 y4 y5 y6) (silversidelaw07_FindZero.l2 (k + 1) y0 y1 y2 y3 y4 y5 y6))
 | 0 => ⟨fun _ _ r h => by simp [silversidelaw07_FindZero.j0] at h, fun _ _ _ _ _ _ _ _ _ r h => by simp [silversidelaw07_FindZero.l0] at h, fun _ _ _ _ _ _ _ _ r h => by simp [silversidelaw07_FindZero.l1] at h, fun _ _ _ _ _ _ _ r h => by simp [silversidelaw07_FindZero.l2] at h⟩
 | k + 1 => by
  obtain ⟨ih0, ih1, ih2, ih3⟩ := silversidelaw07_FindZero.mono_l k
  refine ⟨?_, ?_, ?_, ?_⟩
  ·intro y0 y1
   unfold silversidelaw07_FindZero.j0
   repeat' first
   | (with_reducible exact ih0 _ _)
   | (with_reducible exact ih1 _ _ _ _ _ _ _ _ _)
   | (with_reducible exact ih2 _ _ _ _ _ _ _ _)
   | (with_reducible exact ih3 _ _ _ _ _ _ _)
   | (with_reducible exact find_Index_Distinct.mono _ _ _ _)
   | (with_reducible exact find_Index_Repeat.mono _ _ _ _)
   | (with_reducible exact find_Index_Shortest.mono _ _ _ _ _)
   | (with_reducible exact find_New.mono _ _)
   | (with_reducible exact silversidelaw07_awake.mono _)
   | (with_reducible exact silversidelaw07_ints.mono _ _ _)
   | (with_reducible exact silversideref07_Order.mono _ _)
   | (with_reducible exact silversideref07_Overlaps.mono _ _ _)
   | (with_reducible exact LeO.refl _)
   | (with_reducible exact LeO.none _)
   | (with_reducible refine LeO.ite ?_ ?_)
   | (with_reducible refine LeO.bind ?_ (fun _ => ?_))
   | exact ih0 _ _
   | exact ih1 _ _ _ _ _ _ _ _ _
   | exact ih2 _ _ _ _ _ _ _ _
   | exact ih3 _ _ _ _ _ _ _
   | exact find_Index_Distinct.mono _ _ _ _
   | exact find_Index_Repeat.mono _ _ _ _
   | exact find_Index_Shortest.mono _ _ _ _ _
   | exact find_New.mono _ _
   | exact silversidelaw07_awake.mono _
   | exact silversidelaw07_ints.mono _ _ _
   | exact silversideref07_Order.mono _ _
   | exact silversideref07_Overlaps.mono _ _ _
   | exact LeO.none _
   | refine LeO.ite ?_ ?_
   | refine LeO.bind ?_ (fun _ => ?_)
  ·intro y0 y1 y2 y3 y4 y5 y6 y7 y8
   unfold silversidelaw07_FindZero.l0
   repeat' first
   | (with_reducible exact ih0 _ _)
   | (with_reducible exact ih1 _ _ _ _ _ _ _ _ _)
   | (with_reducible exact ih2 _ _ _ _ _ _ _ _)
   | (with_reducible exact ih3 _ _ _ _ _ _ _)
   | (with_reducible exact find_Index_Distinct.mono _ _ _ _)
   | (with_reducible exact find_Index_Repeat.mono _ _ _ _)
   | (with_reducible exact find_Index_Shortest.mono _ _ _ _ _)
   | (with_reducible exact find_New.mono _ _)
   | (with_reducible exact silversidelaw07_awake.mono _)
   | (with_reducible exact silversidelaw07_ints.mono _ _ _)
   | (with_reducible exact silversideref07_Order.mono _ _)
   | (with_reducible exact silversideref07_Overlaps.mono _ _ _)
   | (with_reducible exact LeO.refl _)
   | (with_reducible exact LeO.none _)
   | (with_reducible refine LeO.ite ?_ ?_)
   | (with_reducible refine LeO.bind ?_ (fun _ => ?_))
   | exact ih0 _ _
   | exact ih1 _ _ _ _ _ _ _ _ _
   | exact ih2 _ _ _ _ _ _ _ _
   | exact ih3 _ _ _ _ _ _ _
   | exact find_Index_Distinct.mono _ _ _ _
   | exact find_Index_Repeat.mono _ _ _ _
   | exact find_Index_Shortest.mono _ _ _ _ _
   | exact find_New.mono _ _
   | exact silversidelaw07_awake.mono _
   | exact silversidelaw07_ints.mono _ _ _
   | exact silversideref07_Order.mono _ _
   | exact silversideref07_Overlaps.mono _ _ _
   | exact LeO.none _
   | refine LeO.ite ?_ ?_
   | refine LeO.bind ?_ (fun _ => ?_)
  ·intro y0 y1 y2 y3 y4 y5 y6 y7
   unfold silversidelaw07_FindZero.l1
   repeat' first
   | (with_reducible exact ih0 _ _)
   | (with_reducible exact ih1 _ _ _ _ _ _ _ _ _)
   | (with_reducible exact ih2 _ _ _ _ _ _ _ _)
   | (with_reducible exact ih3 _ _ _ _ _ _ _)
   | (with_reducible exact find_Index_Distinct.mono _ _ _ _)
   | (with_reducible exact find_Index_Repeat.mono _ _ _ _)
   | (with_reducible exact find_Index_Shortest.mono _ _ _ _ _)
   | (with_reducible exact find_New.mono _ _)
   | (with_reducible exact silversidelaw07_awake.mono _)
   | (with_reducible exact silversidelaw07_ints.mono _ _ _)
   | (with_reducible exact silversideref07_Order.mono _ _)
   | (with_reducible exact silversideref07_Overlaps.mono _ _ _)
   | (with_reducible exact LeO.refl _)
   | (with_reducible exact LeO.none _)
   | (with_reducible refine LeO.ite ?_ ?_)
   | (with_reducible refine LeO.bind ?_ (fun _ => ?_))
   | exact ih0 _ _
   | exact ih1 _ _ _ _ _ _ _ _ _
   | exact ih2 _ _ _ _ _ _ _ _
   | exact ih3 _ _ _ _ _ _ _
   | exact find_Index_Distinct.mono _ _ _ _
   | exact find_Index_Repeat.mono _ _ _ _
   | exact find_Index_Shortest.mono _ _ _ _ _
   | exact find_New.mono _ _
   | exact silversidelaw07_awake.mono _
   | exact silversidelaw07_ints.mono _ _ _
   | exact silversideref07_Order.mono _ _
   | exact silversideref07_Overlaps.mono _ _ _
   | exact LeO.none _
   | refine LeO.ite ?_ ?_
   | refine LeO.bind ?_ (fun _ => ?_)
  ·intro y0 y1 y2 y3 y4 y5 y6
   unfold silversidelaw07_FindZero.l2
   repeat' first
   | (with_reducible exact ih0 _ _)
   | (with_reducible exact ih1 _ _ _ _ _ _ _ _ _)
   | (with_reducible exact ih2 _ _ _ _ _ _ _ _)
   | (with_reducible exact ih3 _ _ _ _ _ _ _)
   | (with_reducible exact find_Index_Distinct.mono _ _ _ _)
   | (with_reducible exact find_Index_Repeat.mono _ _ _ _)
   | (with_reducible exact find_Index_Shortest.mono _ _ _ _ _)
   | (with_reducible exact find_New.mono _ _)
   | (with_reducible exact silversidelaw07_awake.mono _)
   | (with_reducible exact silversidelaw07_ints.mono _ _ _)
   | (with_reducible exact silversideref07_Order.mono _ _)
   | (with_reducible exact silversideref07_Overlaps.mono _ _ _)
   | (with_reducible exact LeO.refl _)
   | (with_reducible exact LeO.none _)
   | (with_reducible refine LeO.ite ?_ ?_)
   | (with_reducible refine LeO.bind ?_ (fun _ => ?_))
   | exact ih0 _ _
   | exact ih1 _ _ _ _ _ _ _ _ _
   | exact ih2 _ _ _ _ _ _ _ _
   | exact ih3 _ _ _ _ _ _ _
   | exact find_Index_Distinct.mono _ _ _ _
   | exact find_Index_Repeat.mono _ _ _ _
   | exact find_Index_Shortest.mono _ _ _ _ _
   | exact find_New.mono _ _
   | exact silversidelaw07_awake.mono _
   | exact silversidelaw07_ints.mono _ _ _
   | exact silversideref07_Order.mono _ _
   | exact silversideref07_Overlaps.mono _ _ _
   | exact LeO.none _
   | refine LeO.ite ?_ ?_
   | refine LeO.bind ?_ (fun _ => ?_)
theorem silversidelaw07_FindZero.mono : ∀ a0 a1 a2 k, LeO (silversidelaw07_FindZero.f k a0 a1 a2) (silversidelaw07_FindZero.f (k + 1) a0 a1 a2) := by
 intro a0 a1 a2 k
 obtain ⟨ih0, ih1, ih2, ih3⟩ := silversidelaw07_FindZero.mono_l k
 unfold silversidelaw07_FindZero.f
 repeat' first
   | (with_reducible exact ih0 _ _)
   | (with_reducible exact ih1 _ _ _ _ _ _ _ _ _)
   | (with_reducible exact ih2 _ _ _ _ _ _ _ _)
   | (with_reducible exact ih3 _ _ _ _ _ _ _)
   | (with_reducible exact find_Index_Distinct.mono _ _ _ _)
   | (with_reducible exact find_Index_Repeat.mono _ _ _ _)
   | (with_reducible exact find_Index_Shortest.mono _ _ _ _ _)
   | (with_reducible exact find_New.mono _ _)
   | (with_reducible exact silversidelaw07_awake.mono _)
   | (with_reducible exact silversidelaw07_ints.mono _ _ _)
   | (with_reducible exact silversideref07_Order.mono _ _)
   | (with_reducible exact silversideref07_Overlaps.mono _ _ _)
   | (with_reducible exact LeO.refl _)
   | (with_reducible exact LeO.none _)
   | (with_reducible refine LeO.ite ?_ ?_)
   | (with_reducible refine LeO.bind ?_ (fun _ => ?_))
   | exact ih0 _ _
   | exact ih1 _ _ _ _ _ _ _ _ _
   | exact ih2 _ _ _ _ _ _ _ _
   | exact ih3 _ _ _ _ _ _ _
   | exact find_Index_Distinct.mono _ _ _ _
   | exact find_Index_Repeat.mono _ _ _ _
   | exact find_Index_Shortest.mono _ _ _ _ _
   | exact find_New.mono _ _
   | exact silversidelaw07_awake.mono _
   | exact silversidelaw07_ints.mono _ _ _
   | exact silversideref07_Order.mono _ _
   | exact silversideref07_Overlaps.mono _ _ _
   | exact LeO.none _
   | refine LeO.ite ?_ ?_
   | refine LeO.bind ?_ (fun _ => ?_)
def silversidelaw07_FindZero.T8 : Bool × List (List Nat × List Nat) := (true, [([], []), ([0], [0]), ([], []), ([2, 1], [2]), ([], []), ([4, 3], [4]), ([1, 5, 0, 1], [1]), ([3, 6, 0, 1, 2, 3, 6], [3]), ([5, 7, 0, 1, 2, 3, 4, 5, 6, 7], [5])])
def silversidelaw07_FindZero.B8 : List Nat := [0, 1, 0, 7, 0, 31, 63, 127, 255]
theorem silversidelaw07_FindZero.tab8 : rtab .any (opsOf Try.f15 8) = silversidelaw07_FindZero.T8 := by kernel_rfl
theorem silversidelaw07_FindZero.bits8 : waitsOk silversidelaw07_FindZero.T8.2 silversidelaw07_FindZero.B8 = true := by kernel_rfl
set_option maxHeartbeats 8000000 in
set_option maxRecDepth 100000 in
theorem silversidelaw07_FindZero.calls (k : Nat) (a0 : ByteArray) (a1 : ByteArray) (a2 : Int) (r : Bool) (hr_ : Aside0 (r = true)) (w : World) (h : silversidelaw07_FindZero.f k a0 a1 a2 = some r) :
  Calls Try.prog 15 #[.string a0, .string a1, .int .i64 a2] w fun e w' => e = .returned (.bool r) ∧ Below w.heap.size w w' := by
 have hu24 := Try.underlying24
 have HB := Aside0.mk (Below.refl w.heap.size w)
 have H : ((find_Index_Repeat.f k (⟨#[]⟩ : ByteArray) ([] : List Int) ([] : List Int)).bind fun bt471 => ((find_Index_Shortest.f k (⟨#[]⟩ : ByteArray) ([] : List Int) ([] : List Int) a2).bind fun bt474 => ((find_Index_Text.f (⟨#[]⟩ : ByteArray) ([] : List Int) ([] : List Int)).bind fun t476 => (if t476.toList = ([] : List UInt8) then ((find_Index_Order.f (⟨#[]⟩ : ByteArray) ([] : List Int) ([] : List Int)).bind fun t477 => (if (t477.length : Int) = 0 then ((find_Index_Overlaps.f (⟨#[]⟩ : ByteArray) ([] : List Int) ([] : List Int)).bind fun t480 => (if (t480.length : Int) = 0 then ((find_Index_Count.f (⟨#[]⟩ : ByteArray) ([] : List Int) ([] : List Int) a1).bind fun t483 => (if t483 = 0 then ((find_Index_Find.f (⟨#[]⟩ : ByteArray) ([] : List Int) ([] : List Int) a1).bind fun t484 => (if (t484.length : Int) = 0 then (if bt471.1.toList = ([] : List UInt8) then (if bt471.2.1 = 0 then (if bt471.2.2 = 6 then ((find_Index_Distinct.f k (⟨#[]⟩ : ByteArray) ([] : List Int) ([] : List Int)).bind fun t487 => (if t487 = 0 then (if bt474.1 = 0 then (silversidelaw07_FindZero.j0 k a0 (bt474.2 != 2)) else (silversidelaw07_FindZero.j0 k a0 true)) else (silversidelaw07_FindZero.j0 k a0 true))) else (silversidelaw07_FindZero.j0 k a0 true)) else (silversidelaw07_FindZero.j0 k a0 true)) else (silversidelaw07_FindZero.j0 k a0 true)) else (silversidelaw07_FindZero.j0 k a0 true))) else (silversidelaw07_FindZero.j0 k a0 true))) else (silversidelaw07_FindZero.j0 k a0 true))) else (silversidelaw07_FindZero.j0 k a0 true))) else (silversidelaw07_FindZero.j0 k a0 true))))) = some r := h
 clear h
 replace H := Option.bind_eq_some_iff.mp H
 obtain ⟨⟨t471, t472, t473⟩, A40, H⟩ := H
 replace H : ((find_Index_Shortest.f k (⟨#[]⟩ : ByteArray) ([] : List Int) ([] : List Int) a2).bind fun bt474 => ((find_Index_Text.f (⟨#[]⟩ : ByteArray) ([] : List Int) ([] : List Int)).bind fun t476 => (if t476.toList = ([] : List UInt8) then ((find_Index_Order.f (⟨#[]⟩ : ByteArray) ([] : List Int) ([] : List Int)).bind fun t477 => (if (t477.length : Int) = 0 then ((find_Index_Overlaps.f (⟨#[]⟩ : ByteArray) ([] : List Int) ([] : List Int)).bind fun t480 => (if (t480.length : Int) = 0 then ((find_Index_Count.f (⟨#[]⟩ : ByteArray) ([] : List Int) ([] : List Int) a1).bind fun t483 => (if t483 = 0 then ((find_Index_Find.f (⟨#[]⟩ : ByteArray) ([] : List Int) ([] : List Int) a1).bind fun t484 => (if (t484.length : Int) = 0 then (if t471.toList = ([] : List UInt8) then (if t472 = 0 then (if t473 = 6 then ((find_Index_Distinct.f k (⟨#[]⟩ : ByteArray) ([] : List Int) ([] : List Int)).bind fun t487 => (if t487 = 0 then (if bt474.1 = 0 then (silversidelaw07_FindZero.j0 k a0 (bt474.2 != 2)) else (silversidelaw07_FindZero.j0 k a0 true)) else (silversidelaw07_FindZero.j0 k a0 true))) else (silversidelaw07_FindZero.j0 k a0 true)) else (silversidelaw07_FindZero.j0 k a0 true)) else (silversidelaw07_FindZero.j0 k a0 true)) else (silversidelaw07_FindZero.j0 k a0 true))) else (silversidelaw07_FindZero.j0 k a0 true))) else (silversidelaw07_FindZero.j0 k a0 true))) else (silversidelaw07_FindZero.j0 k a0 true))) else (silversidelaw07_FindZero.j0 k a0 true)))) = some r := H
 have A4 := Aside0.mk A40
 clear A40
 replace H := Option.bind_eq_some_iff.mp H
 obtain ⟨⟨t474, t475⟩, A50, H⟩ := H
 replace H : ((find_Index_Text.f (⟨#[]⟩ : ByteArray) ([] : List Int) ([] : List Int)).bind fun t476 => (if t476.toList = ([] : List UInt8) then ((find_Index_Order.f (⟨#[]⟩ : ByteArray) ([] : List Int) ([] : List Int)).bind fun t477 => (if (t477.length : Int) = 0 then ((find_Index_Overlaps.f (⟨#[]⟩ : ByteArray) ([] : List Int) ([] : List Int)).bind fun t480 => (if (t480.length : Int) = 0 then ((find_Index_Count.f (⟨#[]⟩ : ByteArray) ([] : List Int) ([] : List Int) a1).bind fun t483 => (if t483 = 0 then ((find_Index_Find.f (⟨#[]⟩ : ByteArray) ([] : List Int) ([] : List Int) a1).bind fun t484 => (if (t484.length : Int) = 0 then (if t471.toList = ([] : List UInt8) then (if t472 = 0 then (if t473 = 6 then ((find_Index_Distinct.f k (⟨#[]⟩ : ByteArray) ([] : List Int) ([] : List Int)).bind fun t487 => (if t487 = 0 then (if t474 = 0 then (silversidelaw07_FindZero.j0 k a0 (t475 != 2)) else (silversidelaw07_FindZero.j0 k a0 true)) else (silversidelaw07_FindZero.j0 k a0 true))) else (silversidelaw07_FindZero.j0 k a0 true)) else (silversidelaw07_FindZero.j0 k a0 true)) else (silversidelaw07_FindZero.j0 k a0 true)) else (silversidelaw07_FindZero.j0 k a0 true))) else (silversidelaw07_FindZero.j0 k a0 true))) else (silversidelaw07_FindZero.j0 k a0 true))) else (silversidelaw07_FindZero.j0 k a0 true))) else (silversidelaw07_FindZero.j0 k a0 true))) = some r := H
 have A5 := Aside0.mk A50
 clear A50
 have HC6 := Aside0.mk H
 clear H
 go_enter Try.func15, Try.ntmps15
 go_upto_region 4 with (first | ((with_reducible refine gate_dst (N := 7) rfl ?_); (try (refine gate_guard (by rfl) ?_; dsimp only)); refine box_event ?hg (N := 7) ?hd (cs := #[.string (⟨#[]⟩ : ByteArray), .slice none 0 0, .slice none 0 0]) (t := 24) ?hr ?_; (case hd => rfl); (case hg => rfl); (case hr => first | (go_simp; done) | (go_simp; rfl)); intro gb470 hg w7 hbox hb; have n0_ := Aside0.mk (below_step (by repeat (first | (with_reducible first | exact HB.out | apply lA | apply lN | apply lD) | exact HB.out)) hb); have n1_ := Aside0.mk (hbox); have n2_ := Aside0.mk ((by rw [hg]; exact (below_size (by repeat (first | (with_reducible first | exact HB.out | apply lA | apply lN | apply lD) | exact HB.out))) : w.heap.size ≤ gb470)); have n3_ := Aside0.mk ((by rw [hg]; exact (below_size (by repeat (first | (with_reducible first | exact HB.out | apply lA | apply lN | apply lD) | exact HB.out))) : w.heap.size ≤ gb470)); clear HB; have HB := n0_; have BK470 := n1_; have GW470 := n2_; have GE470 := n3_; clear n0_ n1_ n2_ n3_; clear hb hbox hg; have hcz8_0 : w7.cell? ⟨gb470, 0, none⟩ = some (.string (⟨#[]⟩ : ByteArray)) := (blk_cell BK470.out 0).trans rfl; have hcz8_1 : w7.cell? ⟨gb470, 1, none⟩ = some (.slice none 0 0) := (blk_cell BK470.out 1).trans rfl; have hcz8_2 : w7.cell? ⟨gb470, 2, none⟩ = some (.slice none 0 0) := (blk_cell BK470.out 2).trans rfl; have hfz8_0 := blk_frozen BK470.out 0; have hfz8_1 := blk_frozen BK470.out 1; have hfz8_2 := blk_frozen BK470.out 2) | ((with_reducible refine gate_callee (f := 17) rfl ?_); refine goesL_ (some 24) rfl rfl Try.func17 (by kernel_rfl) rfl #[.agg #[.string (⟨#[]⟩ : ByteArray), .slice none 0 0, .slice none 0 0]] rfl (by (try simp only [List.map_toArray, List.map_cons, List.map_nil]); first | done | rfl | (simp only [List.length_drop, List.length_take]; rfl)) ?_; (refine (find_Index_Repeat.calls k (⟨#[]⟩ : ByteArray) _ _ ([] : List Int) _ _ ([] : List Int) t471 t472 t473 _ ?side1 ?side2 ?side3 ?side4 A4.out).mono ?_); (case side1 => exact Kd.C_nil _ _); (case side2 => exact Nat.le_refl _); (case side3 => exact Kd.C_nil _ _); (case side4 => exact Nat.le_refl _); rintro e w9 ⟨rfl, hb⟩; refine ⟨_, rfl, ?_⟩; have n0_ := Aside0.mk (blk_below (g := gb470) (o := .cells #[.string (⟨#[]⟩ : ByteArray), .slice none 0 0, .slice none 0 0] 24 (0, 0)) (kX BK470.out) hb); have n1_ := Aside0.mk (below_step (by repeat (first | (with_reducible first | exact HB.out | apply lA | apply lN | apply lD | refine lS ?_ GE470.out) | exact HB.out)) hb); clear BK470; clear HB; have BK470 := n0_; have HB := n1_; clear n0_ n1_; (try clear hb); (try clear hb2); (try clear hk); (try clear hi); have hcz10_0 : w9.cell? ⟨gb470, 0, none⟩ = some (.string (⟨#[]⟩ : ByteArray)) := (blk_cell BK470.out 0).trans rfl; have hcz10_1 : w9.cell? ⟨gb470, 1, none⟩ = some (.slice none 0 0) := (blk_cell BK470.out 1).trans rfl; have hcz10_2 : w9.cell? ⟨gb470, 2, none⟩ = some (.slice none 0 0) := (blk_cell BK470.out 2).trans rfl; have hfz10_0 := blk_frozen BK470.out 0; have hfz10_1 := blk_frozen BK470.out 1; have hfz10_2 := blk_frozen BK470.out 2) | ((with_reducible refine gate_callee (f := 35) rfl ?_); refine goesL_ (some 31) rfl rfl Try.func35 (by kernel_rfl) rfl #[.agg #[.string (⟨#[]⟩ : ByteArray), .slice none 0 0, .slice none 0 0], .int .i64 a2] rfl (by (try simp only [List.map_toArray, List.map_cons, List.map_nil]); first | done | rfl | (simp only [List.length_drop, List.length_take]; rfl)) ?_; (refine (find_Index_Shortest.calls k (⟨#[]⟩ : ByteArray) _ _ ([] : List Int) _ _ ([] : List Int) a2 t474 t475 _ ?side1 ?side2 ?side3 ?side4 A5.out).mono ?_); (case side1 => exact Kd.C_nil _ _); (case side2 => exact Nat.le_refl _); (case side3 => exact Kd.C_nil _ _); (case side4 => exact Nat.le_refl _); rintro e w11 ⟨rfl, hb⟩; refine ⟨_, rfl, ?_⟩; have n0_ := Aside0.mk (blk_below (g := gb470) (o := .cells #[.string (⟨#[]⟩ : ByteArray), .slice none 0 0, .slice none 0 0] 24 (0, 0)) (kX BK470.out) hb); have n1_ := Aside0.mk (below_step (by repeat (first | (with_reducible first | exact HB.out | apply lA | apply lN | apply lD | refine lS ?_ GE470.out) | exact HB.out)) hb); clear BK470; clear HB; have BK470 := n0_; have HB := n1_; clear n0_ n1_; (try clear hb); (try clear hb2); (try clear hk); (try clear hi)))
 (try simp only [Act.put, sA, sB, sC])
 go_cut [86] (fun v86 wc => ∃ (kq : Nat) (x86_5 : Bool), v86 = .bool x86_5 ∧ Aside0 (silversidelaw07_FindZero.j0 kq a0 x86_5 = some r) ∧ Aside0 (kq ≤ k) ∧ Aside0 (wc.heap[gb470]? = some (.cells #[.string (⟨#[]⟩ : ByteArray), (.slice none 0 0), (.slice none 0 0)] 24 (0, 0))) ∧ Aside0 (Below w.heap.size w wc))
 case first =>
  have H := HC6.out
  clear HC6
  replace H := Option.bind_eq_some_iff.mp H
  obtain ⟨t476, A120, H⟩ := H
  replace H : (if t476.toList = ([] : List UInt8) then ((find_Index_Order.f (⟨#[]⟩ : ByteArray) ([] : List Int) ([] : List Int)).bind fun t477 => (if (t477.length : Int) = 0 then ((find_Index_Overlaps.f (⟨#[]⟩ : ByteArray) ([] : List Int) ([] : List Int)).bind fun t480 => (if (t480.length : Int) = 0 then ((find_Index_Count.f (⟨#[]⟩ : ByteArray) ([] : List Int) ([] : List Int) a1).bind fun t483 => (if t483 = 0 then ((find_Index_Find.f (⟨#[]⟩ : ByteArray) ([] : List Int) ([] : List Int) a1).bind fun t484 => (if (t484.length : Int) = 0 then (if t471.toList = ([] : List UInt8) then (if t472 = 0 then (if t473 = 6 then ((find_Index_Distinct.f k (⟨#[]⟩ : ByteArray) ([] : List Int) ([] : List Int)).bind fun t487 => (if t487 = 0 then (if t474 = 0 then (silversidelaw07_FindZero.j0 k a0 (t475 != 2)) else (silversidelaw07_FindZero.j0 k a0 true)) else (silversidelaw07_FindZero.j0 k a0 true))) else (silversidelaw07_FindZero.j0 k a0 true)) else (silversidelaw07_FindZero.j0 k a0 true)) else (silversidelaw07_FindZero.j0 k a0 true)) else (silversidelaw07_FindZero.j0 k a0 true))) else (silversidelaw07_FindZero.j0 k a0 true))) else (silversidelaw07_FindZero.j0 k a0 true))) else (silversidelaw07_FindZero.j0 k a0 true))) else (silversidelaw07_FindZero.j0 k a0 true)) = some r := H
  have A12 := Aside0.mk A120
  clear A120
  by_cases c13 : t476.toList = ([] : List UInt8)
  ·rw [if_pos c13] at H
   have c13b0 : (t476.toList == ([] : List UInt8)) = true := beq_iff_eq.mpr c13
   have c13b1 : (t476.toList != ([] : List UInt8)) = false := bne_eq_false_iff_eq.mpr c13
   clear c13
   (first | rw [c13b0] | (simp only [i64_w, i32_w]; rw [c13b0]) | rw [c13b1] | skip)
   replace H := Option.bind_eq_some_iff.mp H
   obtain ⟨t477, A140, H⟩ := H
   replace H : (if (t477.length : Int) = 0 then ((find_Index_Overlaps.f (⟨#[]⟩ : ByteArray) ([] : List Int) ([] : List Int)).bind fun t480 => (if (t480.length : Int) = 0 then ((find_Index_Count.f (⟨#[]⟩ : ByteArray) ([] : List Int) ([] : List Int) a1).bind fun t483 => (if t483 = 0 then ((find_Index_Find.f (⟨#[]⟩ : ByteArray) ([] : List Int) ([] : List Int) a1).bind fun t484 => (if (t484.length : Int) = 0 then (if t471.toList = ([] : List UInt8) then (if t472 = 0 then (if t473 = 6 then ((find_Index_Distinct.f k (⟨#[]⟩ : ByteArray) ([] : List Int) ([] : List Int)).bind fun t487 => (if t487 = 0 then (if t474 = 0 then (silversidelaw07_FindZero.j0 k a0 (t475 != 2)) else (silversidelaw07_FindZero.j0 k a0 true)) else (silversidelaw07_FindZero.j0 k a0 true))) else (silversidelaw07_FindZero.j0 k a0 true)) else (silversidelaw07_FindZero.j0 k a0 true)) else (silversidelaw07_FindZero.j0 k a0 true)) else (silversidelaw07_FindZero.j0 k a0 true))) else (silversidelaw07_FindZero.j0 k a0 true))) else (silversidelaw07_FindZero.j0 k a0 true))) else (silversidelaw07_FindZero.j0 k a0 true)) = some r := H
   have A14 := Aside0.mk A140
   clear A140
   by_cases c15 : (t477.length : Int) = 0
   ·rw [if_pos c15] at H
    have c15b0 : ((t477.length : Int) == 0) = true := beq_iff_eq.mpr c15
    have c15b1 : ((t477.length : Int) != 0) = false := bne_eq_false_iff_eq.mpr c15
    clear c15
    replace H := Option.bind_eq_some_iff.mp H
    obtain ⟨t480, A160, H⟩ := H
    replace H : (if (t480.length : Int) = 0 then ((find_Index_Count.f (⟨#[]⟩ : ByteArray) ([] : List Int) ([] : List Int) a1).bind fun t483 => (if t483 = 0 then ((find_Index_Find.f (⟨#[]⟩ : ByteArray) ([] : List Int) ([] : List Int) a1).bind fun t484 => (if (t484.length : Int) = 0 then (if t471.toList = ([] : List UInt8) then (if t472 = 0 then (if t473 = 6 then ((find_Index_Distinct.f k (⟨#[]⟩ : ByteArray) ([] : List Int) ([] : List Int)).bind fun t487 => (if t487 = 0 then (if t474 = 0 then (silversidelaw07_FindZero.j0 k a0 (t475 != 2)) else (silversidelaw07_FindZero.j0 k a0 true)) else (silversidelaw07_FindZero.j0 k a0 true))) else (silversidelaw07_FindZero.j0 k a0 true)) else (silversidelaw07_FindZero.j0 k a0 true)) else (silversidelaw07_FindZero.j0 k a0 true)) else (silversidelaw07_FindZero.j0 k a0 true))) else (silversidelaw07_FindZero.j0 k a0 true))) else (silversidelaw07_FindZero.j0 k a0 true)) = some r := H
    have A16 := Aside0.mk A160
    clear A160
    by_cases c17 : (t480.length : Int) = 0
    ·rw [if_pos c17] at H
     have c17b0 : ((t480.length : Int) == 0) = true := beq_iff_eq.mpr c17
     have c17b1 : ((t480.length : Int) != 0) = false := bne_eq_false_iff_eq.mpr c17
     clear c17
     replace H := Option.bind_eq_some_iff.mp H
     obtain ⟨t483, A180, H⟩ := H
     replace H : (if t483 = 0 then ((find_Index_Find.f (⟨#[]⟩ : ByteArray) ([] : List Int) ([] : List Int) a1).bind fun t484 => (if (t484.length : Int) = 0 then (if t471.toList = ([] : List UInt8) then (if t472 = 0 then (if t473 = 6 then ((find_Index_Distinct.f k (⟨#[]⟩ : ByteArray) ([] : List Int) ([] : List Int)).bind fun t487 => (if t487 = 0 then (if t474 = 0 then (silversidelaw07_FindZero.j0 k a0 (t475 != 2)) else (silversidelaw07_FindZero.j0 k a0 true)) else (silversidelaw07_FindZero.j0 k a0 true))) else (silversidelaw07_FindZero.j0 k a0 true)) else (silversidelaw07_FindZero.j0 k a0 true)) else (silversidelaw07_FindZero.j0 k a0 true)) else (silversidelaw07_FindZero.j0 k a0 true))) else (silversidelaw07_FindZero.j0 k a0 true)) = some r := H
     have A18 := Aside0.mk A180
     clear A180
     by_cases c19 : t483 = 0
     ·rw [if_pos c19] at H
      have c19b0 : (t483 == 0) = true := beq_iff_eq.mpr c19
      have c19b1 : (t483 != 0) = false := bne_eq_false_iff_eq.mpr c19
      clear c19
      replace H := Option.bind_eq_some_iff.mp H
      obtain ⟨t484, A200, H⟩ := H
      replace H : (if (t484.length : Int) = 0 then (if t471.toList = ([] : List UInt8) then (if t472 = 0 then (if t473 = 6 then ((find_Index_Distinct.f k (⟨#[]⟩ : ByteArray) ([] : List Int) ([] : List Int)).bind fun t487 => (if t487 = 0 then (if t474 = 0 then (silversidelaw07_FindZero.j0 k a0 (t475 != 2)) else (silversidelaw07_FindZero.j0 k a0 true)) else (silversidelaw07_FindZero.j0 k a0 true))) else (silversidelaw07_FindZero.j0 k a0 true)) else (silversidelaw07_FindZero.j0 k a0 true)) else (silversidelaw07_FindZero.j0 k a0 true)) else (silversidelaw07_FindZero.j0 k a0 true)) = some r := H
      have A20 := Aside0.mk A200
      clear A200
      by_cases c21 : (t484.length : Int) = 0
      ·rw [if_pos c21] at H
       have c21b0 : ((t484.length : Int) == 0) = true := beq_iff_eq.mpr c21
       have c21b1 : ((t484.length : Int) != 0) = false := bne_eq_false_iff_eq.mpr c21
       clear c21
       by_cases c22 : t471.toList = ([] : List UInt8)
       ·rw [if_pos c22] at H
        have c22b0 : (t471.toList == ([] : List UInt8)) = true := beq_iff_eq.mpr c22
        have c22b1 : (t471.toList != ([] : List UInt8)) = false := bne_eq_false_iff_eq.mpr c22
        clear c22
        by_cases c23 : t472 = 0
        ·rw [if_pos c23] at H
         have c23b0 : (t472 == 0) = true := beq_iff_eq.mpr c23
         have c23b1 : (t472 != 0) = false := bne_eq_false_iff_eq.mpr c23
         clear c23
         by_cases c24 : t473 = 6
         ·rw [if_pos c24] at H
          have c24b0 : (t473 == 6) = true := beq_iff_eq.mpr c24
          have c24b1 : (t473 != 6) = false := bne_eq_false_iff_eq.mpr c24
          clear c24
          replace H := Option.bind_eq_some_iff.mp H
          obtain ⟨t487, A250, H⟩ := H
          replace H : (if t487 = 0 then (if t474 = 0 then (silversidelaw07_FindZero.j0 k a0 (t475 != 2)) else (silversidelaw07_FindZero.j0 k a0 true)) else (silversidelaw07_FindZero.j0 k a0 true)) = some r := H
          have A25 := Aside0.mk A250
          clear A250
          by_cases c26 : t487 = 0
          ·rw [if_pos c26] at H
           have c26b0 : (t487 == 0) = true := beq_iff_eq.mpr c26
           have c26b1 : (t487 != 0) = false := bne_eq_false_iff_eq.mpr c26
           clear c26
           by_cases c27 : t474 = 0
           ·rw [if_pos c27] at H
            have c27b0 : (t474 == 0) = true := beq_iff_eq.mpr c27
            have c27b1 : (t474 != 0) = false := bne_eq_false_iff_eq.mpr c27
            clear c27
            have H' := Aside0.mk H
            clear H
            have hcz28_0 : w11.cell? ⟨gb470, 0, none⟩ = some (.string (⟨#[]⟩ : ByteArray)) := (blk_cell BK470.out 0).trans rfl
            have hcz28_1 : w11.cell? ⟨gb470, 1, none⟩ = some (.slice none 0 0) := (blk_cell BK470.out 1).trans rfl
            have hcz28_2 : w11.cell? ⟨gb470, 2, none⟩ = some (.slice none 0 0) := (blk_cell BK470.out 2).trans rfl
            have hfz28_0 := blk_frozen BK470.out 0
            have hfz28_1 := blk_frozen BK470.out 1
            have hfz28_2 := blk_frozen BK470.out 2
            go_wp2_with (first | ((with_reducible refine gate_callee (f := 30) rfl ?_); refine goesL_ (some 35) rfl rfl Try.func30 (by kernel_rfl) rfl #[.agg #[.string (⟨#[]⟩ : ByteArray), .slice none 0 0, .slice none 0 0]] rfl (by (try simp only [List.map_toArray, List.map_cons, List.map_nil]); first | done | rfl | (simp only [List.length_drop, List.length_take]; rfl)) ?_; (refine (find_Index_Text.calls (⟨#[]⟩ : ByteArray) _ _ ([] : List Int) _ _ ([] : List Int) t476 _ ?side1 ?side2 ?side3 ?side4 A12.out).mono ?_); (case side1 => exact Kd.C_nil _ _); (case side2 => exact Nat.le_refl _); (case side3 => exact Kd.C_nil _ _); (case side4 => exact Nat.le_refl _); rintro e w29 ⟨rfl, hb⟩; refine ⟨_, rfl, ?_⟩; have n0_ := Aside0.mk (blk_below (g := gb470) (o := .cells #[.string (⟨#[]⟩ : ByteArray), .slice none 0 0, .slice none 0 0] 24 (0, 0)) (kX BK470.out) hb); have n1_ := Aside0.mk (below_step (by repeat (first | (with_reducible first | exact HB.out | apply lA | apply lN | apply lD | refine lS ?_ GE470.out) | exact HB.out)) hb); clear BK470; clear HB; have BK470 := n0_; have HB := n1_; clear n0_ n1_; (try clear hb); (try clear hb2); (try clear hk); (try clear hi); have hcz30_0 : w29.cell? ⟨gb470, 0, none⟩ = some (.string (⟨#[]⟩ : ByteArray)) := (blk_cell BK470.out 0).trans rfl; have hcz30_1 : w29.cell? ⟨gb470, 1, none⟩ = some (.slice none 0 0) := (blk_cell BK470.out 1).trans rfl; have hcz30_2 : w29.cell? ⟨gb470, 2, none⟩ = some (.slice none 0 0) := (blk_cell BK470.out 2).trans rfl; have hfz30_0 := blk_frozen BK470.out 0; have hfz30_1 := blk_frozen BK470.out 1; have hfz30_2 := blk_frozen BK470.out 2) | (go_at_call 31; (refine (find_Index_Order.calls (⟨#[]⟩ : ByteArray) _ _ ([] : List Int) _ _ ([] : List Int) t477 _ ?side1 ?side2 ?side3 ?side4 A14.out).mono ?_); (case side1 => exact Kd.C_nil _ _); (case side2 => exact Nat.le_refl _); (case side3 => exact Kd.C_nil _ _); (case side4 => exact Nat.le_refl _); rintro e w31 ⟨v478, rfl, ho0, hb⟩; have n0_ := Aside0.mk (Kd.R_lower ho0 (below_size (by repeat (first | (with_reducible first | exact HB.out | apply lA | apply lN | apply lD | refine lS ?_ GE470.out) | exact HB.out)))); have n1_ := Aside0.mk (blk_below (g := gb470) (o := .cells #[.string (⟨#[]⟩ : ByteArray), .slice none 0 0, .slice none 0 0] 24 (0, 0)) (kX BK470.out) hb); have n2_ := Aside0.mk (below_step (by repeat (first | (with_reducible first | exact HB.out | apply lA | apply lN | apply lD | refine lS ?_ GE470.out) | exact HB.out)) hb); clear BK470; clear HB; have HO479 := n0_; have BK470 := n1_; have HB := n2_; clear n0_ n1_ n2_; (try clear hb); (try clear hb2); (try clear hk); (try clear hi); (try clear ho0); obtain ⟨Ao32, co32, eo32⟩ := Kd.R_slice HO479.out; subst eo32; have hcz33_0 : w31.cell? ⟨gb470, 0, none⟩ = some (.string (⟨#[]⟩ : ByteArray)) := (blk_cell BK470.out 0).trans rfl; have hcz33_1 : w31.cell? ⟨gb470, 1, none⟩ = some (.slice none 0 0) := (blk_cell BK470.out 1).trans rfl; have hcz33_2 : w31.cell? ⟨gb470, 2, none⟩ = some (.slice none 0 0) := (blk_cell BK470.out 2).trans rfl; have hfz33_0 := blk_frozen BK470.out 0; have hfz33_1 := blk_frozen BK470.out 1; have hfz33_2 := blk_frozen BK470.out 2) | (go_at_call 28; (refine (find_Index_Overlaps.calls (⟨#[]⟩ : ByteArray) _ _ ([] : List Int) _ _ ([] : List Int) t480 _ ?side1 ?side2 ?side3 ?side4 A16.out).mono ?_); (case side1 => exact Kd.C_nil _ _); (case side2 => exact Nat.le_refl _); (case side3 => exact Kd.C_nil _ _); (case side4 => exact Nat.le_refl _); rintro e w34 ⟨v481, rfl, ho0, hb⟩; have n0_ := Aside0.mk (Kd.R_elder' (by (with_reducible repeat (first | apply Kd.R_alloc | apply Kd.R_drewN | apply Kd.R_drew)); exact HO479.out) (Kd.R_base ho0) hb); have n1_ := Aside0.mk (Kd.R_lower (Kd.R_new' ho0 (Kd.R_lt (by (with_reducible repeat (first | apply Kd.R_alloc | apply Kd.R_drewN | apply Kd.R_drew)); exact HO479.out))) (below_size (by repeat (first | (with_reducible first | exact HB.out | apply lA | apply lN | apply lD | refine lS ?_ GE470.out) | exact HB.out)))); have n2_ := Aside0.mk (blk_below (g := gb470) (o := .cells #[.string (⟨#[]⟩ : ByteArray), .slice none 0 0, .slice none 0 0] 24 (0, 0)) (kX BK470.out) hb); have n3_ := Aside0.mk (below_step (by repeat (first | (with_reducible first | exact HB.out | apply lA | apply lN | apply lD | refine lS ?_ GE470.out) | exact HB.out)) hb); clear HO479; clear BK470; clear HB; have HO479 := n0_; have HO482 := n1_; have BK470 := n2_; have HB := n3_; clear n0_ n1_ n2_ n3_; (try clear hb); (try clear hb2); (try clear hk); (try clear hi); (try clear ho0); obtain ⟨Ao35, co35, eo35⟩ := Kd.R_slice HO482.out; subst eo35; have hcz36_0 : w34.cell? ⟨gb470, 0, none⟩ = some (.string (⟨#[]⟩ : ByteArray)) := (blk_cell BK470.out 0).trans rfl; have hcz36_1 : w34.cell? ⟨gb470, 1, none⟩ = some (.slice none 0 0) := (blk_cell BK470.out 1).trans rfl; have hcz36_2 : w34.cell? ⟨gb470, 2, none⟩ = some (.slice none 0 0) := (blk_cell BK470.out 2).trans rfl; have hfz36_0 := blk_frozen BK470.out 0; have hfz36_1 := blk_frozen BK470.out 1; have hfz36_2 := blk_frozen BK470.out 2) | (go_at_call 29; (refine (find_Index_Count.calls (⟨#[]⟩ : ByteArray) _ _ ([] : List Int) _ _ ([] : List Int) a1 t483 _ ?side1 ?side2 ?side3 ?side4 A18.out).mono ?_); (case side1 => exact Kd.C_nil _ _); (case side2 => exact Nat.le_refl _); (case side3 => exact Kd.C_nil _ _); (case side4 => exact Nat.le_refl _); rintro e w37 ⟨rfl, hb⟩; have n0_ := Aside0.mk (Kd.R_below (by (with_reducible repeat (first | apply Kd.R_alloc | apply Kd.R_drewN | apply Kd.R_drew)); exact HO479.out) hb); have n1_ := Aside0.mk (Kd.R_below (by (with_reducible repeat (first | apply Kd.R_alloc | apply Kd.R_drewN | apply Kd.R_drew)); exact HO482.out) hb); have n2_ := Aside0.mk (blk_below (g := gb470) (o := .cells #[.string (⟨#[]⟩ : ByteArray), .slice none 0 0, .slice none 0 0] 24 (0, 0)) (kX BK470.out) hb); have n3_ := Aside0.mk (below_step (by repeat (first | (with_reducible first | exact HB.out | apply lA | apply lN | apply lD | refine lS ?_ GE470.out) | exact HB.out)) hb); clear HO479; clear HO482; clear BK470; clear HB; have HO479 := n0_; have HO482 := n1_; have BK470 := n2_; have HB := n3_; clear n0_ n1_ n2_ n3_; (try clear hb); (try clear hb2); (try clear hk); (try clear hi); have hcz38_0 : w37.cell? ⟨gb470, 0, none⟩ = some (.string (⟨#[]⟩ : ByteArray)) := (blk_cell BK470.out 0).trans rfl; have hcz38_1 : w37.cell? ⟨gb470, 1, none⟩ = some (.slice none 0 0) := (blk_cell BK470.out 1).trans rfl; have hcz38_2 : w37.cell? ⟨gb470, 2, none⟩ = some (.slice none 0 0) := (blk_cell BK470.out 2).trans rfl; have hfz38_0 := blk_frozen BK470.out 0; have hfz38_1 := blk_frozen BK470.out 1; have hfz38_2 := blk_frozen BK470.out 2) | (go_at_call 38; (refine (find_Index_Find.calls (⟨#[]⟩ : ByteArray) _ _ ([] : List Int) _ _ ([] : List Int) a1 t484 _ ?side1 ?side2 ?side3 ?side4 A20.out).mono ?_); (case side1 => exact Kd.C_nil _ _); (case side2 => exact Nat.le_refl _); (case side3 => exact Kd.C_nil _ _); (case side4 => exact Nat.le_refl _); rintro e w39 ⟨v485, rfl, ho0, hb⟩; have n0_ := Aside0.mk (Kd.R_elder' (by (with_reducible repeat (first | apply Kd.R_alloc | apply Kd.R_drewN | apply Kd.R_drew)); exact HO479.out) (Kd.R_base ho0) hb); have n1_ := Aside0.mk (Kd.R_elder' (by (with_reducible repeat (first | apply Kd.R_alloc | apply Kd.R_drewN | apply Kd.R_drew)); exact HO482.out) (Kd.R_base ho0) hb); have n2_ := Aside0.mk (Kd.R_lower (Kd.R_new' (Kd.R_new' ho0 (Kd.R_lt (by (with_reducible repeat (first | apply Kd.R_alloc | apply Kd.R_drewN | apply Kd.R_drew)); exact HO479.out))) (Kd.R_lt (by (with_reducible repeat (first | apply Kd.R_alloc | apply Kd.R_drewN | apply Kd.R_drew)); exact HO482.out))) (below_size (by repeat (first | (with_reducible first | exact HB.out | apply lA | apply lN | apply lD | refine lS ?_ GE470.out) | exact HB.out)))); have n3_ := Aside0.mk (blk_below (g := gb470) (o := .cells #[.string (⟨#[]⟩ : ByteArray), .slice none 0 0, .slice none 0 0] 24 (0, 0)) (kX BK470.out) hb); have n4_ := Aside0.mk (below_step (by repeat (first | (with_reducible first | exact HB.out | apply lA | apply lN | apply lD | refine lS ?_ GE470.out) | exact HB.out)) hb); clear HO479; clear HO482; clear BK470; clear HB; have HO479 := n0_; have HO482 := n1_; have HO486 := n2_; have BK470 := n3_; have HB := n4_; clear n0_ n1_ n2_ n3_ n4_; (try clear hb); (try clear hb2); (try clear hk); (try clear hi); (try clear ho0); obtain ⟨Ao40, co40, eo40⟩ := Kd.R_slice HO486.out; subst eo40; have hcz41_0 : w39.cell? ⟨gb470, 0, none⟩ = some (.string (⟨#[]⟩ : ByteArray)) := (blk_cell BK470.out 0).trans rfl; have hcz41_1 : w39.cell? ⟨gb470, 1, none⟩ = some (.slice none 0 0) := (blk_cell BK470.out 1).trans rfl; have hcz41_2 : w39.cell? ⟨gb470, 2, none⟩ = some (.slice none 0 0) := (blk_cell BK470.out 2).trans rfl; have hfz41_0 := blk_frozen BK470.out 0; have hfz41_1 := blk_frozen BK470.out 1; have hfz41_2 := blk_frozen BK470.out 2) | (go_at_call 19; (refine (find_Index_Distinct.calls k (⟨#[]⟩ : ByteArray) _ _ ([] : List Int) _ _ ([] : List Int) t487 _ ?side1 ?side2 ?side3 ?side4 A25.out).mono ?_); (case side1 => exact Kd.C_nil _ _); (case side2 => exact Nat.le_refl _); (case side3 => exact Kd.C_nil _ _); (case side4 => exact Nat.le_refl _); rintro e w42 ⟨rfl, hb⟩; have n0_ := Aside0.mk (Kd.R_below (by (with_reducible repeat (first | apply Kd.R_alloc | apply Kd.R_drewN | apply Kd.R_drew)); exact HO479.out) hb); have n1_ := Aside0.mk (Kd.R_below (by (with_reducible repeat (first | apply Kd.R_alloc | apply Kd.R_drewN | apply Kd.R_drew)); exact HO482.out) hb); have n2_ := Aside0.mk (Kd.R_below (by (with_reducible repeat (first | apply Kd.R_alloc | apply Kd.R_drewN | apply Kd.R_drew)); exact HO486.out) hb); have n3_ := Aside0.mk (blk_below (g := gb470) (o := .cells #[.string (⟨#[]⟩ : ByteArray), .slice none 0 0, .slice none 0 0] 24 (0, 0)) (kX BK470.out) hb); have n4_ := Aside0.mk (below_step (by repeat (first | (with_reducible first | exact HB.out | apply lA | apply lN | apply lD | refine lS ?_ GE470.out) | exact HB.out)) hb); clear HO479; clear HO482; clear HO486; clear BK470; clear HB; have HO479 := n0_; have HO482 := n1_; have HO486 := n2_; have BK470 := n3_; have HB := n4_; clear n0_ n1_ n2_ n3_ n4_; (try clear hb); (try clear hb2); (try clear hk); (try clear hi)))
            go_meet
            case rel => exact ⟨_, ((t475 != 2)), (by first | rfl | (simp; done) | (simp [*]; done)), H', ⟨by first | omega | exact Nat.le_refl _⟩, ⟨by (with_reducible repeat (first | refine kN ?_ _ | refine kD ?_ | refine kA ?_ _)); exact BK470.out⟩, ⟨by repeat (first | (with_reducible first | exact HB.out | apply lA | apply lN | apply lD | refine lS ?_ GE470.out) | exact HB.out)⟩⟩
           rw [if_neg c27] at H
           have c27b0 : (t474 == 0) = false := beq_eq_false_iff_ne.mpr c27
           have c27b1 : (t474 != 0) = true := bne_iff_ne.mpr c27
           have H' := Aside0.mk H
           clear H
           have hcz43_0 : w11.cell? ⟨gb470, 0, none⟩ = some (.string (⟨#[]⟩ : ByteArray)) := (blk_cell BK470.out 0).trans rfl
           have hcz43_1 : w11.cell? ⟨gb470, 1, none⟩ = some (.slice none 0 0) := (blk_cell BK470.out 1).trans rfl
           have hcz43_2 : w11.cell? ⟨gb470, 2, none⟩ = some (.slice none 0 0) := (blk_cell BK470.out 2).trans rfl
           have hfz43_0 := blk_frozen BK470.out 0
           have hfz43_1 := blk_frozen BK470.out 1
           have hfz43_2 := blk_frozen BK470.out 2
           go_wp2_with (first | ((with_reducible refine gate_callee (f := 30) rfl ?_); refine goesL_ (some 35) rfl rfl Try.func30 (by kernel_rfl) rfl #[.agg #[.string (⟨#[]⟩ : ByteArray), .slice none 0 0, .slice none 0 0]] rfl (by (try simp only [List.map_toArray, List.map_cons, List.map_nil]); first | done | rfl | (simp only [List.length_drop, List.length_take]; rfl)) ?_; (refine (find_Index_Text.calls (⟨#[]⟩ : ByteArray) _ _ ([] : List Int) _ _ ([] : List Int) t476 _ ?side1 ?side2 ?side3 ?side4 A12.out).mono ?_); (case side1 => exact Kd.C_nil _ _); (case side2 => exact Nat.le_refl _); (case side3 => exact Kd.C_nil _ _); (case side4 => exact Nat.le_refl _); rintro e w44 ⟨rfl, hb⟩; refine ⟨_, rfl, ?_⟩; have n0_ := Aside0.mk (blk_below (g := gb470) (o := .cells #[.string (⟨#[]⟩ : ByteArray), .slice none 0 0, .slice none 0 0] 24 (0, 0)) (kX BK470.out) hb); have n1_ := Aside0.mk (below_step (by repeat (first | (with_reducible first | exact HB.out | apply lA | apply lN | apply lD | refine lS ?_ GE470.out) | exact HB.out)) hb); clear BK470; clear HB; have BK470 := n0_; have HB := n1_; clear n0_ n1_; (try clear hb); (try clear hb2); (try clear hk); (try clear hi); have hcz45_0 : w44.cell? ⟨gb470, 0, none⟩ = some (.string (⟨#[]⟩ : ByteArray)) := (blk_cell BK470.out 0).trans rfl; have hcz45_1 : w44.cell? ⟨gb470, 1, none⟩ = some (.slice none 0 0) := (blk_cell BK470.out 1).trans rfl; have hcz45_2 : w44.cell? ⟨gb470, 2, none⟩ = some (.slice none 0 0) := (blk_cell BK470.out 2).trans rfl; have hfz45_0 := blk_frozen BK470.out 0; have hfz45_1 := blk_frozen BK470.out 1; have hfz45_2 := blk_frozen BK470.out 2) | (go_at_call 31; (refine (find_Index_Order.calls (⟨#[]⟩ : ByteArray) _ _ ([] : List Int) _ _ ([] : List Int) t477 _ ?side1 ?side2 ?side3 ?side4 A14.out).mono ?_); (case side1 => exact Kd.C_nil _ _); (case side2 => exact Nat.le_refl _); (case side3 => exact Kd.C_nil _ _); (case side4 => exact Nat.le_refl _); rintro e w46 ⟨v478, rfl, ho0, hb⟩; have n0_ := Aside0.mk (Kd.R_lower ho0 (below_size (by repeat (first | (with_reducible first | exact HB.out | apply lA | apply lN | apply lD | refine lS ?_ GE470.out) | exact HB.out)))); have n1_ := Aside0.mk (blk_below (g := gb470) (o := .cells #[.string (⟨#[]⟩ : ByteArray), .slice none 0 0, .slice none 0 0] 24 (0, 0)) (kX BK470.out) hb); have n2_ := Aside0.mk (below_step (by repeat (first | (with_reducible first | exact HB.out | apply lA | apply lN | apply lD | refine lS ?_ GE470.out) | exact HB.out)) hb); clear BK470; clear HB; have HO479 := n0_; have BK470 := n1_; have HB := n2_; clear n0_ n1_ n2_; (try clear hb); (try clear hb2); (try clear hk); (try clear hi); (try clear ho0); obtain ⟨Ao47, co47, eo47⟩ := Kd.R_slice HO479.out; subst eo47; have hcz48_0 : w46.cell? ⟨gb470, 0, none⟩ = some (.string (⟨#[]⟩ : ByteArray)) := (blk_cell BK470.out 0).trans rfl; have hcz48_1 : w46.cell? ⟨gb470, 1, none⟩ = some (.slice none 0 0) := (blk_cell BK470.out 1).trans rfl; have hcz48_2 : w46.cell? ⟨gb470, 2, none⟩ = some (.slice none 0 0) := (blk_cell BK470.out 2).trans rfl; have hfz48_0 := blk_frozen BK470.out 0; have hfz48_1 := blk_frozen BK470.out 1; have hfz48_2 := blk_frozen BK470.out 2) | (go_at_call 28; (refine (find_Index_Overlaps.calls (⟨#[]⟩ : ByteArray) _ _ ([] : List Int) _ _ ([] : List Int) t480 _ ?side1 ?side2 ?side3 ?side4 A16.out).mono ?_); (case side1 => exact Kd.C_nil _ _); (case side2 => exact Nat.le_refl _); (case side3 => exact Kd.C_nil _ _); (case side4 => exact Nat.le_refl _); rintro e w49 ⟨v481, rfl, ho0, hb⟩; have n0_ := Aside0.mk (Kd.R_elder' (by (with_reducible repeat (first | apply Kd.R_alloc | apply Kd.R_drewN | apply Kd.R_drew)); exact HO479.out) (Kd.R_base ho0) hb); have n1_ := Aside0.mk (Kd.R_lower (Kd.R_new' ho0 (Kd.R_lt (by (with_reducible repeat (first | apply Kd.R_alloc | apply Kd.R_drewN | apply Kd.R_drew)); exact HO479.out))) (below_size (by repeat (first | (with_reducible first | exact HB.out | apply lA | apply lN | apply lD | refine lS ?_ GE470.out) | exact HB.out)))); have n2_ := Aside0.mk (blk_below (g := gb470) (o := .cells #[.string (⟨#[]⟩ : ByteArray), .slice none 0 0, .slice none 0 0] 24 (0, 0)) (kX BK470.out) hb); have n3_ := Aside0.mk (below_step (by repeat (first | (with_reducible first | exact HB.out | apply lA | apply lN | apply lD | refine lS ?_ GE470.out) | exact HB.out)) hb); clear HO479; clear BK470; clear HB; have HO479 := n0_; have HO482 := n1_; have BK470 := n2_; have HB := n3_; clear n0_ n1_ n2_ n3_; (try clear hb); (try clear hb2); (try clear hk); (try clear hi); (try clear ho0); obtain ⟨Ao50, co50, eo50⟩ := Kd.R_slice HO482.out; subst eo50; have hcz51_0 : w49.cell? ⟨gb470, 0, none⟩ = some (.string (⟨#[]⟩ : ByteArray)) := (blk_cell BK470.out 0).trans rfl; have hcz51_1 : w49.cell? ⟨gb470, 1, none⟩ = some (.slice none 0 0) := (blk_cell BK470.out 1).trans rfl; have hcz51_2 : w49.cell? ⟨gb470, 2, none⟩ = some (.slice none 0 0) := (blk_cell BK470.out 2).trans rfl; have hfz51_0 := blk_frozen BK470.out 0; have hfz51_1 := blk_frozen BK470.out 1; have hfz51_2 := blk_frozen BK470.out 2) | (go_at_call 29; (refine (find_Index_Count.calls (⟨#[]⟩ : ByteArray) _ _ ([] : List Int) _ _ ([] : List Int) a1 t483 _ ?side1 ?side2 ?side3 ?side4 A18.out).mono ?_); (case side1 => exact Kd.C_nil _ _); (case side2 => exact Nat.le_refl _); (case side3 => exact Kd.C_nil _ _); (case side4 => exact Nat.le_refl _); rintro e w52 ⟨rfl, hb⟩; have n0_ := Aside0.mk (Kd.R_below (by (with_reducible repeat (first | apply Kd.R_alloc | apply Kd.R_drewN | apply Kd.R_drew)); exact HO479.out) hb); have n1_ := Aside0.mk (Kd.R_below (by (with_reducible repeat (first | apply Kd.R_alloc | apply Kd.R_drewN | apply Kd.R_drew)); exact HO482.out) hb); have n2_ := Aside0.mk (blk_below (g := gb470) (o := .cells #[.string (⟨#[]⟩ : ByteArray), .slice none 0 0, .slice none 0 0] 24 (0, 0)) (kX BK470.out) hb); have n3_ := Aside0.mk (below_step (by repeat (first | (with_reducible first | exact HB.out | apply lA | apply lN | apply lD | refine lS ?_ GE470.out) | exact HB.out)) hb); clear HO479; clear HO482; clear BK470; clear HB; have HO479 := n0_; have HO482 := n1_; have BK470 := n2_; have HB := n3_; clear n0_ n1_ n2_ n3_; (try clear hb); (try clear hb2); (try clear hk); (try clear hi); have hcz53_0 : w52.cell? ⟨gb470, 0, none⟩ = some (.string (⟨#[]⟩ : ByteArray)) := (blk_cell BK470.out 0).trans rfl; have hcz53_1 : w52.cell? ⟨gb470, 1, none⟩ = some (.slice none 0 0) := (blk_cell BK470.out 1).trans rfl; have hcz53_2 : w52.cell? ⟨gb470, 2, none⟩ = some (.slice none 0 0) := (blk_cell BK470.out 2).trans rfl; have hfz53_0 := blk_frozen BK470.out 0; have hfz53_1 := blk_frozen BK470.out 1; have hfz53_2 := blk_frozen BK470.out 2) | (go_at_call 38; (refine (find_Index_Find.calls (⟨#[]⟩ : ByteArray) _ _ ([] : List Int) _ _ ([] : List Int) a1 t484 _ ?side1 ?side2 ?side3 ?side4 A20.out).mono ?_); (case side1 => exact Kd.C_nil _ _); (case side2 => exact Nat.le_refl _); (case side3 => exact Kd.C_nil _ _); (case side4 => exact Nat.le_refl _); rintro e w54 ⟨v485, rfl, ho0, hb⟩; have n0_ := Aside0.mk (Kd.R_elder' (by (with_reducible repeat (first | apply Kd.R_alloc | apply Kd.R_drewN | apply Kd.R_drew)); exact HO479.out) (Kd.R_base ho0) hb); have n1_ := Aside0.mk (Kd.R_elder' (by (with_reducible repeat (first | apply Kd.R_alloc | apply Kd.R_drewN | apply Kd.R_drew)); exact HO482.out) (Kd.R_base ho0) hb); have n2_ := Aside0.mk (Kd.R_lower (Kd.R_new' (Kd.R_new' ho0 (Kd.R_lt (by (with_reducible repeat (first | apply Kd.R_alloc | apply Kd.R_drewN | apply Kd.R_drew)); exact HO479.out))) (Kd.R_lt (by (with_reducible repeat (first | apply Kd.R_alloc | apply Kd.R_drewN | apply Kd.R_drew)); exact HO482.out))) (below_size (by repeat (first | (with_reducible first | exact HB.out | apply lA | apply lN | apply lD | refine lS ?_ GE470.out) | exact HB.out)))); have n3_ := Aside0.mk (blk_below (g := gb470) (o := .cells #[.string (⟨#[]⟩ : ByteArray), .slice none 0 0, .slice none 0 0] 24 (0, 0)) (kX BK470.out) hb); have n4_ := Aside0.mk (below_step (by repeat (first | (with_reducible first | exact HB.out | apply lA | apply lN | apply lD | refine lS ?_ GE470.out) | exact HB.out)) hb); clear HO479; clear HO482; clear BK470; clear HB; have HO479 := n0_; have HO482 := n1_; have HO486 := n2_; have BK470 := n3_; have HB := n4_; clear n0_ n1_ n2_ n3_ n4_; (try clear hb); (try clear hb2); (try clear hk); (try clear hi); (try clear ho0); obtain ⟨Ao55, co55, eo55⟩ := Kd.R_slice HO486.out; subst eo55; have hcz56_0 : w54.cell? ⟨gb470, 0, none⟩ = some (.string (⟨#[]⟩ : ByteArray)) := (blk_cell BK470.out 0).trans rfl; have hcz56_1 : w54.cell? ⟨gb470, 1, none⟩ = some (.slice none 0 0) := (blk_cell BK470.out 1).trans rfl; have hcz56_2 : w54.cell? ⟨gb470, 2, none⟩ = some (.slice none 0 0) := (blk_cell BK470.out 2).trans rfl; have hfz56_0 := blk_frozen BK470.out 0; have hfz56_1 := blk_frozen BK470.out 1; have hfz56_2 := blk_frozen BK470.out 2) | (go_at_call 19; (refine (find_Index_Distinct.calls k (⟨#[]⟩ : ByteArray) _ _ ([] : List Int) _ _ ([] : List Int) t487 _ ?side1 ?side2 ?side3 ?side4 A25.out).mono ?_); (case side1 => exact Kd.C_nil _ _); (case side2 => exact Nat.le_refl _); (case side3 => exact Kd.C_nil _ _); (case side4 => exact Nat.le_refl _); rintro e w57 ⟨rfl, hb⟩; have n0_ := Aside0.mk (Kd.R_below (by (with_reducible repeat (first | apply Kd.R_alloc | apply Kd.R_drewN | apply Kd.R_drew)); exact HO479.out) hb); have n1_ := Aside0.mk (Kd.R_below (by (with_reducible repeat (first | apply Kd.R_alloc | apply Kd.R_drewN | apply Kd.R_drew)); exact HO482.out) hb); have n2_ := Aside0.mk (Kd.R_below (by (with_reducible repeat (first | apply Kd.R_alloc | apply Kd.R_drewN | apply Kd.R_drew)); exact HO486.out) hb); have n3_ := Aside0.mk (blk_below (g := gb470) (o := .cells #[.string (⟨#[]⟩ : ByteArray), .slice none 0 0, .slice none 0 0] 24 (0, 0)) (kX BK470.out) hb); have n4_ := Aside0.mk (below_step (by repeat (first | (with_reducible first | exact HB.out | apply lA | apply lN | apply lD | refine lS ?_ GE470.out) | exact HB.out)) hb); clear HO479; clear HO482; clear HO486; clear BK470; clear HB; have HO479 := n0_; have HO482 := n1_; have HO486 := n2_; have BK470 := n3_; have HB := n4_; clear n0_ n1_ n2_ n3_ n4_; (try clear hb); (try clear hb2); (try clear hk); (try clear hi)))
           go_meet
           case rel => exact ⟨_, (true), (by first | rfl | (simp; done) | (simp [*]; done)), H', ⟨by first | omega | exact Nat.le_refl _⟩, ⟨by (with_reducible repeat (first | refine kN ?_ _ | refine kD ?_ | refine kA ?_ _)); exact BK470.out⟩, ⟨by repeat (first | (with_reducible first | exact HB.out | apply lA | apply lN | apply lD | refine lS ?_ GE470.out) | exact HB.out)⟩⟩
          rw [if_neg c26] at H
          have c26b0 : (t487 == 0) = false := beq_eq_false_iff_ne.mpr c26
          have c26b1 : (t487 != 0) = true := bne_iff_ne.mpr c26
          have H' := Aside0.mk H
          clear H
          have hcz58_0 : w11.cell? ⟨gb470, 0, none⟩ = some (.string (⟨#[]⟩ : ByteArray)) := (blk_cell BK470.out 0).trans rfl
          have hcz58_1 : w11.cell? ⟨gb470, 1, none⟩ = some (.slice none 0 0) := (blk_cell BK470.out 1).trans rfl
          have hcz58_2 : w11.cell? ⟨gb470, 2, none⟩ = some (.slice none 0 0) := (blk_cell BK470.out 2).trans rfl
          have hfz58_0 := blk_frozen BK470.out 0
          have hfz58_1 := blk_frozen BK470.out 1
          have hfz58_2 := blk_frozen BK470.out 2
          go_wp2_with (first | ((with_reducible refine gate_callee (f := 30) rfl ?_); refine goesL_ (some 35) rfl rfl Try.func30 (by kernel_rfl) rfl #[.agg #[.string (⟨#[]⟩ : ByteArray), .slice none 0 0, .slice none 0 0]] rfl (by (try simp only [List.map_toArray, List.map_cons, List.map_nil]); first | done | rfl | (simp only [List.length_drop, List.length_take]; rfl)) ?_; (refine (find_Index_Text.calls (⟨#[]⟩ : ByteArray) _ _ ([] : List Int) _ _ ([] : List Int) t476 _ ?side1 ?side2 ?side3 ?side4 A12.out).mono ?_); (case side1 => exact Kd.C_nil _ _); (case side2 => exact Nat.le_refl _); (case side3 => exact Kd.C_nil _ _); (case side4 => exact Nat.le_refl _); rintro e w59 ⟨rfl, hb⟩; refine ⟨_, rfl, ?_⟩; have n0_ := Aside0.mk (blk_below (g := gb470) (o := .cells #[.string (⟨#[]⟩ : ByteArray), .slice none 0 0, .slice none 0 0] 24 (0, 0)) (kX BK470.out) hb); have n1_ := Aside0.mk (below_step (by repeat (first | (with_reducible first | exact HB.out | apply lA | apply lN | apply lD | refine lS ?_ GE470.out) | exact HB.out)) hb); clear BK470; clear HB; have BK470 := n0_; have HB := n1_; clear n0_ n1_; (try clear hb); (try clear hb2); (try clear hk); (try clear hi); have hcz60_0 : w59.cell? ⟨gb470, 0, none⟩ = some (.string (⟨#[]⟩ : ByteArray)) := (blk_cell BK470.out 0).trans rfl; have hcz60_1 : w59.cell? ⟨gb470, 1, none⟩ = some (.slice none 0 0) := (blk_cell BK470.out 1).trans rfl; have hcz60_2 : w59.cell? ⟨gb470, 2, none⟩ = some (.slice none 0 0) := (blk_cell BK470.out 2).trans rfl; have hfz60_0 := blk_frozen BK470.out 0; have hfz60_1 := blk_frozen BK470.out 1; have hfz60_2 := blk_frozen BK470.out 2) | (go_at_call 31; (refine (find_Index_Order.calls (⟨#[]⟩ : ByteArray) _ _ ([] : List Int) _ _ ([] : List Int) t477 _ ?side1 ?side2 ?side3 ?side4 A14.out).mono ?_); (case side1 => exact Kd.C_nil _ _); (case side2 => exact Nat.le_refl _); (case side3 => exact Kd.C_nil _ _); (case side4 => exact Nat.le_refl _); rintro e w61 ⟨v478, rfl, ho0, hb⟩; have n0_ := Aside0.mk (Kd.R_lower ho0 (below_size (by repeat (first | (with_reducible first | exact HB.out | apply lA | apply lN | apply lD | refine lS ?_ GE470.out) | exact HB.out)))); have n1_ := Aside0.mk (blk_below (g := gb470) (o := .cells #[.string (⟨#[]⟩ : ByteArray), .slice none 0 0, .slice none 0 0] 24 (0, 0)) (kX BK470.out) hb); have n2_ := Aside0.mk (below_step (by repeat (first | (with_reducible first | exact HB.out | apply lA | apply lN | apply lD | refine lS ?_ GE470.out) | exact HB.out)) hb); clear BK470; clear HB; have HO479 := n0_; have BK470 := n1_; have HB := n2_; clear n0_ n1_ n2_; (try clear hb); (try clear hb2); (try clear hk); (try clear hi); (try clear ho0); obtain ⟨Ao62, co62, eo62⟩ := Kd.R_slice HO479.out; subst eo62; have hcz63_0 : w61.cell? ⟨gb470, 0, none⟩ = some (.string (⟨#[]⟩ : ByteArray)) := (blk_cell BK470.out 0).trans rfl; have hcz63_1 : w61.cell? ⟨gb470, 1, none⟩ = some (.slice none 0 0) := (blk_cell BK470.out 1).trans rfl; have hcz63_2 : w61.cell? ⟨gb470, 2, none⟩ = some (.slice none 0 0) := (blk_cell BK470.out 2).trans rfl; have hfz63_0 := blk_frozen BK470.out 0; have hfz63_1 := blk_frozen BK470.out 1; have hfz63_2 := blk_frozen BK470.out 2) | (go_at_call 28; (refine (find_Index_Overlaps.calls (⟨#[]⟩ : ByteArray) _ _ ([] : List Int) _ _ ([] : List Int) t480 _ ?side1 ?side2 ?side3 ?side4 A16.out).mono ?_); (case side1 => exact Kd.C_nil _ _); (case side2 => exact Nat.le_refl _); (case side3 => exact Kd.C_nil _ _); (case side4 => exact Nat.le_refl _); rintro e w64 ⟨v481, rfl, ho0, hb⟩; have n0_ := Aside0.mk (Kd.R_elder' (by (with_reducible repeat (first | apply Kd.R_alloc | apply Kd.R_drewN | apply Kd.R_drew)); exact HO479.out) (Kd.R_base ho0) hb); have n1_ := Aside0.mk (Kd.R_lower (Kd.R_new' ho0 (Kd.R_lt (by (with_reducible repeat (first | apply Kd.R_alloc | apply Kd.R_drewN | apply Kd.R_drew)); exact HO479.out))) (below_size (by repeat (first | (with_reducible first | exact HB.out | apply lA | apply lN | apply lD | refine lS ?_ GE470.out) | exact HB.out)))); have n2_ := Aside0.mk (blk_below (g := gb470) (o := .cells #[.string (⟨#[]⟩ : ByteArray), .slice none 0 0, .slice none 0 0] 24 (0, 0)) (kX BK470.out) hb); have n3_ := Aside0.mk (below_step (by repeat (first | (with_reducible first | exact HB.out | apply lA | apply lN | apply lD | refine lS ?_ GE470.out) | exact HB.out)) hb); clear HO479; clear BK470; clear HB; have HO479 := n0_; have HO482 := n1_; have BK470 := n2_; have HB := n3_; clear n0_ n1_ n2_ n3_; (try clear hb); (try clear hb2); (try clear hk); (try clear hi); (try clear ho0); obtain ⟨Ao65, co65, eo65⟩ := Kd.R_slice HO482.out; subst eo65; have hcz66_0 : w64.cell? ⟨gb470, 0, none⟩ = some (.string (⟨#[]⟩ : ByteArray)) := (blk_cell BK470.out 0).trans rfl; have hcz66_1 : w64.cell? ⟨gb470, 1, none⟩ = some (.slice none 0 0) := (blk_cell BK470.out 1).trans rfl; have hcz66_2 : w64.cell? ⟨gb470, 2, none⟩ = some (.slice none 0 0) := (blk_cell BK470.out 2).trans rfl; have hfz66_0 := blk_frozen BK470.out 0; have hfz66_1 := blk_frozen BK470.out 1; have hfz66_2 := blk_frozen BK470.out 2) | (go_at_call 29; (refine (find_Index_Count.calls (⟨#[]⟩ : ByteArray) _ _ ([] : List Int) _ _ ([] : List Int) a1 t483 _ ?side1 ?side2 ?side3 ?side4 A18.out).mono ?_); (case side1 => exact Kd.C_nil _ _); (case side2 => exact Nat.le_refl _); (case side3 => exact Kd.C_nil _ _); (case side4 => exact Nat.le_refl _); rintro e w67 ⟨rfl, hb⟩; have n0_ := Aside0.mk (Kd.R_below (by (with_reducible repeat (first | apply Kd.R_alloc | apply Kd.R_drewN | apply Kd.R_drew)); exact HO479.out) hb); have n1_ := Aside0.mk (Kd.R_below (by (with_reducible repeat (first | apply Kd.R_alloc | apply Kd.R_drewN | apply Kd.R_drew)); exact HO482.out) hb); have n2_ := Aside0.mk (blk_below (g := gb470) (o := .cells #[.string (⟨#[]⟩ : ByteArray), .slice none 0 0, .slice none 0 0] 24 (0, 0)) (kX BK470.out) hb); have n3_ := Aside0.mk (below_step (by repeat (first | (with_reducible first | exact HB.out | apply lA | apply lN | apply lD | refine lS ?_ GE470.out) | exact HB.out)) hb); clear HO479; clear HO482; clear BK470; clear HB; have HO479 := n0_; have HO482 := n1_; have BK470 := n2_; have HB := n3_; clear n0_ n1_ n2_ n3_; (try clear hb); (try clear hb2); (try clear hk); (try clear hi); have hcz68_0 : w67.cell? ⟨gb470, 0, none⟩ = some (.string (⟨#[]⟩ : ByteArray)) := (blk_cell BK470.out 0).trans rfl; have hcz68_1 : w67.cell? ⟨gb470, 1, none⟩ = some (.slice none 0 0) := (blk_cell BK470.out 1).trans rfl; have hcz68_2 : w67.cell? ⟨gb470, 2, none⟩ = some (.slice none 0 0) := (blk_cell BK470.out 2).trans rfl; have hfz68_0 := blk_frozen BK470.out 0; have hfz68_1 := blk_frozen BK470.out 1; have hfz68_2 := blk_frozen BK470.out 2) | (go_at_call 38; (refine (find_Index_Find.calls (⟨#[]⟩ : ByteArray) _ _ ([] : List Int) _ _ ([] : List Int) a1 t484 _ ?side1 ?side2 ?side3 ?side4 A20.out).mono ?_); (case side1 => exact Kd.C_nil _ _); (case side2 => exact Nat.le_refl _); (case side3 => exact Kd.C_nil _ _); (case side4 => exact Nat.le_refl _); rintro e w69 ⟨v485, rfl, ho0, hb⟩; have n0_ := Aside0.mk (Kd.R_elder' (by (with_reducible repeat (first | apply Kd.R_alloc | apply Kd.R_drewN | apply Kd.R_drew)); exact HO479.out) (Kd.R_base ho0) hb); have n1_ := Aside0.mk (Kd.R_elder' (by (with_reducible repeat (first | apply Kd.R_alloc | apply Kd.R_drewN | apply Kd.R_drew)); exact HO482.out) (Kd.R_base ho0) hb); have n2_ := Aside0.mk (Kd.R_lower (Kd.R_new' (Kd.R_new' ho0 (Kd.R_lt (by (with_reducible repeat (first | apply Kd.R_alloc | apply Kd.R_drewN | apply Kd.R_drew)); exact HO479.out))) (Kd.R_lt (by (with_reducible repeat (first | apply Kd.R_alloc | apply Kd.R_drewN | apply Kd.R_drew)); exact HO482.out))) (below_size (by repeat (first | (with_reducible first | exact HB.out | apply lA | apply lN | apply lD | refine lS ?_ GE470.out) | exact HB.out)))); have n3_ := Aside0.mk (blk_below (g := gb470) (o := .cells #[.string (⟨#[]⟩ : ByteArray), .slice none 0 0, .slice none 0 0] 24 (0, 0)) (kX BK470.out) hb); have n4_ := Aside0.mk (below_step (by repeat (first | (with_reducible first | exact HB.out | apply lA | apply lN | apply lD | refine lS ?_ GE470.out) | exact HB.out)) hb); clear HO479; clear HO482; clear BK470; clear HB; have HO479 := n0_; have HO482 := n1_; have HO486 := n2_; have BK470 := n3_; have HB := n4_; clear n0_ n1_ n2_ n3_ n4_; (try clear hb); (try clear hb2); (try clear hk); (try clear hi); (try clear ho0); obtain ⟨Ao70, co70, eo70⟩ := Kd.R_slice HO486.out; subst eo70; have hcz71_0 : w69.cell? ⟨gb470, 0, none⟩ = some (.string (⟨#[]⟩ : ByteArray)) := (blk_cell BK470.out 0).trans rfl; have hcz71_1 : w69.cell? ⟨gb470, 1, none⟩ = some (.slice none 0 0) := (blk_cell BK470.out 1).trans rfl; have hcz71_2 : w69.cell? ⟨gb470, 2, none⟩ = some (.slice none 0 0) := (blk_cell BK470.out 2).trans rfl; have hfz71_0 := blk_frozen BK470.out 0; have hfz71_1 := blk_frozen BK470.out 1; have hfz71_2 := blk_frozen BK470.out 2) | (go_at_call 19; (refine (find_Index_Distinct.calls k (⟨#[]⟩ : ByteArray) _ _ ([] : List Int) _ _ ([] : List Int) t487 _ ?side1 ?side2 ?side3 ?side4 A25.out).mono ?_); (case side1 => exact Kd.C_nil _ _); (case side2 => exact Nat.le_refl _); (case side3 => exact Kd.C_nil _ _); (case side4 => exact Nat.le_refl _); rintro e w72 ⟨rfl, hb⟩; have n0_ := Aside0.mk (Kd.R_below (by (with_reducible repeat (first | apply Kd.R_alloc | apply Kd.R_drewN | apply Kd.R_drew)); exact HO479.out) hb); have n1_ := Aside0.mk (Kd.R_below (by (with_reducible repeat (first | apply Kd.R_alloc | apply Kd.R_drewN | apply Kd.R_drew)); exact HO482.out) hb); have n2_ := Aside0.mk (Kd.R_below (by (with_reducible repeat (first | apply Kd.R_alloc | apply Kd.R_drewN | apply Kd.R_drew)); exact HO486.out) hb); have n3_ := Aside0.mk (blk_below (g := gb470) (o := .cells #[.string (⟨#[]⟩ : ByteArray), .slice none 0 0, .slice none 0 0] 24 (0, 0)) (kX BK470.out) hb); have n4_ := Aside0.mk (below_step (by repeat (first | (with_reducible first | exact HB.out | apply lA | apply lN | apply lD | refine lS ?_ GE470.out) | exact HB.out)) hb); clear HO479; clear HO482; clear HO486; clear BK470; clear HB; have HO479 := n0_; have HO482 := n1_; have HO486 := n2_; have BK470 := n3_; have HB := n4_; clear n0_ n1_ n2_ n3_ n4_; (try clear hb); (try clear hb2); (try clear hk); (try clear hi)))
          go_meet
          case rel => exact ⟨_, (true), (by first | rfl | (simp; done) | (simp [*]; done)), H', ⟨by first | omega | exact Nat.le_refl _⟩, ⟨by (with_reducible repeat (first | refine kN ?_ _ | refine kD ?_ | refine kA ?_ _)); exact BK470.out⟩, ⟨by repeat (first | (with_reducible first | exact HB.out | apply lA | apply lN | apply lD | refine lS ?_ GE470.out) | exact HB.out)⟩⟩
         rw [if_neg c24] at H
         have c24b0 : (t473 == 6) = false := beq_eq_false_iff_ne.mpr c24
         have c24b1 : (t473 != 6) = true := bne_iff_ne.mpr c24
         have H' := Aside0.mk H
         clear H
         have hcz73_0 : w11.cell? ⟨gb470, 0, none⟩ = some (.string (⟨#[]⟩ : ByteArray)) := (blk_cell BK470.out 0).trans rfl
         have hcz73_1 : w11.cell? ⟨gb470, 1, none⟩ = some (.slice none 0 0) := (blk_cell BK470.out 1).trans rfl
         have hcz73_2 : w11.cell? ⟨gb470, 2, none⟩ = some (.slice none 0 0) := (blk_cell BK470.out 2).trans rfl
         have hfz73_0 := blk_frozen BK470.out 0
         have hfz73_1 := blk_frozen BK470.out 1
         have hfz73_2 := blk_frozen BK470.out 2
         go_wp2_with (first | ((with_reducible refine gate_callee (f := 30) rfl ?_); refine goesL_ (some 35) rfl rfl Try.func30 (by kernel_rfl) rfl #[.agg #[.string (⟨#[]⟩ : ByteArray), .slice none 0 0, .slice none 0 0]] rfl (by (try simp only [List.map_toArray, List.map_cons, List.map_nil]); first | done | rfl | (simp only [List.length_drop, List.length_take]; rfl)) ?_; (refine (find_Index_Text.calls (⟨#[]⟩ : ByteArray) _ _ ([] : List Int) _ _ ([] : List Int) t476 _ ?side1 ?side2 ?side3 ?side4 A12.out).mono ?_); (case side1 => exact Kd.C_nil _ _); (case side2 => exact Nat.le_refl _); (case side3 => exact Kd.C_nil _ _); (case side4 => exact Nat.le_refl _); rintro e w74 ⟨rfl, hb⟩; refine ⟨_, rfl, ?_⟩; have n0_ := Aside0.mk (blk_below (g := gb470) (o := .cells #[.string (⟨#[]⟩ : ByteArray), .slice none 0 0, .slice none 0 0] 24 (0, 0)) (kX BK470.out) hb); have n1_ := Aside0.mk (below_step (by repeat (first | (with_reducible first | exact HB.out | apply lA | apply lN | apply lD | refine lS ?_ GE470.out) | exact HB.out)) hb); clear BK470; clear HB; have BK470 := n0_; have HB := n1_; clear n0_ n1_; (try clear hb); (try clear hb2); (try clear hk); (try clear hi); have hcz75_0 : w74.cell? ⟨gb470, 0, none⟩ = some (.string (⟨#[]⟩ : ByteArray)) := (blk_cell BK470.out 0).trans rfl; have hcz75_1 : w74.cell? ⟨gb470, 1, none⟩ = some (.slice none 0 0) := (blk_cell BK470.out 1).trans rfl; have hcz75_2 : w74.cell? ⟨gb470, 2, none⟩ = some (.slice none 0 0) := (blk_cell BK470.out 2).trans rfl; have hfz75_0 := blk_frozen BK470.out 0; have hfz75_1 := blk_frozen BK470.out 1; have hfz75_2 := blk_frozen BK470.out 2) | (go_at_call 31; (refine (find_Index_Order.calls (⟨#[]⟩ : ByteArray) _ _ ([] : List Int) _ _ ([] : List Int) t477 _ ?side1 ?side2 ?side3 ?side4 A14.out).mono ?_); (case side1 => exact Kd.C_nil _ _); (case side2 => exact Nat.le_refl _); (case side3 => exact Kd.C_nil _ _); (case side4 => exact Nat.le_refl _); rintro e w76 ⟨v478, rfl, ho0, hb⟩; have n0_ := Aside0.mk (Kd.R_lower ho0 (below_size (by repeat (first | (with_reducible first | exact HB.out | apply lA | apply lN | apply lD | refine lS ?_ GE470.out) | exact HB.out)))); have n1_ := Aside0.mk (blk_below (g := gb470) (o := .cells #[.string (⟨#[]⟩ : ByteArray), .slice none 0 0, .slice none 0 0] 24 (0, 0)) (kX BK470.out) hb); have n2_ := Aside0.mk (below_step (by repeat (first | (with_reducible first | exact HB.out | apply lA | apply lN | apply lD | refine lS ?_ GE470.out) | exact HB.out)) hb); clear BK470; clear HB; have HO479 := n0_; have BK470 := n1_; have HB := n2_; clear n0_ n1_ n2_; (try clear hb); (try clear hb2); (try clear hk); (try clear hi); (try clear ho0); obtain ⟨Ao77, co77, eo77⟩ := Kd.R_slice HO479.out; subst eo77; have hcz78_0 : w76.cell? ⟨gb470, 0, none⟩ = some (.string (⟨#[]⟩ : ByteArray)) := (blk_cell BK470.out 0).trans rfl; have hcz78_1 : w76.cell? ⟨gb470, 1, none⟩ = some (.slice none 0 0) := (blk_cell BK470.out 1).trans rfl; have hcz78_2 : w76.cell? ⟨gb470, 2, none⟩ = some (.slice none 0 0) := (blk_cell BK470.out 2).trans rfl; have hfz78_0 := blk_frozen BK470.out 0; have hfz78_1 := blk_frozen BK470.out 1; have hfz78_2 := blk_frozen BK470.out 2) | (go_at_call 28; (refine (find_Index_Overlaps.calls (⟨#[]⟩ : ByteArray) _ _ ([] : List Int) _ _ ([] : List Int) t480 _ ?side1 ?side2 ?side3 ?side4 A16.out).mono ?_); (case side1 => exact Kd.C_nil _ _); (case side2 => exact Nat.le_refl _); (case side3 => exact Kd.C_nil _ _); (case side4 => exact Nat.le_refl _); rintro e w79 ⟨v481, rfl, ho0, hb⟩; have n0_ := Aside0.mk (Kd.R_elder' (by (with_reducible repeat (first | apply Kd.R_alloc | apply Kd.R_drewN | apply Kd.R_drew)); exact HO479.out) (Kd.R_base ho0) hb); have n1_ := Aside0.mk (Kd.R_lower (Kd.R_new' ho0 (Kd.R_lt (by (with_reducible repeat (first | apply Kd.R_alloc | apply Kd.R_drewN | apply Kd.R_drew)); exact HO479.out))) (below_size (by repeat (first | (with_reducible first | exact HB.out | apply lA | apply lN | apply lD | refine lS ?_ GE470.out) | exact HB.out)))); have n2_ := Aside0.mk (blk_below (g := gb470) (o := .cells #[.string (⟨#[]⟩ : ByteArray), .slice none 0 0, .slice none 0 0] 24 (0, 0)) (kX BK470.out) hb); have n3_ := Aside0.mk (below_step (by repeat (first | (with_reducible first | exact HB.out | apply lA | apply lN | apply lD | refine lS ?_ GE470.out) | exact HB.out)) hb); clear HO479; clear BK470; clear HB; have HO479 := n0_; have HO482 := n1_; have BK470 := n2_; have HB := n3_; clear n0_ n1_ n2_ n3_; (try clear hb); (try clear hb2); (try clear hk); (try clear hi); (try clear ho0); obtain ⟨Ao80, co80, eo80⟩ := Kd.R_slice HO482.out; subst eo80; have hcz81_0 : w79.cell? ⟨gb470, 0, none⟩ = some (.string (⟨#[]⟩ : ByteArray)) := (blk_cell BK470.out 0).trans rfl; have hcz81_1 : w79.cell? ⟨gb470, 1, none⟩ = some (.slice none 0 0) := (blk_cell BK470.out 1).trans rfl; have hcz81_2 : w79.cell? ⟨gb470, 2, none⟩ = some (.slice none 0 0) := (blk_cell BK470.out 2).trans rfl; have hfz81_0 := blk_frozen BK470.out 0; have hfz81_1 := blk_frozen BK470.out 1; have hfz81_2 := blk_frozen BK470.out 2) | (go_at_call 29; (refine (find_Index_Count.calls (⟨#[]⟩ : ByteArray) _ _ ([] : List Int) _ _ ([] : List Int) a1 t483 _ ?side1 ?side2 ?side3 ?side4 A18.out).mono ?_); (case side1 => exact Kd.C_nil _ _); (case side2 => exact Nat.le_refl _); (case side3 => exact Kd.C_nil _ _); (case side4 => exact Nat.le_refl _); rintro e w82 ⟨rfl, hb⟩; have n0_ := Aside0.mk (Kd.R_below (by (with_reducible repeat (first | apply Kd.R_alloc | apply Kd.R_drewN | apply Kd.R_drew)); exact HO479.out) hb); have n1_ := Aside0.mk (Kd.R_below (by (with_reducible repeat (first | apply Kd.R_alloc | apply Kd.R_drewN | apply Kd.R_drew)); exact HO482.out) hb); have n2_ := Aside0.mk (blk_below (g := gb470) (o := .cells #[.string (⟨#[]⟩ : ByteArray), .slice none 0 0, .slice none 0 0] 24 (0, 0)) (kX BK470.out) hb); have n3_ := Aside0.mk (below_step (by repeat (first | (with_reducible first | exact HB.out | apply lA | apply lN | apply lD | refine lS ?_ GE470.out) | exact HB.out)) hb); clear HO479; clear HO482; clear BK470; clear HB; have HO479 := n0_; have HO482 := n1_; have BK470 := n2_; have HB := n3_; clear n0_ n1_ n2_ n3_; (try clear hb); (try clear hb2); (try clear hk); (try clear hi); have hcz83_0 : w82.cell? ⟨gb470, 0, none⟩ = some (.string (⟨#[]⟩ : ByteArray)) := (blk_cell BK470.out 0).trans rfl; have hcz83_1 : w82.cell? ⟨gb470, 1, none⟩ = some (.slice none 0 0) := (blk_cell BK470.out 1).trans rfl; have hcz83_2 : w82.cell? ⟨gb470, 2, none⟩ = some (.slice none 0 0) := (blk_cell BK470.out 2).trans rfl; have hfz83_0 := blk_frozen BK470.out 0; have hfz83_1 := blk_frozen BK470.out 1; have hfz83_2 := blk_frozen BK470.out 2) | (go_at_call 38; (refine (find_Index_Find.calls (⟨#[]⟩ : ByteArray) _ _ ([] : List Int) _ _ ([] : List Int) a1 t484 _ ?side1 ?side2 ?side3 ?side4 A20.out).mono ?_); (case side1 => exact Kd.C_nil _ _); (case side2 => exact Nat.le_refl _); (case side3 => exact Kd.C_nil _ _); (case side4 => exact Nat.le_refl _); rintro e w84 ⟨v485, rfl, ho0, hb⟩; have n0_ := Aside0.mk (Kd.R_elder' (by (with_reducible repeat (first | apply Kd.R_alloc | apply Kd.R_drewN | apply Kd.R_drew)); exact HO479.out) (Kd.R_base ho0) hb); have n1_ := Aside0.mk (Kd.R_elder' (by (with_reducible repeat (first | apply Kd.R_alloc | apply Kd.R_drewN | apply Kd.R_drew)); exact HO482.out) (Kd.R_base ho0) hb); have n2_ := Aside0.mk (Kd.R_lower (Kd.R_new' (Kd.R_new' ho0 (Kd.R_lt (by (with_reducible repeat (first | apply Kd.R_alloc | apply Kd.R_drewN | apply Kd.R_drew)); exact HO479.out))) (Kd.R_lt (by (with_reducible repeat (first | apply Kd.R_alloc | apply Kd.R_drewN | apply Kd.R_drew)); exact HO482.out))) (below_size (by repeat (first | (with_reducible first | exact HB.out | apply lA | apply lN | apply lD | refine lS ?_ GE470.out) | exact HB.out)))); have n3_ := Aside0.mk (blk_below (g := gb470) (o := .cells #[.string (⟨#[]⟩ : ByteArray), .slice none 0 0, .slice none 0 0] 24 (0, 0)) (kX BK470.out) hb); have n4_ := Aside0.mk (below_step (by repeat (first | (with_reducible first | exact HB.out | apply lA | apply lN | apply lD | refine lS ?_ GE470.out) | exact HB.out)) hb); clear HO479; clear HO482; clear BK470; clear HB; have HO479 := n0_; have HO482 := n1_; have HO486 := n2_; have BK470 := n3_; have HB := n4_; clear n0_ n1_ n2_ n3_ n4_; (try clear hb); (try clear hb2); (try clear hk); (try clear hi); (try clear ho0); obtain ⟨Ao85, co85, eo85⟩ := Kd.R_slice HO486.out; subst eo85))
         go_meet
         case rel => exact ⟨_, (true), (by first | rfl | (simp; done) | (simp [*]; done)), H', ⟨by first | omega | exact Nat.le_refl _⟩, ⟨by (with_reducible repeat (first | refine kN ?_ _ | refine kD ?_ | refine kA ?_ _)); exact BK470.out⟩, ⟨by repeat (first | (with_reducible first | exact HB.out | apply lA | apply lN | apply lD | refine lS ?_ GE470.out) | exact HB.out)⟩⟩
        rw [if_neg c23] at H
        have c23b0 : (t472 == 0) = false := beq_eq_false_iff_ne.mpr c23
        have c23b1 : (t472 != 0) = true := bne_iff_ne.mpr c23
        have H' := Aside0.mk H
        clear H
        have hcz86_0 : w11.cell? ⟨gb470, 0, none⟩ = some (.string (⟨#[]⟩ : ByteArray)) := (blk_cell BK470.out 0).trans rfl
        have hcz86_1 : w11.cell? ⟨gb470, 1, none⟩ = some (.slice none 0 0) := (blk_cell BK470.out 1).trans rfl
        have hcz86_2 : w11.cell? ⟨gb470, 2, none⟩ = some (.slice none 0 0) := (blk_cell BK470.out 2).trans rfl
        have hfz86_0 := blk_frozen BK470.out 0
        have hfz86_1 := blk_frozen BK470.out 1
        have hfz86_2 := blk_frozen BK470.out 2
        go_wp2_with (first | ((with_reducible refine gate_callee (f := 30) rfl ?_); refine goesL_ (some 35) rfl rfl Try.func30 (by kernel_rfl) rfl #[.agg #[.string (⟨#[]⟩ : ByteArray), .slice none 0 0, .slice none 0 0]] rfl (by (try simp only [List.map_toArray, List.map_cons, List.map_nil]); first | done | rfl | (simp only [List.length_drop, List.length_take]; rfl)) ?_; (refine (find_Index_Text.calls (⟨#[]⟩ : ByteArray) _ _ ([] : List Int) _ _ ([] : List Int) t476 _ ?side1 ?side2 ?side3 ?side4 A12.out).mono ?_); (case side1 => exact Kd.C_nil _ _); (case side2 => exact Nat.le_refl _); (case side3 => exact Kd.C_nil _ _); (case side4 => exact Nat.le_refl _); rintro e w87 ⟨rfl, hb⟩; refine ⟨_, rfl, ?_⟩; have n0_ := Aside0.mk (blk_below (g := gb470) (o := .cells #[.string (⟨#[]⟩ : ByteArray), .slice none 0 0, .slice none 0 0] 24 (0, 0)) (kX BK470.out) hb); have n1_ := Aside0.mk (below_step (by repeat (first | (with_reducible first | exact HB.out | apply lA | apply lN | apply lD | refine lS ?_ GE470.out) | exact HB.out)) hb); clear BK470; clear HB; have BK470 := n0_; have HB := n1_; clear n0_ n1_; (try clear hb); (try clear hb2); (try clear hk); (try clear hi); have hcz88_0 : w87.cell? ⟨gb470, 0, none⟩ = some (.string (⟨#[]⟩ : ByteArray)) := (blk_cell BK470.out 0).trans rfl; have hcz88_1 : w87.cell? ⟨gb470, 1, none⟩ = some (.slice none 0 0) := (blk_cell BK470.out 1).trans rfl; have hcz88_2 : w87.cell? ⟨gb470, 2, none⟩ = some (.slice none 0 0) := (blk_cell BK470.out 2).trans rfl; have hfz88_0 := blk_frozen BK470.out 0; have hfz88_1 := blk_frozen BK470.out 1; have hfz88_2 := blk_frozen BK470.out 2) | (go_at_call 31; (refine (find_Index_Order.calls (⟨#[]⟩ : ByteArray) _ _ ([] : List Int) _ _ ([] : List Int) t477 _ ?side1 ?side2 ?side3 ?side4 A14.out).mono ?_); (case side1 => exact Kd.C_nil _ _); (case side2 => exact Nat.le_refl _); (case side3 => exact Kd.C_nil _ _); (case side4 => exact Nat.le_refl _); rintro e w89 ⟨v478, rfl, ho0, hb⟩; have n0_ := Aside0.mk (Kd.R_lower ho0 (below_size (by repeat (first | (with_reducible first | exact HB.out | apply lA | apply lN | apply lD | refine lS ?_ GE470.out) | exact HB.out)))); have n1_ := Aside0.mk (blk_below (g := gb470) (o := .cells #[.string (⟨#[]⟩ : ByteArray), .slice none 0 0, .slice none 0 0] 24 (0, 0)) (kX BK470.out) hb); have n2_ := Aside0.mk (below_step (by repeat (first | (with_reducible first | exact HB.out | apply lA | apply lN | apply lD | refine lS ?_ GE470.out) | exact HB.out)) hb); clear BK470; clear HB; have HO479 := n0_; have BK470 := n1_; have HB := n2_; clear n0_ n1_ n2_; (try clear hb); (try clear hb2); (try clear hk); (try clear hi); (try clear ho0); obtain ⟨Ao90, co90, eo90⟩ := Kd.R_slice HO479.out; subst eo90; have hcz91_0 : w89.cell? ⟨gb470, 0, none⟩ = some (.string (⟨#[]⟩ : ByteArray)) := (blk_cell BK470.out 0).trans rfl; have hcz91_1 : w89.cell? ⟨gb470, 1, none⟩ = some (.slice none 0 0) := (blk_cell BK470.out 1).trans rfl; have hcz91_2 : w89.cell? ⟨gb470, 2, none⟩ = some (.slice none 0 0) := (blk_cell BK470.out 2).trans rfl; have hfz91_0 := blk_frozen BK470.out 0; have hfz91_1 := blk_frozen BK470.out 1; have hfz91_2 := blk_frozen BK470.out 2) | (go_at_call 28; (refine (find_Index_Overlaps.calls (⟨#[]⟩ : ByteArray) _ _ ([] : List Int) _ _ ([] : List Int) t480 _ ?side1 ?side2 ?side3 ?side4 A16.out).mono ?_); (case side1 => exact Kd.C_nil _ _); (case side2 => exact Nat.le_refl _); (case side3 => exact Kd.C_nil _ _); (case side4 => exact Nat.le_refl _); rintro e w92 ⟨v481, rfl, ho0, hb⟩; have n0_ := Aside0.mk (Kd.R_elder' (by (with_reducible repeat (first | apply Kd.R_alloc | apply Kd.R_drewN | apply Kd.R_drew)); exact HO479.out) (Kd.R_base ho0) hb); have n1_ := Aside0.mk (Kd.R_lower (Kd.R_new' ho0 (Kd.R_lt (by (with_reducible repeat (first | apply Kd.R_alloc | apply Kd.R_drewN | apply Kd.R_drew)); exact HO479.out))) (below_size (by repeat (first | (with_reducible first | exact HB.out | apply lA | apply lN | apply lD | refine lS ?_ GE470.out) | exact HB.out)))); have n2_ := Aside0.mk (blk_below (g := gb470) (o := .cells #[.string (⟨#[]⟩ : ByteArray), .slice none 0 0, .slice none 0 0] 24 (0, 0)) (kX BK470.out) hb); have n3_ := Aside0.mk (below_step (by repeat (first | (with_reducible first | exact HB.out | apply lA | apply lN | apply lD | refine lS ?_ GE470.out) | exact HB.out)) hb); clear HO479; clear BK470; clear HB; have HO479 := n0_; have HO482 := n1_; have BK470 := n2_; have HB := n3_; clear n0_ n1_ n2_ n3_; (try clear hb); (try clear hb2); (try clear hk); (try clear hi); (try clear ho0); obtain ⟨Ao93, co93, eo93⟩ := Kd.R_slice HO482.out; subst eo93; have hcz94_0 : w92.cell? ⟨gb470, 0, none⟩ = some (.string (⟨#[]⟩ : ByteArray)) := (blk_cell BK470.out 0).trans rfl; have hcz94_1 : w92.cell? ⟨gb470, 1, none⟩ = some (.slice none 0 0) := (blk_cell BK470.out 1).trans rfl; have hcz94_2 : w92.cell? ⟨gb470, 2, none⟩ = some (.slice none 0 0) := (blk_cell BK470.out 2).trans rfl; have hfz94_0 := blk_frozen BK470.out 0; have hfz94_1 := blk_frozen BK470.out 1; have hfz94_2 := blk_frozen BK470.out 2) | (go_at_call 29; (refine (find_Index_Count.calls (⟨#[]⟩ : ByteArray) _ _ ([] : List Int) _ _ ([] : List Int) a1 t483 _ ?side1 ?side2 ?side3 ?side4 A18.out).mono ?_); (case side1 => exact Kd.C_nil _ _); (case side2 => exact Nat.le_refl _); (case side3 => exact Kd.C_nil _ _); (case side4 => exact Nat.le_refl _); rintro e w95 ⟨rfl, hb⟩; have n0_ := Aside0.mk (Kd.R_below (by (with_reducible repeat (first | apply Kd.R_alloc | apply Kd.R_drewN | apply Kd.R_drew)); exact HO479.out) hb); have n1_ := Aside0.mk (Kd.R_below (by (with_reducible repeat (first | apply Kd.R_alloc | apply Kd.R_drewN | apply Kd.R_drew)); exact HO482.out) hb); have n2_ := Aside0.mk (blk_below (g := gb470) (o := .cells #[.string (⟨#[]⟩ : ByteArray), .slice none 0 0, .slice none 0 0] 24 (0, 0)) (kX BK470.out) hb); have n3_ := Aside0.mk (below_step (by repeat (first | (with_reducible first | exact HB.out | apply lA | apply lN | apply lD | refine lS ?_ GE470.out) | exact HB.out)) hb); clear HO479; clear HO482; clear BK470; clear HB; have HO479 := n0_; have HO482 := n1_; have BK470 := n2_; have HB := n3_; clear n0_ n1_ n2_ n3_; (try clear hb); (try clear hb2); (try clear hk); (try clear hi); have hcz96_0 : w95.cell? ⟨gb470, 0, none⟩ = some (.string (⟨#[]⟩ : ByteArray)) := (blk_cell BK470.out 0).trans rfl; have hcz96_1 : w95.cell? ⟨gb470, 1, none⟩ = some (.slice none 0 0) := (blk_cell BK470.out 1).trans rfl; have hcz96_2 : w95.cell? ⟨gb470, 2, none⟩ = some (.slice none 0 0) := (blk_cell BK470.out 2).trans rfl; have hfz96_0 := blk_frozen BK470.out 0; have hfz96_1 := blk_frozen BK470.out 1; have hfz96_2 := blk_frozen BK470.out 2) | (go_at_call 38; (refine (find_Index_Find.calls (⟨#[]⟩ : ByteArray) _ _ ([] : List Int) _ _ ([] : List Int) a1 t484 _ ?side1 ?side2 ?side3 ?side4 A20.out).mono ?_); (case side1 => exact Kd.C_nil _ _); (case side2 => exact Nat.le_refl _); (case side3 => exact Kd.C_nil _ _); (case side4 => exact Nat.le_refl _); rintro e w97 ⟨v485, rfl, ho0, hb⟩; have n0_ := Aside0.mk (Kd.R_elder' (by (with_reducible repeat (first | apply Kd.R_alloc | apply Kd.R_drewN | apply Kd.R_drew)); exact HO479.out) (Kd.R_base ho0) hb); have n1_ := Aside0.mk (Kd.R_elder' (by (with_reducible repeat (first | apply Kd.R_alloc | apply Kd.R_drewN | apply Kd.R_drew)); exact HO482.out) (Kd.R_base ho0) hb); have n2_ := Aside0.mk (Kd.R_lower (Kd.R_new' (Kd.R_new' ho0 (Kd.R_lt (by (with_reducible repeat (first | apply Kd.R_alloc | apply Kd.R_drewN | apply Kd.R_drew)); exact HO479.out))) (Kd.R_lt (by (with_reducible repeat (first | apply Kd.R_alloc | apply Kd.R_drewN | apply Kd.R_drew)); exact HO482.out))) (below_size (by repeat (first | (with_reducible first | exact HB.out | apply lA | apply lN | apply lD | refine lS ?_ GE470.out) | exact HB.out)))); have n3_ := Aside0.mk (blk_below (g := gb470) (o := .cells #[.string (⟨#[]⟩ : ByteArray), .slice none 0 0, .slice none 0 0] 24 (0, 0)) (kX BK470.out) hb); have n4_ := Aside0.mk (below_step (by repeat (first | (with_reducible first | exact HB.out | apply lA | apply lN | apply lD | refine lS ?_ GE470.out) | exact HB.out)) hb); clear HO479; clear HO482; clear BK470; clear HB; have HO479 := n0_; have HO482 := n1_; have HO486 := n2_; have BK470 := n3_; have HB := n4_; clear n0_ n1_ n2_ n3_ n4_; (try clear hb); (try clear hb2); (try clear hk); (try clear hi); (try clear ho0); obtain ⟨Ao98, co98, eo98⟩ := Kd.R_slice HO486.out; subst eo98))
        go_meet
        case rel => exact ⟨_, (true), (by first | rfl | (simp; done) | (simp [*]; done)), H', ⟨by first | omega | exact Nat.le_refl _⟩, ⟨by (with_reducible repeat (first | refine kN ?_ _ | refine kD ?_ | refine kA ?_ _)); exact BK470.out⟩, ⟨by repeat (first | (with_reducible first | exact HB.out | apply lA | apply lN | apply lD | refine lS ?_ GE470.out) | exact HB.out)⟩⟩
       rw [if_neg c22] at H
       have c22b0 : (t471.toList == ([] : List UInt8)) = false := beq_eq_false_iff_ne.mpr c22
       have c22b1 : (t471.toList != ([] : List UInt8)) = true := bne_iff_ne.mpr c22
       have H' := Aside0.mk H
       clear H
       have hcz99_0 : w11.cell? ⟨gb470, 0, none⟩ = some (.string (⟨#[]⟩ : ByteArray)) := (blk_cell BK470.out 0).trans rfl
       have hcz99_1 : w11.cell? ⟨gb470, 1, none⟩ = some (.slice none 0 0) := (blk_cell BK470.out 1).trans rfl
       have hcz99_2 : w11.cell? ⟨gb470, 2, none⟩ = some (.slice none 0 0) := (blk_cell BK470.out 2).trans rfl
       have hfz99_0 := blk_frozen BK470.out 0
       have hfz99_1 := blk_frozen BK470.out 1
       have hfz99_2 := blk_frozen BK470.out 2
       go_wp2_with (first | ((with_reducible refine gate_callee (f := 30) rfl ?_); refine goesL_ (some 35) rfl rfl Try.func30 (by kernel_rfl) rfl #[.agg #[.string (⟨#[]⟩ : ByteArray), .slice none 0 0, .slice none 0 0]] rfl (by (try simp only [List.map_toArray, List.map_cons, List.map_nil]); first | done | rfl | (simp only [List.length_drop, List.length_take]; rfl)) ?_; (refine (find_Index_Text.calls (⟨#[]⟩ : ByteArray) _ _ ([] : List Int) _ _ ([] : List Int) t476 _ ?side1 ?side2 ?side3 ?side4 A12.out).mono ?_); (case side1 => exact Kd.C_nil _ _); (case side2 => exact Nat.le_refl _); (case side3 => exact Kd.C_nil _ _); (case side4 => exact Nat.le_refl _); rintro e w100 ⟨rfl, hb⟩; refine ⟨_, rfl, ?_⟩; have n0_ := Aside0.mk (blk_below (g := gb470) (o := .cells #[.string (⟨#[]⟩ : ByteArray), .slice none 0 0, .slice none 0 0] 24 (0, 0)) (kX BK470.out) hb); have n1_ := Aside0.mk (below_step (by repeat (first | (with_reducible first | exact HB.out | apply lA | apply lN | apply lD | refine lS ?_ GE470.out) | exact HB.out)) hb); clear BK470; clear HB; have BK470 := n0_; have HB := n1_; clear n0_ n1_; (try clear hb); (try clear hb2); (try clear hk); (try clear hi); have hcz101_0 : w100.cell? ⟨gb470, 0, none⟩ = some (.string (⟨#[]⟩ : ByteArray)) := (blk_cell BK470.out 0).trans rfl; have hcz101_1 : w100.cell? ⟨gb470, 1, none⟩ = some (.slice none 0 0) := (blk_cell BK470.out 1).trans rfl; have hcz101_2 : w100.cell? ⟨gb470, 2, none⟩ = some (.slice none 0 0) := (blk_cell BK470.out 2).trans rfl; have hfz101_0 := blk_frozen BK470.out 0; have hfz101_1 := blk_frozen BK470.out 1; have hfz101_2 := blk_frozen BK470.out 2) | (go_at_call 31; (refine (find_Index_Order.calls (⟨#[]⟩ : ByteArray) _ _ ([] : List Int) _ _ ([] : List Int) t477 _ ?side1 ?side2 ?side3 ?side4 A14.out).mono ?_); (case side1 => exact Kd.C_nil _ _); (case side2 => exact Nat.le_refl _); (case side3 => exact Kd.C_nil _ _); (case side4 => exact Nat.le_refl _); rintro e w102 ⟨v478, rfl, ho0, hb⟩; have n0_ := Aside0.mk (Kd.R_lower ho0 (below_size (by repeat (first | (with_reducible first | exact HB.out | apply lA | apply lN | apply lD | refine lS ?_ GE470.out) | exact HB.out)))); have n1_ := Aside0.mk (blk_below (g := gb470) (o := .cells #[.string (⟨#[]⟩ : ByteArray), .slice none 0 0, .slice none 0 0] 24 (0, 0)) (kX BK470.out) hb); have n2_ := Aside0.mk (below_step (by repeat (first | (with_reducible first | exact HB.out | apply lA | apply lN | apply lD | refine lS ?_ GE470.out) | exact HB.out)) hb); clear BK470; clear HB; have HO479 := n0_; have BK470 := n1_; have HB := n2_; clear n0_ n1_ n2_; (try clear hb); (try clear hb2); (try clear hk); (try clear hi); (try clear ho0); obtain ⟨Ao103, co103, eo103⟩ := Kd.R_slice HO479.out; subst eo103; have hcz104_0 : w102.cell? ⟨gb470, 0, none⟩ = some (.string (⟨#[]⟩ : ByteArray)) := (blk_cell BK470.out 0).trans rfl; have hcz104_1 : w102.cell? ⟨gb470, 1, none⟩ = some (.slice none 0 0) := (blk_cell BK470.out 1).trans rfl; have hcz104_2 : w102.cell? ⟨gb470, 2, none⟩ = some (.slice none 0 0) := (blk_cell BK470.out 2).trans rfl; have hfz104_0 := blk_frozen BK470.out 0; have hfz104_1 := blk_frozen BK470.out 1; have hfz104_2 := blk_frozen BK470.out 2) | (go_at_call 28; (refine (find_Index_Overlaps.calls (⟨#[]⟩ : ByteArray) _ _ ([] : List Int) _ _ ([] : List Int) t480 _ ?side1 ?side2 ?side3 ?side4 A16.out).mono ?_); (case side1 => exact Kd.C_nil _ _); (case side2 => exact Nat.le_refl _); (case side3 => exact Kd.C_nil _ _); (case side4 => exact Nat.le_refl _); rintro e w105 ⟨v481, rfl, ho0, hb⟩; have n0_ := Aside0.mk (Kd.R_elder' (by (with_reducible repeat (first | apply Kd.R_alloc | apply Kd.R_drewN | apply Kd.R_drew)); exact HO479.out) (Kd.R_base ho0) hb); have n1_ := Aside0.mk (Kd.R_lower (Kd.R_new' ho0 (Kd.R_lt (by (with_reducible repeat (first | apply Kd.R_alloc | apply Kd.R_drewN | apply Kd.R_drew)); exact HO479.out))) (below_size (by repeat (first | (with_reducible first | exact HB.out | apply lA | apply lN | apply lD | refine lS ?_ GE470.out) | exact HB.out)))); have n2_ := Aside0.mk (blk_below (g := gb470) (o := .cells #[.string (⟨#[]⟩ : ByteArray), .slice none 0 0, .slice none 0 0] 24 (0, 0)) (kX BK470.out) hb); have n3_ := Aside0.mk (below_step (by repeat (first | (with_reducible first | exact HB.out | apply lA | apply lN | apply lD | refine lS ?_ GE470.out) | exact HB.out)) hb); clear HO479; clear BK470; clear HB; have HO479 := n0_; have HO482 := n1_; have BK470 := n2_; have HB := n3_; clear n0_ n1_ n2_ n3_; (try clear hb); (try clear hb2); (try clear hk); (try clear hi); (try clear ho0); obtain ⟨Ao106, co106, eo106⟩ := Kd.R_slice HO482.out; subst eo106; have hcz107_0 : w105.cell? ⟨gb470, 0, none⟩ = some (.string (⟨#[]⟩ : ByteArray)) := (blk_cell BK470.out 0).trans rfl; have hcz107_1 : w105.cell? ⟨gb470, 1, none⟩ = some (.slice none 0 0) := (blk_cell BK470.out 1).trans rfl; have hcz107_2 : w105.cell? ⟨gb470, 2, none⟩ = some (.slice none 0 0) := (blk_cell BK470.out 2).trans rfl; have hfz107_0 := blk_frozen BK470.out 0; have hfz107_1 := blk_frozen BK470.out 1; have hfz107_2 := blk_frozen BK470.out 2) | (go_at_call 29; (refine (find_Index_Count.calls (⟨#[]⟩ : ByteArray) _ _ ([] : List Int) _ _ ([] : List Int) a1 t483 _ ?side1 ?side2 ?side3 ?side4 A18.out).mono ?_); (case side1 => exact Kd.C_nil _ _); (case side2 => exact Nat.le_refl _); (case side3 => exact Kd.C_nil _ _); (case side4 => exact Nat.le_refl _); rintro e w108 ⟨rfl, hb⟩; have n0_ := Aside0.mk (Kd.R_below (by (with_reducible repeat (first | apply Kd.R_alloc | apply Kd.R_drewN | apply Kd.R_drew)); exact HO479.out) hb); have n1_ := Aside0.mk (Kd.R_below (by (with_reducible repeat (first | apply Kd.R_alloc | apply Kd.R_drewN | apply Kd.R_drew)); exact HO482.out) hb); have n2_ := Aside0.mk (blk_below (g := gb470) (o := .cells #[.string (⟨#[]⟩ : ByteArray), .slice none 0 0, .slice none 0 0] 24 (0, 0)) (kX BK470.out) hb); have n3_ := Aside0.mk (below_step (by repeat (first | (with_reducible first | exact HB.out | apply lA | apply lN | apply lD | refine lS ?_ GE470.out) | exact HB.out)) hb); clear HO479; clear HO482; clear BK470; clear HB; have HO479 := n0_; have HO482 := n1_; have BK470 := n2_; have HB := n3_; clear n0_ n1_ n2_ n3_; (try clear hb); (try clear hb2); (try clear hk); (try clear hi); have hcz109_0 : w108.cell? ⟨gb470, 0, none⟩ = some (.string (⟨#[]⟩ : ByteArray)) := (blk_cell BK470.out 0).trans rfl; have hcz109_1 : w108.cell? ⟨gb470, 1, none⟩ = some (.slice none 0 0) := (blk_cell BK470.out 1).trans rfl; have hcz109_2 : w108.cell? ⟨gb470, 2, none⟩ = some (.slice none 0 0) := (blk_cell BK470.out 2).trans rfl; have hfz109_0 := blk_frozen BK470.out 0; have hfz109_1 := blk_frozen BK470.out 1; have hfz109_2 := blk_frozen BK470.out 2) | (go_at_call 38; (refine (find_Index_Find.calls (⟨#[]⟩ : ByteArray) _ _ ([] : List Int) _ _ ([] : List Int) a1 t484 _ ?side1 ?side2 ?side3 ?side4 A20.out).mono ?_); (case side1 => exact Kd.C_nil _ _); (case side2 => exact Nat.le_refl _); (case side3 => exact Kd.C_nil _ _); (case side4 => exact Nat.le_refl _); rintro e w110 ⟨v485, rfl, ho0, hb⟩; have n0_ := Aside0.mk (Kd.R_elder' (by (with_reducible repeat (first | apply Kd.R_alloc | apply Kd.R_drewN | apply Kd.R_drew)); exact HO479.out) (Kd.R_base ho0) hb); have n1_ := Aside0.mk (Kd.R_elder' (by (with_reducible repeat (first | apply Kd.R_alloc | apply Kd.R_drewN | apply Kd.R_drew)); exact HO482.out) (Kd.R_base ho0) hb); have n2_ := Aside0.mk (Kd.R_lower (Kd.R_new' (Kd.R_new' ho0 (Kd.R_lt (by (with_reducible repeat (first | apply Kd.R_alloc | apply Kd.R_drewN | apply Kd.R_drew)); exact HO479.out))) (Kd.R_lt (by (with_reducible repeat (first | apply Kd.R_alloc | apply Kd.R_drewN | apply Kd.R_drew)); exact HO482.out))) (below_size (by repeat (first | (with_reducible first | exact HB.out | apply lA | apply lN | apply lD | refine lS ?_ GE470.out) | exact HB.out)))); have n3_ := Aside0.mk (blk_below (g := gb470) (o := .cells #[.string (⟨#[]⟩ : ByteArray), .slice none 0 0, .slice none 0 0] 24 (0, 0)) (kX BK470.out) hb); have n4_ := Aside0.mk (below_step (by repeat (first | (with_reducible first | exact HB.out | apply lA | apply lN | apply lD | refine lS ?_ GE470.out) | exact HB.out)) hb); clear HO479; clear HO482; clear BK470; clear HB; have HO479 := n0_; have HO482 := n1_; have HO486 := n2_; have BK470 := n3_; have HB := n4_; clear n0_ n1_ n2_ n3_ n4_; (try clear hb); (try clear hb2); (try clear hk); (try clear hi); (try clear ho0); obtain ⟨Ao111, co111, eo111⟩ := Kd.R_slice HO486.out; subst eo111))
       go_meet
       case rel => exact ⟨_, (true), (by first | rfl | (simp; done) | (simp [*]; done)), H', ⟨by first | omega | exact Nat.le_refl _⟩, ⟨by (with_reducible repeat (first | refine kN ?_ _ | refine kD ?_ | refine kA ?_ _)); exact BK470.out⟩, ⟨by repeat (first | (with_reducible first | exact HB.out | apply lA | apply lN | apply lD | refine lS ?_ GE470.out) | exact HB.out)⟩⟩
      rw [if_neg c21] at H
      have c21b0 : ((t484.length : Int) == 0) = false := beq_eq_false_iff_ne.mpr c21
      have c21b1 : ((t484.length : Int) != 0) = true := bne_iff_ne.mpr c21
      have c21b2 : ¬ (t484 = []) := fun h_ => c21 (by rw [h_]; rfl)
      have H' := Aside0.mk H
      clear H
      have hcz112_0 : w11.cell? ⟨gb470, 0, none⟩ = some (.string (⟨#[]⟩ : ByteArray)) := (blk_cell BK470.out 0).trans rfl
      have hcz112_1 : w11.cell? ⟨gb470, 1, none⟩ = some (.slice none 0 0) := (blk_cell BK470.out 1).trans rfl
      have hcz112_2 : w11.cell? ⟨gb470, 2, none⟩ = some (.slice none 0 0) := (blk_cell BK470.out 2).trans rfl
      have hfz112_0 := blk_frozen BK470.out 0
      have hfz112_1 := blk_frozen BK470.out 1
      have hfz112_2 := blk_frozen BK470.out 2
      go_wp2_with (first | ((with_reducible refine gate_callee (f := 30) rfl ?_); refine goesL_ (some 35) rfl rfl Try.func30 (by kernel_rfl) rfl #[.agg #[.string (⟨#[]⟩ : ByteArray), .slice none 0 0, .slice none 0 0]] rfl (by (try simp only [List.map_toArray, List.map_cons, List.map_nil]); first | done | rfl | (simp only [List.length_drop, List.length_take]; rfl)) ?_; (refine (find_Index_Text.calls (⟨#[]⟩ : ByteArray) _ _ ([] : List Int) _ _ ([] : List Int) t476 _ ?side1 ?side2 ?side3 ?side4 A12.out).mono ?_); (case side1 => exact Kd.C_nil _ _); (case side2 => exact Nat.le_refl _); (case side3 => exact Kd.C_nil _ _); (case side4 => exact Nat.le_refl _); rintro e w113 ⟨rfl, hb⟩; refine ⟨_, rfl, ?_⟩; have n0_ := Aside0.mk (blk_below (g := gb470) (o := .cells #[.string (⟨#[]⟩ : ByteArray), .slice none 0 0, .slice none 0 0] 24 (0, 0)) (kX BK470.out) hb); have n1_ := Aside0.mk (below_step (by repeat (first | (with_reducible first | exact HB.out | apply lA | apply lN | apply lD | refine lS ?_ GE470.out) | exact HB.out)) hb); clear BK470; clear HB; have BK470 := n0_; have HB := n1_; clear n0_ n1_; (try clear hb); (try clear hb2); (try clear hk); (try clear hi); have hcz114_0 : w113.cell? ⟨gb470, 0, none⟩ = some (.string (⟨#[]⟩ : ByteArray)) := (blk_cell BK470.out 0).trans rfl; have hcz114_1 : w113.cell? ⟨gb470, 1, none⟩ = some (.slice none 0 0) := (blk_cell BK470.out 1).trans rfl; have hcz114_2 : w113.cell? ⟨gb470, 2, none⟩ = some (.slice none 0 0) := (blk_cell BK470.out 2).trans rfl; have hfz114_0 := blk_frozen BK470.out 0; have hfz114_1 := blk_frozen BK470.out 1; have hfz114_2 := blk_frozen BK470.out 2) | (go_at_call 31; (refine (find_Index_Order.calls (⟨#[]⟩ : ByteArray) _ _ ([] : List Int) _ _ ([] : List Int) t477 _ ?side1 ?side2 ?side3 ?side4 A14.out).mono ?_); (case side1 => exact Kd.C_nil _ _); (case side2 => exact Nat.le_refl _); (case side3 => exact Kd.C_nil _ _); (case side4 => exact Nat.le_refl _); rintro e w115 ⟨v478, rfl, ho0, hb⟩; have n0_ := Aside0.mk (Kd.R_lower ho0 (below_size (by repeat (first | (with_reducible first | exact HB.out | apply lA | apply lN | apply lD | refine lS ?_ GE470.out) | exact HB.out)))); have n1_ := Aside0.mk (blk_below (g := gb470) (o := .cells #[.string (⟨#[]⟩ : ByteArray), .slice none 0 0, .slice none 0 0] 24 (0, 0)) (kX BK470.out) hb); have n2_ := Aside0.mk (below_step (by repeat (first | (with_reducible first | exact HB.out | apply lA | apply lN | apply lD | refine lS ?_ GE470.out) | exact HB.out)) hb); clear BK470; clear HB; have HO479 := n0_; have BK470 := n1_; have HB := n2_; clear n0_ n1_ n2_; (try clear hb); (try clear hb2); (try clear hk); (try clear hi); (try clear ho0); obtain ⟨Ao116, co116, eo116⟩ := Kd.R_slice HO479.out; subst eo116; have hcz117_0 : w115.cell? ⟨gb470, 0, none⟩ = some (.string (⟨#[]⟩ : ByteArray)) := (blk_cell BK470.out 0).trans rfl; have hcz117_1 : w115.cell? ⟨gb470, 1, none⟩ = some (.slice none 0 0) := (blk_cell BK470.out 1).trans rfl; have hcz117_2 : w115.cell? ⟨gb470, 2, none⟩ = some (.slice none 0 0) := (blk_cell BK470.out 2).trans rfl; have hfz117_0 := blk_frozen BK470.out 0; have hfz117_1 := blk_frozen BK470.out 1; have hfz117_2 := blk_frozen BK470.out 2) | (go_at_call 28; (refine (find_Index_Overlaps.calls (⟨#[]⟩ : ByteArray) _ _ ([] : List Int) _ _ ([] : List Int) t480 _ ?side1 ?side2 ?side3 ?side4 A16.out).mono ?_); (case side1 => exact Kd.C_nil _ _); (case side2 => exact Nat.le_refl _); (case side3 => exact Kd.C_nil _ _); (case side4 => exact Nat.le_refl _); rintro e w118 ⟨v481, rfl, ho0, hb⟩; have n0_ := Aside0.mk (Kd.R_elder' (by (with_reducible repeat (first | apply Kd.R_alloc | apply Kd.R_drewN | apply Kd.R_drew)); exact HO479.out) (Kd.R_base ho0) hb); have n1_ := Aside0.mk (Kd.R_lower (Kd.R_new' ho0 (Kd.R_lt (by (with_reducible repeat (first | apply Kd.R_alloc | apply Kd.R_drewN | apply Kd.R_drew)); exact HO479.out))) (below_size (by repeat (first | (with_reducible first | exact HB.out | apply lA | apply lN | apply lD | refine lS ?_ GE470.out) | exact HB.out)))); have n2_ := Aside0.mk (blk_below (g := gb470) (o := .cells #[.string (⟨#[]⟩ : ByteArray), .slice none 0 0, .slice none 0 0] 24 (0, 0)) (kX BK470.out) hb); have n3_ := Aside0.mk (below_step (by repeat (first | (with_reducible first | exact HB.out | apply lA | apply lN | apply lD | refine lS ?_ GE470.out) | exact HB.out)) hb); clear HO479; clear BK470; clear HB; have HO479 := n0_; have HO482 := n1_; have BK470 := n2_; have HB := n3_; clear n0_ n1_ n2_ n3_; (try clear hb); (try clear hb2); (try clear hk); (try clear hi); (try clear ho0); obtain ⟨Ao119, co119, eo119⟩ := Kd.R_slice HO482.out; subst eo119; have hcz120_0 : w118.cell? ⟨gb470, 0, none⟩ = some (.string (⟨#[]⟩ : ByteArray)) := (blk_cell BK470.out 0).trans rfl; have hcz120_1 : w118.cell? ⟨gb470, 1, none⟩ = some (.slice none 0 0) := (blk_cell BK470.out 1).trans rfl; have hcz120_2 : w118.cell? ⟨gb470, 2, none⟩ = some (.slice none 0 0) := (blk_cell BK470.out 2).trans rfl; have hfz120_0 := blk_frozen BK470.out 0; have hfz120_1 := blk_frozen BK470.out 1; have hfz120_2 := blk_frozen BK470.out 2) | (go_at_call 29; (refine (find_Index_Count.calls (⟨#[]⟩ : ByteArray) _ _ ([] : List Int) _ _ ([] : List Int) a1 t483 _ ?side1 ?side2 ?side3 ?side4 A18.out).mono ?_); (case side1 => exact Kd.C_nil _ _); (case side2 => exact Nat.le_refl _); (case side3 => exact Kd.C_nil _ _); (case side4 => exact Nat.le_refl _); rintro e w121 ⟨rfl, hb⟩; have n0_ := Aside0.mk (Kd.R_below (by (with_reducible repeat (first | apply Kd.R_alloc | apply Kd.R_drewN | apply Kd.R_drew)); exact HO479.out) hb); have n1_ := Aside0.mk (Kd.R_below (by (with_reducible repeat (first | apply Kd.R_alloc | apply Kd.R_drewN | apply Kd.R_drew)); exact HO482.out) hb); have n2_ := Aside0.mk (blk_below (g := gb470) (o := .cells #[.string (⟨#[]⟩ : ByteArray), .slice none 0 0, .slice none 0 0] 24 (0, 0)) (kX BK470.out) hb); have n3_ := Aside0.mk (below_step (by repeat (first | (with_reducible first | exact HB.out | apply lA | apply lN | apply lD | refine lS ?_ GE470.out) | exact HB.out)) hb); clear HO479; clear HO482; clear BK470; clear HB; have HO479 := n0_; have HO482 := n1_; have BK470 := n2_; have HB := n3_; clear n0_ n1_ n2_ n3_; (try clear hb); (try clear hb2); (try clear hk); (try clear hi); have hcz122_0 : w121.cell? ⟨gb470, 0, none⟩ = some (.string (⟨#[]⟩ : ByteArray)) := (blk_cell BK470.out 0).trans rfl; have hcz122_1 : w121.cell? ⟨gb470, 1, none⟩ = some (.slice none 0 0) := (blk_cell BK470.out 1).trans rfl; have hcz122_2 : w121.cell? ⟨gb470, 2, none⟩ = some (.slice none 0 0) := (blk_cell BK470.out 2).trans rfl; have hfz122_0 := blk_frozen BK470.out 0; have hfz122_1 := blk_frozen BK470.out 1; have hfz122_2 := blk_frozen BK470.out 2) | (go_at_call 38; (refine (find_Index_Find.calls (⟨#[]⟩ : ByteArray) _ _ ([] : List Int) _ _ ([] : List Int) a1 t484 _ ?side1 ?side2 ?side3 ?side4 A20.out).mono ?_); (case side1 => exact Kd.C_nil _ _); (case side2 => exact Nat.le_refl _); (case side3 => exact Kd.C_nil _ _); (case side4 => exact Nat.le_refl _); rintro e w123 ⟨v485, rfl, ho0, hb⟩; have n0_ := Aside0.mk (Kd.R_elder' (by (with_reducible repeat (first | apply Kd.R_alloc | apply Kd.R_drewN | apply Kd.R_drew)); exact HO479.out) (Kd.R_base ho0) hb); have n1_ := Aside0.mk (Kd.R_elder' (by (with_reducible repeat (first | apply Kd.R_alloc | apply Kd.R_drewN | apply Kd.R_drew)); exact HO482.out) (Kd.R_base ho0) hb); have n2_ := Aside0.mk (Kd.R_lower (Kd.R_new' (Kd.R_new' ho0 (Kd.R_lt (by (with_reducible repeat (first | apply Kd.R_alloc | apply Kd.R_drewN | apply Kd.R_drew)); exact HO479.out))) (Kd.R_lt (by (with_reducible repeat (first | apply Kd.R_alloc | apply Kd.R_drewN | apply Kd.R_drew)); exact HO482.out))) (below_size (by repeat (first | (with_reducible first | exact HB.out | apply lA | apply lN | apply lD | refine lS ?_ GE470.out) | exact HB.out)))); have n3_ := Aside0.mk (blk_below (g := gb470) (o := .cells #[.string (⟨#[]⟩ : ByteArray), .slice none 0 0, .slice none 0 0] 24 (0, 0)) (kX BK470.out) hb); have n4_ := Aside0.mk (below_step (by repeat (first | (with_reducible first | exact HB.out | apply lA | apply lN | apply lD | refine lS ?_ GE470.out) | exact HB.out)) hb); clear HO479; clear HO482; clear BK470; clear HB; have HO479 := n0_; have HO482 := n1_; have HO486 := n2_; have BK470 := n3_; have HB := n4_; clear n0_ n1_ n2_ n3_ n4_; (try clear hb); (try clear hb2); (try clear hk); (try clear hi); (try clear ho0); obtain ⟨Ao124, co124, eo124⟩ := Kd.R_slice HO486.out; subst eo124))
      go_meet
      case rel => exact ⟨_, (true), (by first | rfl | (simp; done) | (simp [*]; done)), H', ⟨by first | omega | exact Nat.le_refl _⟩, ⟨by (with_reducible repeat (first | refine kN ?_ _ | refine kD ?_ | refine kA ?_ _)); exact BK470.out⟩, ⟨by repeat (first | (with_reducible first | exact HB.out | apply lA | apply lN | apply lD | refine lS ?_ GE470.out) | exact HB.out)⟩⟩
     rw [if_neg c19] at H
     have c19b0 : (t483 == 0) = false := beq_eq_false_iff_ne.mpr c19
     have c19b1 : (t483 != 0) = true := bne_iff_ne.mpr c19
     have H' := Aside0.mk H
     clear H
     have hcz125_0 : w11.cell? ⟨gb470, 0, none⟩ = some (.string (⟨#[]⟩ : ByteArray)) := (blk_cell BK470.out 0).trans rfl
     have hcz125_1 : w11.cell? ⟨gb470, 1, none⟩ = some (.slice none 0 0) := (blk_cell BK470.out 1).trans rfl
     have hcz125_2 : w11.cell? ⟨gb470, 2, none⟩ = some (.slice none 0 0) := (blk_cell BK470.out 2).trans rfl
     have hfz125_0 := blk_frozen BK470.out 0
     have hfz125_1 := blk_frozen BK470.out 1
     have hfz125_2 := blk_frozen BK470.out 2
     go_wp2_with (first | ((with_reducible refine gate_callee (f := 30) rfl ?_); refine goesL_ (some 35) rfl rfl Try.func30 (by kernel_rfl) rfl #[.agg #[.string (⟨#[]⟩ : ByteArray), .slice none 0 0, .slice none 0 0]] rfl (by (try simp only [List.map_toArray, List.map_cons, List.map_nil]); first | done | rfl | (simp only [List.length_drop, List.length_take]; rfl)) ?_; (refine (find_Index_Text.calls (⟨#[]⟩ : ByteArray) _ _ ([] : List Int) _ _ ([] : List Int) t476 _ ?side1 ?side2 ?side3 ?side4 A12.out).mono ?_); (case side1 => exact Kd.C_nil _ _); (case side2 => exact Nat.le_refl _); (case side3 => exact Kd.C_nil _ _); (case side4 => exact Nat.le_refl _); rintro e w126 ⟨rfl, hb⟩; refine ⟨_, rfl, ?_⟩; have n0_ := Aside0.mk (blk_below (g := gb470) (o := .cells #[.string (⟨#[]⟩ : ByteArray), .slice none 0 0, .slice none 0 0] 24 (0, 0)) (kX BK470.out) hb); have n1_ := Aside0.mk (below_step (by repeat (first | (with_reducible first | exact HB.out | apply lA | apply lN | apply lD | refine lS ?_ GE470.out) | exact HB.out)) hb); clear BK470; clear HB; have BK470 := n0_; have HB := n1_; clear n0_ n1_; (try clear hb); (try clear hb2); (try clear hk); (try clear hi); have hcz127_0 : w126.cell? ⟨gb470, 0, none⟩ = some (.string (⟨#[]⟩ : ByteArray)) := (blk_cell BK470.out 0).trans rfl; have hcz127_1 : w126.cell? ⟨gb470, 1, none⟩ = some (.slice none 0 0) := (blk_cell BK470.out 1).trans rfl; have hcz127_2 : w126.cell? ⟨gb470, 2, none⟩ = some (.slice none 0 0) := (blk_cell BK470.out 2).trans rfl; have hfz127_0 := blk_frozen BK470.out 0; have hfz127_1 := blk_frozen BK470.out 1; have hfz127_2 := blk_frozen BK470.out 2) | (go_at_call 31; (refine (find_Index_Order.calls (⟨#[]⟩ : ByteArray) _ _ ([] : List Int) _ _ ([] : List Int) t477 _ ?side1 ?side2 ?side3 ?side4 A14.out).mono ?_); (case side1 => exact Kd.C_nil _ _); (case side2 => exact Nat.le_refl _); (case side3 => exact Kd.C_nil _ _); (case side4 => exact Nat.le_refl _); rintro e w128 ⟨v478, rfl, ho0, hb⟩; have n0_ := Aside0.mk (Kd.R_lower ho0 (below_size (by repeat (first | (with_reducible first | exact HB.out | apply lA | apply lN | apply lD | refine lS ?_ GE470.out) | exact HB.out)))); have n1_ := Aside0.mk (blk_below (g := gb470) (o := .cells #[.string (⟨#[]⟩ : ByteArray), .slice none 0 0, .slice none 0 0] 24 (0, 0)) (kX BK470.out) hb); have n2_ := Aside0.mk (below_step (by repeat (first | (with_reducible first | exact HB.out | apply lA | apply lN | apply lD | refine lS ?_ GE470.out) | exact HB.out)) hb); clear BK470; clear HB; have HO479 := n0_; have BK470 := n1_; have HB := n2_; clear n0_ n1_ n2_; (try clear hb); (try clear hb2); (try clear hk); (try clear hi); (try clear ho0); obtain ⟨Ao129, co129, eo129⟩ := Kd.R_slice HO479.out; subst eo129; have hcz130_0 : w128.cell? ⟨gb470, 0, none⟩ = some (.string (⟨#[]⟩ : ByteArray)) := (blk_cell BK470.out 0).trans rfl; have hcz130_1 : w128.cell? ⟨gb470, 1, none⟩ = some (.slice none 0 0) := (blk_cell BK470.out 1).trans rfl; have hcz130_2 : w128.cell? ⟨gb470, 2, none⟩ = some (.slice none 0 0) := (blk_cell BK470.out 2).trans rfl; have hfz130_0 := blk_frozen BK470.out 0; have hfz130_1 := blk_frozen BK470.out 1; have hfz130_2 := blk_frozen BK470.out 2) | (go_at_call 28; (refine (find_Index_Overlaps.calls (⟨#[]⟩ : ByteArray) _ _ ([] : List Int) _ _ ([] : List Int) t480 _ ?side1 ?side2 ?side3 ?side4 A16.out).mono ?_); (case side1 => exact Kd.C_nil _ _); (case side2 => exact Nat.le_refl _); (case side3 => exact Kd.C_nil _ _); (case side4 => exact Nat.le_refl _); rintro e w131 ⟨v481, rfl, ho0, hb⟩; have n0_ := Aside0.mk (Kd.R_elder' (by (with_reducible repeat (first | apply Kd.R_alloc | apply Kd.R_drewN | apply Kd.R_drew)); exact HO479.out) (Kd.R_base ho0) hb); have n1_ := Aside0.mk (Kd.R_lower (Kd.R_new' ho0 (Kd.R_lt (by (with_reducible repeat (first | apply Kd.R_alloc | apply Kd.R_drewN | apply Kd.R_drew)); exact HO479.out))) (below_size (by repeat (first | (with_reducible first | exact HB.out | apply lA | apply lN | apply lD | refine lS ?_ GE470.out) | exact HB.out)))); have n2_ := Aside0.mk (blk_below (g := gb470) (o := .cells #[.string (⟨#[]⟩ : ByteArray), .slice none 0 0, .slice none 0 0] 24 (0, 0)) (kX BK470.out) hb); have n3_ := Aside0.mk (below_step (by repeat (first | (with_reducible first | exact HB.out | apply lA | apply lN | apply lD | refine lS ?_ GE470.out) | exact HB.out)) hb); clear HO479; clear BK470; clear HB; have HO479 := n0_; have HO482 := n1_; have BK470 := n2_; have HB := n3_; clear n0_ n1_ n2_ n3_; (try clear hb); (try clear hb2); (try clear hk); (try clear hi); (try clear ho0); obtain ⟨Ao132, co132, eo132⟩ := Kd.R_slice HO482.out; subst eo132; have hcz133_0 : w131.cell? ⟨gb470, 0, none⟩ = some (.string (⟨#[]⟩ : ByteArray)) := (blk_cell BK470.out 0).trans rfl; have hcz133_1 : w131.cell? ⟨gb470, 1, none⟩ = some (.slice none 0 0) := (blk_cell BK470.out 1).trans rfl; have hcz133_2 : w131.cell? ⟨gb470, 2, none⟩ = some (.slice none 0 0) := (blk_cell BK470.out 2).trans rfl; have hfz133_0 := blk_frozen BK470.out 0; have hfz133_1 := blk_frozen BK470.out 1; have hfz133_2 := blk_frozen BK470.out 2) | (go_at_call 29; (refine (find_Index_Count.calls (⟨#[]⟩ : ByteArray) _ _ ([] : List Int) _ _ ([] : List Int) a1 t483 _ ?side1 ?side2 ?side3 ?side4 A18.out).mono ?_); (case side1 => exact Kd.C_nil _ _); (case side2 => exact Nat.le_refl _); (case side3 => exact Kd.C_nil _ _); (case side4 => exact Nat.le_refl _); rintro e w134 ⟨rfl, hb⟩; have n0_ := Aside0.mk (Kd.R_below (by (with_reducible repeat (first | apply Kd.R_alloc | apply Kd.R_drewN | apply Kd.R_drew)); exact HO479.out) hb); have n1_ := Aside0.mk (Kd.R_below (by (with_reducible repeat (first | apply Kd.R_alloc | apply Kd.R_drewN | apply Kd.R_drew)); exact HO482.out) hb); have n2_ := Aside0.mk (blk_below (g := gb470) (o := .cells #[.string (⟨#[]⟩ : ByteArray), .slice none 0 0, .slice none 0 0] 24 (0, 0)) (kX BK470.out) hb); have n3_ := Aside0.mk (below_step (by repeat (first | (with_reducible first | exact HB.out | apply lA | apply lN | apply lD | refine lS ?_ GE470.out) | exact HB.out)) hb); clear HO479; clear HO482; clear BK470; clear HB; have HO479 := n0_; have HO482 := n1_; have BK470 := n2_; have HB := n3_; clear n0_ n1_ n2_ n3_; (try clear hb); (try clear hb2); (try clear hk); (try clear hi)))
     go_meet
     case rel => exact ⟨_, (true), (by first | rfl | (simp; done) | (simp [*]; done)), H', ⟨by first | omega | exact Nat.le_refl _⟩, ⟨by (with_reducible repeat (first | refine kN ?_ _ | refine kD ?_ | refine kA ?_ _)); exact BK470.out⟩, ⟨by repeat (first | (with_reducible first | exact HB.out | apply lA | apply lN | apply lD | refine lS ?_ GE470.out) | exact HB.out)⟩⟩
    rw [if_neg c17] at H
    have c17b0 : ((t480.length : Int) == 0) = false := beq_eq_false_iff_ne.mpr c17
    have c17b1 : ((t480.length : Int) != 0) = true := bne_iff_ne.mpr c17
    have c17b2 : ¬ (t480 = []) := fun h_ => c17 (by rw [h_]; rfl)
    have H' := Aside0.mk H
    clear H
    have hcz135_0 : w11.cell? ⟨gb470, 0, none⟩ = some (.string (⟨#[]⟩ : ByteArray)) := (blk_cell BK470.out 0).trans rfl
    have hcz135_1 : w11.cell? ⟨gb470, 1, none⟩ = some (.slice none 0 0) := (blk_cell BK470.out 1).trans rfl
    have hcz135_2 : w11.cell? ⟨gb470, 2, none⟩ = some (.slice none 0 0) := (blk_cell BK470.out 2).trans rfl
    have hfz135_0 := blk_frozen BK470.out 0
    have hfz135_1 := blk_frozen BK470.out 1
    have hfz135_2 := blk_frozen BK470.out 2
    go_wp2_with (first | ((with_reducible refine gate_callee (f := 30) rfl ?_); refine goesL_ (some 35) rfl rfl Try.func30 (by kernel_rfl) rfl #[.agg #[.string (⟨#[]⟩ : ByteArray), .slice none 0 0, .slice none 0 0]] rfl (by (try simp only [List.map_toArray, List.map_cons, List.map_nil]); first | done | rfl | (simp only [List.length_drop, List.length_take]; rfl)) ?_; (refine (find_Index_Text.calls (⟨#[]⟩ : ByteArray) _ _ ([] : List Int) _ _ ([] : List Int) t476 _ ?side1 ?side2 ?side3 ?side4 A12.out).mono ?_); (case side1 => exact Kd.C_nil _ _); (case side2 => exact Nat.le_refl _); (case side3 => exact Kd.C_nil _ _); (case side4 => exact Nat.le_refl _); rintro e w136 ⟨rfl, hb⟩; refine ⟨_, rfl, ?_⟩; have n0_ := Aside0.mk (blk_below (g := gb470) (o := .cells #[.string (⟨#[]⟩ : ByteArray), .slice none 0 0, .slice none 0 0] 24 (0, 0)) (kX BK470.out) hb); have n1_ := Aside0.mk (below_step (by repeat (first | (with_reducible first | exact HB.out | apply lA | apply lN | apply lD | refine lS ?_ GE470.out) | exact HB.out)) hb); clear BK470; clear HB; have BK470 := n0_; have HB := n1_; clear n0_ n1_; (try clear hb); (try clear hb2); (try clear hk); (try clear hi); have hcz137_0 : w136.cell? ⟨gb470, 0, none⟩ = some (.string (⟨#[]⟩ : ByteArray)) := (blk_cell BK470.out 0).trans rfl; have hcz137_1 : w136.cell? ⟨gb470, 1, none⟩ = some (.slice none 0 0) := (blk_cell BK470.out 1).trans rfl; have hcz137_2 : w136.cell? ⟨gb470, 2, none⟩ = some (.slice none 0 0) := (blk_cell BK470.out 2).trans rfl; have hfz137_0 := blk_frozen BK470.out 0; have hfz137_1 := blk_frozen BK470.out 1; have hfz137_2 := blk_frozen BK470.out 2) | (go_at_call 31; (refine (find_Index_Order.calls (⟨#[]⟩ : ByteArray) _ _ ([] : List Int) _ _ ([] : List Int) t477 _ ?side1 ?side2 ?side3 ?side4 A14.out).mono ?_); (case side1 => exact Kd.C_nil _ _); (case side2 => exact Nat.le_refl _); (case side3 => exact Kd.C_nil _ _); (case side4 => exact Nat.le_refl _); rintro e w138 ⟨v478, rfl, ho0, hb⟩; have n0_ := Aside0.mk (Kd.R_lower ho0 (below_size (by repeat (first | (with_reducible first | exact HB.out | apply lA | apply lN | apply lD | refine lS ?_ GE470.out) | exact HB.out)))); have n1_ := Aside0.mk (blk_below (g := gb470) (o := .cells #[.string (⟨#[]⟩ : ByteArray), .slice none 0 0, .slice none 0 0] 24 (0, 0)) (kX BK470.out) hb); have n2_ := Aside0.mk (below_step (by repeat (first | (with_reducible first | exact HB.out | apply lA | apply lN | apply lD | refine lS ?_ GE470.out) | exact HB.out)) hb); clear BK470; clear HB; have HO479 := n0_; have BK470 := n1_; have HB := n2_; clear n0_ n1_ n2_; (try clear hb); (try clear hb2); (try clear hk); (try clear hi); (try clear ho0); obtain ⟨Ao139, co139, eo139⟩ := Kd.R_slice HO479.out; subst eo139; have hcz140_0 : w138.cell? ⟨gb470, 0, none⟩ = some (.string (⟨#[]⟩ : ByteArray)) := (blk_cell BK470.out 0).trans rfl; have hcz140_1 : w138.cell? ⟨gb470, 1, none⟩ = some (.slice none 0 0) := (blk_cell BK470.out 1).trans rfl; have hcz140_2 : w138.cell? ⟨gb470, 2, none⟩ = some (.slice none 0 0) := (blk_cell BK470.out 2).trans rfl; have hfz140_0 := blk_frozen BK470.out 0; have hfz140_1 := blk_frozen BK470.out 1; have hfz140_2 := blk_frozen BK470.out 2) | (go_at_call 28; (refine (find_Index_Overlaps.calls (⟨#[]⟩ : ByteArray) _ _ ([] : List Int) _ _ ([] : List Int) t480 _ ?side1 ?side2 ?side3 ?side4 A16.out).mono ?_); (case side1 => exact Kd.C_nil _ _); (case side2 => exact Nat.le_refl _); (case side3 => exact Kd.C_nil _ _); (case side4 => exact Nat.le_refl _); rintro e w141 ⟨v481, rfl, ho0, hb⟩; have n0_ := Aside0.mk (Kd.R_elder' (by (with_reducible repeat (first | apply Kd.R_alloc | apply Kd.R_drewN | apply Kd.R_drew)); exact HO479.out) (Kd.R_base ho0) hb); have n1_ := Aside0.mk (Kd.R_lower (Kd.R_new' ho0 (Kd.R_lt (by (with_reducible repeat (first | apply Kd.R_alloc | apply Kd.R_drewN | apply Kd.R_drew)); exact HO479.out))) (below_size (by repeat (first | (with_reducible first | exact HB.out | apply lA | apply lN | apply lD | refine lS ?_ GE470.out) | exact HB.out)))); have n2_ := Aside0.mk (blk_below (g := gb470) (o := .cells #[.string (⟨#[]⟩ : ByteArray), .slice none 0 0, .slice none 0 0] 24 (0, 0)) (kX BK470.out) hb); have n3_ := Aside0.mk (below_step (by repeat (first | (with_reducible first | exact HB.out | apply lA | apply lN | apply lD | refine lS ?_ GE470.out) | exact HB.out)) hb); clear HO479; clear BK470; clear HB; have HO479 := n0_; have HO482 := n1_; have BK470 := n2_; have HB := n3_; clear n0_ n1_ n2_ n3_; (try clear hb); (try clear hb2); (try clear hk); (try clear hi); (try clear ho0); obtain ⟨Ao142, co142, eo142⟩ := Kd.R_slice HO482.out; subst eo142))
    go_meet
    case rel => exact ⟨_, (true), (by first | rfl | (simp; done) | (simp [*]; done)), H', ⟨by first | omega | exact Nat.le_refl _⟩, ⟨by (with_reducible repeat (first | refine kN ?_ _ | refine kD ?_ | refine kA ?_ _)); exact BK470.out⟩, ⟨by repeat (first | (with_reducible first | exact HB.out | apply lA | apply lN | apply lD | refine lS ?_ GE470.out) | exact HB.out)⟩⟩
   rw [if_neg c15] at H
   have c15b0 : ((t477.length : Int) == 0) = false := beq_eq_false_iff_ne.mpr c15
   have c15b1 : ((t477.length : Int) != 0) = true := bne_iff_ne.mpr c15
   have c15b2 : ¬ (t477 = []) := fun h_ => c15 (by rw [h_]; rfl)
   have H' := Aside0.mk H
   clear H
   have hcz143_0 : w11.cell? ⟨gb470, 0, none⟩ = some (.string (⟨#[]⟩ : ByteArray)) := (blk_cell BK470.out 0).trans rfl
   have hcz143_1 : w11.cell? ⟨gb470, 1, none⟩ = some (.slice none 0 0) := (blk_cell BK470.out 1).trans rfl
   have hcz143_2 : w11.cell? ⟨gb470, 2, none⟩ = some (.slice none 0 0) := (blk_cell BK470.out 2).trans rfl
   have hfz143_0 := blk_frozen BK470.out 0
   have hfz143_1 := blk_frozen BK470.out 1
   have hfz143_2 := blk_frozen BK470.out 2
   go_wp2_with (first | ((with_reducible refine gate_callee (f := 30) rfl ?_); refine goesL_ (some 35) rfl rfl Try.func30 (by kernel_rfl) rfl #[.agg #[.string (⟨#[]⟩ : ByteArray), .slice none 0 0, .slice none 0 0]] rfl (by (try simp only [List.map_toArray, List.map_cons, List.map_nil]); first | done | rfl | (simp only [List.length_drop, List.length_take]; rfl)) ?_; (refine (find_Index_Text.calls (⟨#[]⟩ : ByteArray) _ _ ([] : List Int) _ _ ([] : List Int) t476 _ ?side1 ?side2 ?side3 ?side4 A12.out).mono ?_); (case side1 => exact Kd.C_nil _ _); (case side2 => exact Nat.le_refl _); (case side3 => exact Kd.C_nil _ _); (case side4 => exact Nat.le_refl _); rintro e w144 ⟨rfl, hb⟩; refine ⟨_, rfl, ?_⟩; have n0_ := Aside0.mk (blk_below (g := gb470) (o := .cells #[.string (⟨#[]⟩ : ByteArray), .slice none 0 0, .slice none 0 0] 24 (0, 0)) (kX BK470.out) hb); have n1_ := Aside0.mk (below_step (by repeat (first | (with_reducible first | exact HB.out | apply lA | apply lN | apply lD | refine lS ?_ GE470.out) | exact HB.out)) hb); clear BK470; clear HB; have BK470 := n0_; have HB := n1_; clear n0_ n1_; (try clear hb); (try clear hb2); (try clear hk); (try clear hi); have hcz145_0 : w144.cell? ⟨gb470, 0, none⟩ = some (.string (⟨#[]⟩ : ByteArray)) := (blk_cell BK470.out 0).trans rfl; have hcz145_1 : w144.cell? ⟨gb470, 1, none⟩ = some (.slice none 0 0) := (blk_cell BK470.out 1).trans rfl; have hcz145_2 : w144.cell? ⟨gb470, 2, none⟩ = some (.slice none 0 0) := (blk_cell BK470.out 2).trans rfl; have hfz145_0 := blk_frozen BK470.out 0; have hfz145_1 := blk_frozen BK470.out 1; have hfz145_2 := blk_frozen BK470.out 2) | (go_at_call 31; (refine (find_Index_Order.calls (⟨#[]⟩ : ByteArray) _ _ ([] : List Int) _ _ ([] : List Int) t477 _ ?side1 ?side2 ?side3 ?side4 A14.out).mono ?_); (case side1 => exact Kd.C_nil _ _); (case side2 => exact Nat.le_refl _); (case side3 => exact Kd.C_nil _ _); (case side4 => exact Nat.le_refl _); rintro e w146 ⟨v478, rfl, ho0, hb⟩; have n0_ := Aside0.mk (Kd.R_lower ho0 (below_size (by repeat (first | (with_reducible first | exact HB.out | apply lA | apply lN | apply lD | refine lS ?_ GE470.out) | exact HB.out)))); have n1_ := Aside0.mk (blk_below (g := gb470) (o := .cells #[.string (⟨#[]⟩ : ByteArray), .slice none 0 0, .slice none 0 0] 24 (0, 0)) (kX BK470.out) hb); have n2_ := Aside0.mk (below_step (by repeat (first | (with_reducible first | exact HB.out | apply lA | apply lN | apply lD | refine lS ?_ GE470.out) | exact HB.out)) hb); clear BK470; clear HB; have HO479 := n0_; have BK470 := n1_; have HB := n2_; clear n0_ n1_ n2_; (try clear hb); (try clear hb2); (try clear hk); (try clear hi); (try clear ho0); obtain ⟨Ao147, co147, eo147⟩ := Kd.R_slice HO479.out; subst eo147))
   go_meet
   case rel => exact ⟨_, (true), (by first | rfl | (simp; done) | (simp [*]; done)), H', ⟨by first | omega | exact Nat.le_refl _⟩, ⟨by (with_reducible repeat (first | refine kN ?_ _ | refine kD ?_ | refine kA ?_ _)); exact BK470.out⟩, ⟨by repeat (first | (with_reducible first | exact HB.out | apply lA | apply lN | apply lD | refine lS ?_ GE470.out) | exact HB.out)⟩⟩
  rw [if_neg c13] at H
  have c13b0 : (t476.toList == ([] : List UInt8)) = false := beq_eq_false_iff_ne.mpr c13
  have c13b1 : (t476.toList != ([] : List UInt8)) = true := bne_iff_ne.mpr c13
  (first | rw [c13b0] | (simp only [i64_w, i32_w]; rw [c13b0]) | rw [c13b1] | skip)
  have H' := Aside0.mk H
  clear H
  have hcz148_0 : w11.cell? ⟨gb470, 0, none⟩ = some (.string (⟨#[]⟩ : ByteArray)) := (blk_cell BK470.out 0).trans rfl
  have hcz148_1 : w11.cell? ⟨gb470, 1, none⟩ = some (.slice none 0 0) := (blk_cell BK470.out 1).trans rfl
  have hcz148_2 : w11.cell? ⟨gb470, 2, none⟩ = some (.slice none 0 0) := (blk_cell BK470.out 2).trans rfl
  have hfz148_0 := blk_frozen BK470.out 0
  have hfz148_1 := blk_frozen BK470.out 1
  have hfz148_2 := blk_frozen BK470.out 2
  go_wp2_with (first | ((with_reducible refine gate_callee (f := 30) rfl ?_); refine goesL_ (some 35) rfl rfl Try.func30 (by kernel_rfl) rfl #[.agg #[.string (⟨#[]⟩ : ByteArray), .slice none 0 0, .slice none 0 0]] rfl (by (try simp only [List.map_toArray, List.map_cons, List.map_nil]); first | done | rfl | (simp only [List.length_drop, List.length_take]; rfl)) ?_; (refine (find_Index_Text.calls (⟨#[]⟩ : ByteArray) _ _ ([] : List Int) _ _ ([] : List Int) t476 _ ?side1 ?side2 ?side3 ?side4 A12.out).mono ?_); (case side1 => exact Kd.C_nil _ _); (case side2 => exact Nat.le_refl _); (case side3 => exact Kd.C_nil _ _); (case side4 => exact Nat.le_refl _); rintro e w149 ⟨rfl, hb⟩; refine ⟨_, rfl, ?_⟩; have n0_ := Aside0.mk (blk_below (g := gb470) (o := .cells #[.string (⟨#[]⟩ : ByteArray), .slice none 0 0, .slice none 0 0] 24 (0, 0)) (kX BK470.out) hb); have n1_ := Aside0.mk (below_step (by repeat (first | (with_reducible first | exact HB.out | apply lA | apply lN | apply lD | refine lS ?_ GE470.out) | exact HB.out)) hb); clear BK470; clear HB; have BK470 := n0_; have HB := n1_; clear n0_ n1_; (try clear hb); (try clear hb2); (try clear hk); (try clear hi)))
  go_meet
  case rel => exact ⟨_, (true), (by first | rfl | (simp; done) | (simp [*]; done)), H', ⟨by first | omega | exact Nat.le_refl _⟩, ⟨by (with_reducible repeat (first | refine kN ?_ _ | refine kD ?_ | refine kA ?_ _)); exact BK470.out⟩, ⟨by repeat (first | (with_reducible first | exact HB.out | apply lA | apply lN | apply lD | refine lS ?_ GE470.out) | exact HB.out)⟩⟩
 case rest =>
  clear HC6
  try clear c1
  try clear c2
  try clear p2
  try clear c3
  try clear c13
  try clear c13b0
  try clear c13b1
  try clear c15
  try clear c15b0
  try clear c15b1
  try clear c15b2
  try clear c17
  try clear c17b0
  try clear c17b1
  try clear c17b2
  try clear c19
  try clear c19b0
  try clear c19b1
  try clear c21
  try clear c21b0
  try clear c21b1
  try clear c21b2
  try clear c22
  try clear c22b0
  try clear c22b1
  try clear c23
  try clear c23b0
  try clear c23b1
  try clear c24
  try clear c24b0
  try clear c24b1
  try clear c26
  try clear c26b0
  try clear c26b1
  try clear c27
  try clear c27b0
  try clear c27b1
  try clear c30
  try clear c35
  try clear hcz101_0
  try clear hcz101_1
  try clear hcz101_2
  try clear hcz104_0
  try clear hcz104_1
  try clear hcz104_2
  try clear hcz107_0
  try clear hcz107_1
  try clear hcz107_2
  try clear hcz109_0
  try clear hcz109_1
  try clear hcz109_2
  try clear hcz10_0
  try clear hcz10_1
  try clear hcz10_2
  try clear hcz112_0
  try clear hcz112_1
  try clear hcz112_2
  try clear hcz114_0
  try clear hcz114_1
  try clear hcz114_2
  try clear hcz117_0
  try clear hcz117_1
  try clear hcz117_2
  try clear hcz120_0
  try clear hcz120_1
  try clear hcz120_2
  try clear hcz122_0
  try clear hcz122_1
  try clear hcz122_2
  try clear hcz125_0
  try clear hcz125_1
  try clear hcz125_2
  try clear hcz127_0
  try clear hcz127_1
  try clear hcz127_2
  try clear hcz130_0
  try clear hcz130_1
  try clear hcz130_2
  try clear hcz133_0
  try clear hcz133_1
  try clear hcz133_2
  try clear hcz135_0
  try clear hcz135_1
  try clear hcz135_2
  try clear hcz137_0
  try clear hcz137_1
  try clear hcz137_2
  try clear hcz140_0
  try clear hcz140_1
  try clear hcz140_2
  try clear hcz143_0
  try clear hcz143_1
  try clear hcz143_2
  try clear hcz145_0
  try clear hcz145_1
  try clear hcz145_2
  try clear hcz148_0
  try clear hcz148_1
  try clear hcz148_2
  try clear hcz28_0
  try clear hcz28_1
  try clear hcz28_2
  try clear hcz30_0
  try clear hcz30_1
  try clear hcz30_2
  try clear hcz33_0
  try clear hcz33_1
  try clear hcz33_2
  try clear hcz36_0
  try clear hcz36_1
  try clear hcz36_2
  try clear hcz38_0
  try clear hcz38_1
  try clear hcz38_2
  try clear hcz41_0
  try clear hcz41_1
  try clear hcz41_2
  try clear hcz43_0
  try clear hcz43_1
  try clear hcz43_2
  try clear hcz45_0
  try clear hcz45_1
  try clear hcz45_2
  try clear hcz48_0
  try clear hcz48_1
  try clear hcz48_2
  try clear hcz51_0
  try clear hcz51_1
  try clear hcz51_2
  try clear hcz53_0
  try clear hcz53_1
  try clear hcz53_2
  try clear hcz56_0
  try clear hcz56_1
  try clear hcz56_2
  try clear hcz58_0
  try clear hcz58_1
  try clear hcz58_2
  try clear hcz60_0
  try clear hcz60_1
  try clear hcz60_2
  try clear hcz63_0
  try clear hcz63_1
  try clear hcz63_2
  try clear hcz66_0
  try clear hcz66_1
  try clear hcz66_2
  try clear hcz68_0
  try clear hcz68_1
  try clear hcz68_2
  try clear hcz71_0
  try clear hcz71_1
  try clear hcz71_2
  try clear hcz73_0
  try clear hcz73_1
  try clear hcz73_2
  try clear hcz75_0
  try clear hcz75_1
  try clear hcz75_2
  try clear hcz78_0
  try clear hcz78_1
  try clear hcz78_2
  try clear hcz81_0
  try clear hcz81_1
  try clear hcz81_2
  try clear hcz83_0
  try clear hcz83_1
  try clear hcz83_2
  try clear hcz86_0
  try clear hcz86_1
  try clear hcz86_2
  try clear hcz88_0
  try clear hcz88_1
  try clear hcz88_2
  try clear hcz8_0
  try clear hcz8_1
  try clear hcz8_2
  try clear hcz91_0
  try clear hcz91_1
  try clear hcz91_2
  try clear hcz94_0
  try clear hcz94_1
  try clear hcz94_2
  try clear hcz96_0
  try clear hcz96_1
  try clear hcz96_2
  try clear hcz99_0
  try clear hcz99_1
  try clear hcz99_2
  try clear hfz101_0
  try clear hfz101_1
  try clear hfz101_2
  try clear hfz104_0
  try clear hfz104_1
  try clear hfz104_2
  try clear hfz107_0
  try clear hfz107_1
  try clear hfz107_2
  try clear hfz109_0
  try clear hfz109_1
  try clear hfz109_2
  try clear hfz10_0
  try clear hfz10_1
  try clear hfz10_2
  try clear hfz112_0
  try clear hfz112_1
  try clear hfz112_2
  try clear hfz114_0
  try clear hfz114_1
  try clear hfz114_2
  try clear hfz117_0
  try clear hfz117_1
  try clear hfz117_2
  try clear hfz120_0
  try clear hfz120_1
  try clear hfz120_2
  try clear hfz122_0
  try clear hfz122_1
  try clear hfz122_2
  try clear hfz125_0
  try clear hfz125_1
  try clear hfz125_2
  try clear hfz127_0
  try clear hfz127_1
  try clear hfz127_2
  try clear hfz130_0
  try clear hfz130_1
  try clear hfz130_2
  try clear hfz133_0
  try clear hfz133_1
  try clear hfz133_2
  try clear hfz135_0
  try clear hfz135_1
  try clear hfz135_2
  try clear hfz137_0
  try clear hfz137_1
  try clear hfz137_2
  try clear hfz140_0
  try clear hfz140_1
  try clear hfz140_2
  try clear hfz143_0
  try clear hfz143_1
  try clear hfz143_2
  try clear hfz145_0
  try clear hfz145_1
  try clear hfz145_2
  try clear hfz148_0
  try clear hfz148_1
  try clear hfz148_2
  try clear hfz28_0
  try clear hfz28_1
  try clear hfz28_2
  try clear hfz30_0
  try clear hfz30_1
  try clear hfz30_2
  try clear hfz33_0
  try clear hfz33_1
  try clear hfz33_2
  try clear hfz36_0
  try clear hfz36_1
  try clear hfz36_2
  try clear hfz38_0
  try clear hfz38_1
  try clear hfz38_2
  try clear hfz41_0
  try clear hfz41_1
  try clear hfz41_2
  try clear hfz43_0
  try clear hfz43_1
  try clear hfz43_2
  try clear hfz45_0
  try clear hfz45_1
  try clear hfz45_2
  try clear hfz48_0
  try clear hfz48_1
  try clear hfz48_2
  try clear hfz51_0
  try clear hfz51_1
  try clear hfz51_2
  try clear hfz53_0
  try clear hfz53_1
  try clear hfz53_2
  try clear hfz56_0
  try clear hfz56_1
  try clear hfz56_2
  try clear hfz58_0
  try clear hfz58_1
  try clear hfz58_2
  try clear hfz60_0
  try clear hfz60_1
  try clear hfz60_2
  try clear hfz63_0
  try clear hfz63_1
  try clear hfz63_2
  try clear hfz66_0
  try clear hfz66_1
  try clear hfz66_2
  try clear hfz68_0
  try clear hfz68_1
  try clear hfz68_2
  try clear hfz71_0
  try clear hfz71_1
  try clear hfz71_2
  try clear hfz73_0
  try clear hfz73_1
  try clear hfz73_2
  try clear hfz75_0
  try clear hfz75_1
  try clear hfz75_2
  try clear hfz78_0
  try clear hfz78_1
  try clear hfz78_2
  try clear hfz81_0
  try clear hfz81_1
  try clear hfz81_2
  try clear hfz83_0
  try clear hfz83_1
  try clear hfz83_2
  try clear hfz86_0
  try clear hfz86_1
  try clear hfz86_2
  try clear hfz88_0
  try clear hfz88_1
  try clear hfz88_2
  try clear hfz8_0
  try clear hfz8_1
  try clear hfz8_2
  try clear hfz91_0
  try clear hfz91_1
  try clear hfz91_2
  try clear hfz94_0
  try clear hfz94_1
  try clear hfz94_2
  try clear hfz96_0
  try clear hfz96_1
  try clear hfz96_2
  try clear hfz99_0
  try clear hfz99_1
  try clear hfz99_2
  obtain ⟨kq, x86_5, rfl, HA, HJ5, BK470, HB⟩ := hcut
  cases kq with
  | zero => exact absurd HA.out (by simp [silversidelaw07_FindZero.j0])
  | succ kj5 =>
   have H := HA.out
   clear HA
   simp only [silversidelaw07_FindZero.j0] at H
   by_cases c150 : x86_5 = true
   ·subst c150
    exact absurd ((Option.some.inj (show (some false : Option Bool) = some r from by rw [if_pos rfl] at H; exact H)).trans hr_.out) (by decide)
   ·replace c150 := Bool.eq_false_iff.mpr c150
    subst c150
    have H1 : (if 0 ≤ (mn (a0.size : Int) 200) then (if (mn (a0.size : Int) 200) ≤ (a0.size : Int) then ((find_New.f kj5 (a0.extract 0 ((mn (a0.size : Int) 200) : Int).toNat)).bind fun bt488 => ((find_Index_Order.f bt488.1 bt488.2.1 bt488.2.2.1).bind fun t497 => ((find_Index_Overlaps.f bt488.1 bt488.2.1 bt488.2.2.1).bind fun t500 => ((find_Index_Find.f bt488.1 bt488.2.1 bt488.2.2.1 (⟨#[]⟩ : ByteArray)).bind fun t503 => (silversidelaw07_FindZero.l0 kj5 (a0.extract 0 ((mn (a0.size : Int) 200) : Int).toNat) bt488.2.2.2 t497 t500 t503 0 bt488.1 bt488.2.1 bt488.2.2.1))))) else (none)) else (none)) = some r := by rw [if_neg (show ¬ (false = true) by decide)] at H; exact H
    clear H
    have H := H1
    clear H1
    obtain ⟨ji151, hji151⟩ : ∃ j_ : Int, (mn (a0.size : Int) 200) = j_ := ⟨_, rfl⟩
    replace H : (if 0 ≤ (ji151) then (if (ji151) ≤ (a0.size : Int) then ((find_New.f kj5 (a0.extract 0 ((ji151) : Int).toNat)).bind fun bt488 => ((find_Index_Order.f bt488.1 bt488.2.1 bt488.2.2.1).bind fun t497 => ((find_Index_Overlaps.f bt488.1 bt488.2.1 bt488.2.2.1).bind fun t500 => ((find_Index_Find.f bt488.1 bt488.2.1 bt488.2.2.1 (⟨#[]⟩ : ByteArray)).bind fun t503 => (silversidelaw07_FindZero.l0 kj5 (a0.extract 0 ((ji151) : Int).toNat) bt488.2.2.2 t497 t500 t503 0 bt488.1 bt488.2.1 bt488.2.2.1))))) else (none)) else (none)) = some r := by first | (rw [hji151] at H; exact H) | (simp only [hji151] at H ⊢; exact H)
    have hji151_ : (if 200 < (a0.size : Int) then 200 else (a0.size : Int)) = ji151 := hji151
    by_cases c152 : 0 ≤ (ji151)
    ·rw [if_pos c152] at H
     have c152b0 := eq_true c152
     have c152b1 : decide (0 ≤ (ji151)) = true := decide_eq_true c152
     clear c152
     by_cases c153 : (ji151) ≤ (a0.size : Int)
     ·rw [if_pos c153] at H
      have c153b0 := eq_true c153
      have c153b1 : decide ((ji151) ≤ (a0.size : Int)) = true := decide_eq_true c153
      clear c153
      obtain ⟨sa0_, hsa0_⟩ : ∃ s_ : ByteArray, a0.extract 0 ((ji151) : Int).toNat = s_ := ⟨_, rfl⟩
      rw [hsa0_] at H
      have hsa0_z : (a0.extract 0 ((ji151) : Int).toNat).size = min ((ji151) : Int).toNat a0.size - 0 := ByteArray.size_extract
      rw [hsa0_] at hsa0_z
      replace hsa0_z : sa0_.size ≤ 4096 := by omega
      replace H := Option.bind_eq_some_iff.mp H
      obtain ⟨⟨t488, t489, t492, t495⟩, A1540, H⟩ := H
      replace H : ((find_Index_Order.f t488 t489 t492).bind fun t497 => ((find_Index_Overlaps.f t488 t489 t492).bind fun t500 => ((find_Index_Find.f t488 t489 t492 (⟨#[]⟩ : ByteArray)).bind fun t503 => (silversidelaw07_FindZero.l0 kj5 sa0_ t495 t497 t500 t503 0 t488 t489 t492)))) = some r := H
      have A154 := Aside0.mk A1540
      clear A1540
      replace H := Option.bind_eq_some_iff.mp H
      obtain ⟨t497, A1550, H⟩ := H
      replace H : ((find_Index_Overlaps.f t488 t489 t492).bind fun t500 => ((find_Index_Find.f t488 t489 t492 (⟨#[]⟩ : ByteArray)).bind fun t503 => (silversidelaw07_FindZero.l0 kj5 sa0_ t495 t497 t500 t503 0 t488 t489 t492))) = some r := H
      have A155 := Aside0.mk A1550
      clear A1550
      replace H := Option.bind_eq_some_iff.mp H
      obtain ⟨t500, A1560, H⟩ := H
      replace H : ((find_Index_Find.f t488 t489 t492 (⟨#[]⟩ : ByteArray)).bind fun t503 => (silversidelaw07_FindZero.l0 kj5 sa0_ t495 t497 t500 t503 0 t488 t489 t492)) = some r := H
      have A156 := Aside0.mk A1560
      clear A1560
      replace H := Option.bind_eq_some_iff.mp H
      obtain ⟨t503, A1570, H⟩ := H
      replace H : (silversidelaw07_FindZero.l0 kj5 sa0_ t495 t497 t500 t503 0 t488 t489 t492) = some r := H
      have A157 := Aside0.mk A1570
      clear A1570
      have H' := Aside0.mk H
      clear H
      try go_wp2_with (first | ((with_reducible refine gate_callee (f := 16) rfl ?_); refine goesL_ (some 94) rfl rfl Try.func16 (by kernel_rfl) rfl #[.string sa0_] rfl (by (try simp only [List.map_toArray, List.map_cons, List.map_nil]); first | done | (simp only [hji151]; rfl) | rfl | (simp only [List.length_drop, List.length_take]; rfl)) ?_; (with_reducible refine (find_New.calls kj5 sa0_ t488 t489 t492 t495 _ A154.out).mono ?_); rintro e w158 ⟨v490, v493, rfl, ho0, ho1, hb⟩; refine ⟨_, rfl, ?_⟩; have n0_ := Aside0.mk (Kd.R_lower ho0 (below_size (by repeat (first | (with_reducible first | exact HB.out | apply lA | apply lN | apply lD | refine lS ?_ GE470.out) | exact HB.out)))); have n1_ := Aside0.mk (Kd.R_lower ho1 (below_size (by repeat (first | (with_reducible first | exact HB.out | apply lA | apply lN | apply lD | refine lS ?_ GE470.out) | exact HB.out)))); have n2_ := Aside0.mk (blk_below (g := gb470) (o := .cells #[.string (⟨#[]⟩ : ByteArray), .slice none 0 0, .slice none 0 0] 24 (0, 0)) (kX BK470.out) hb); have n3_ := Aside0.mk (below_step (by repeat (first | (with_reducible first | exact HB.out | apply lA | apply lN | apply lD | refine lS ?_ GE470.out) | exact HB.out)) hb); clear BK470; clear HB; have HO491 := n0_; have HO494 := n1_; have BK470 := n2_; have HB := n3_; clear n0_ n1_ n2_ n3_; (try clear hb); (try clear hb2); (try clear hk); (try clear hi); (try clear ho0); (try clear ho1)) | ((with_reducible refine gate_dst (N := 13) rfl ?_); (try (refine gate_guard (by rfl) ?_; dsimp only)); refine box_event ?hg (N := 13) ?hd (cs := #[.string (⟨#[]⟩ : ByteArray), .slice none 0 0, .slice none 0 0]) (t := 24) ?hr ?_; (case hd => rfl); (case hg => rfl); (case hr => first | (go_simp; done) | (go_simp; rfl)); intro gb496 hg w159 hbox hb; have n0_ := Aside0.mk (Kd.R_below (by (with_reducible repeat (first | apply Kd.R_alloc | apply Kd.R_drewN | apply Kd.R_drew)); exact HO491.out) hb); have n1_ := Aside0.mk (Kd.R_below (by (with_reducible repeat (first | apply Kd.R_alloc | apply Kd.R_drewN | apply Kd.R_drew)); exact HO494.out) hb); have n2_ := Aside0.mk (blk_below (g := gb470) (o := .cells #[.string (⟨#[]⟩ : ByteArray), .slice none 0 0, .slice none 0 0] 24 (0, 0)) (kX BK470.out) hb); have n3_ := Aside0.mk (below_step (by repeat (first | (with_reducible first | exact HB.out | apply lA | apply lN | apply lD | refine lS ?_ GE470.out) | exact HB.out)) hb); have n4_ := Aside0.mk (hbox); have n5_ := Aside0.mk ((by rw [hg]; exact (below_size (by repeat (first | (with_reducible first | exact HB.out | apply lA | apply lN | apply lD | refine lS ?_ GE470.out) | exact HB.out))) : w.heap.size ≤ gb496)); have n6_ := Aside0.mk ((by rw [hg]; exact (below_size (by repeat (first | (with_reducible first | exact HB.out | apply lA | apply lN | apply lD | refine lS ?_ GE470.out) | exact HB.out))) : w.heap.size ≤ gb496)); have n7_ := Aside0.mk ((by rw [hg]; exact Nat.ne_of_lt (blk_lt (g := gb470) (o := .cells #[.string (⟨#[]⟩ : ByteArray), .slice none 0 0, .slice none 0 0] 24 (0, 0)) (kX BK470.out)) : gb470 ≠ gb496)); have n8_ := Aside0.mk ((by rw [hg]; exact Nat.ne_of_gt (blk_lt (g := gb470) (o := .cells #[.string (⟨#[]⟩ : ByteArray), .slice none 0 0, .slice none 0 0] 24 (0, 0)) (kX BK470.out)) : gb496 ≠ gb470)); clear HO491; clear HO494; clear BK470; clear HB; have HO491 := n0_; have HO494 := n1_; have BK470 := n2_; have HB := n3_; have BK496 := n4_; have GW496 := n5_; have GE496 := n6_; have NB470_496 := n7_; have NB496_470 := n8_; clear n0_ n1_ n2_ n3_ n4_ n5_ n6_ n7_ n8_; clear hb hbox hg; have hnb160 := NB496_470.out; have hnc160 := NB470_496.out; have hcz161_0 : w159.cell? ⟨gb496, 0, none⟩ = some (.string (⟨#[]⟩ : ByteArray)) := (blk_cell BK496.out 0).trans rfl; have hcz161_1 : w159.cell? ⟨gb496, 1, none⟩ = some (.slice none 0 0) := (blk_cell BK496.out 1).trans rfl; have hcz161_2 : w159.cell? ⟨gb496, 2, none⟩ = some (.slice none 0 0) := (blk_cell BK496.out 2).trans rfl; have hfz161_0 := blk_frozen BK496.out 0; have hfz161_1 := blk_frozen BK496.out 1; have hfz161_2 := blk_frozen BK496.out 2; obtain ⟨Ao162, co162, eo162⟩ := Kd.R_slice HO491.out; subst eo162; obtain ⟨Ao163, co163, eo163⟩ := Kd.R_slice HO494.out; subst eo163))
      have n0_ : Aside0 (Kd.R (Kd.int .i64) 3 (((w159.setCell ⟨gb496, 0, none⟩ (.string t488)).setCell ⟨gb496, 1, none⟩ (.slice Ao162 t489.length co162)).setCell ⟨gb496, 2, none⟩ (.slice Ao163 t492.length co163)) w.heap.size (fun k_ => some k_ ≠ (.slice Ao163 t492.length co163 : Value).ownBlock) (.slice Ao162 t489.length co162) t489) := ⟨by (with_reducible repeat (first | apply Kd.R_alloc | apply Kd.R_drewN | apply Kd.R_drew)); exact Kd.R_mono (Kd.R_far (p := ⟨gb496, 2, none⟩) (Kd.R_far (p := ⟨gb496, 1, none⟩) (Kd.R_far (p := ⟨gb496, 0, none⟩) (Kd.R_types HO491.out BK496.out (by decide)) (fun _ hk => hk.2) (.string t488)) (fun _ hk => hk.2) (.slice Ao162 t489.length co162)) (fun _ hk => hk.2) (.slice Ao163 t492.length co163)) (fun _ hk => hk.1)⟩
      have n1_ : Aside0 (Kd.R (Kd.int .i64) 3 (((w159.setCell ⟨gb496, 0, none⟩ (.string t488)).setCell ⟨gb496, 1, none⟩ (.slice Ao162 t489.length co162)).setCell ⟨gb496, 2, none⟩ (.slice Ao163 t492.length co163)) w.heap.size (fun k_ => some k_ ≠ (.slice Ao162 t489.length co162 : Value).ownBlock) (.slice Ao163 t492.length co163) t492) := ⟨by (with_reducible repeat (first | apply Kd.R_alloc | apply Kd.R_drewN | apply Kd.R_drew)); exact Kd.R_mono (Kd.R_far (p := ⟨gb496, 2, none⟩) (Kd.R_far (p := ⟨gb496, 1, none⟩) (Kd.R_far (p := ⟨gb496, 0, none⟩) (Kd.R_types HO494.out BK496.out (by decide)) (fun _ hk => hk.2) (.string t488)) (fun _ hk => hk.2) (.slice Ao162 t489.length co162)) (fun _ hk => hk.2) (.slice Ao163 t492.length co163)) (fun _ hk => hk.1)⟩
      have n2_ : Aside0 ((((w159.setCell ⟨gb496, 0, none⟩ (.string t488)).setCell ⟨gb496, 1, none⟩ (.slice Ao162 t489.length co162)).setCell ⟨gb496, 2, none⟩ (.slice Ao163 t492.length co163)).heap[gb470]? = some (.cells #[.string (⟨#[]⟩ : ByteArray), .slice none 0 0, .slice none 0 0] 24 (0, 0))) := ⟨by (with_reducible repeat (first | refine kN ?_ _ | refine kD ?_ | refine kA ?_ _)); refine blk_far ?_ NB470_496.out _; (with_reducible repeat (first | refine kN ?_ _ | refine kD ?_ | refine kA ?_ _)); refine blk_far ?_ NB470_496.out _; (with_reducible repeat (first | refine kN ?_ _ | refine kD ?_ | refine kA ?_ _)); refine blk_far ?_ NB470_496.out _; (with_reducible repeat (first | refine kN ?_ _ | refine kD ?_ | refine kA ?_ _)); exact BK470.out⟩
      have n3_ : Aside0 ((((w159.setCell ⟨gb496, 0, none⟩ (.string t488)).setCell ⟨gb496, 1, none⟩ (.slice Ao162 t489.length co162)).setCell ⟨gb496, 2, none⟩ (.slice Ao163 t492.length co163)).heap[gb496]? = some (.cells #[.string t488, .slice Ao162 t489.length co162, .slice Ao163 t492.length co163] 24 (0, 0))) := ⟨by (with_reducible repeat (first | refine kN ?_ _ | refine kD ?_ | refine kA ?_ _)); refine blk_put (cs := #[.string t488, .slice Ao162 t489.length co162, .slice none 0 0]) ?_ 2 _ rfl; (with_reducible repeat (first | refine kN ?_ _ | refine kD ?_ | refine kA ?_ _)); refine blk_put (cs := #[.string t488, .slice none 0 0, .slice none 0 0]) ?_ 1 _ rfl; (with_reducible repeat (first | refine kN ?_ _ | refine kD ?_ | refine kA ?_ _)); refine blk_put (cs := #[.string (⟨#[]⟩ : ByteArray), .slice none 0 0, .slice none 0 0]) ?_ 0 _ rfl; (with_reducible repeat (first | refine kN ?_ _ | refine kD ?_ | refine kA ?_ _)); exact BK496.out⟩
      have n4_ : Aside0 (Below w.heap.size w (((w159.setCell ⟨gb496, 0, none⟩ (.string t488)).setCell ⟨gb496, 1, none⟩ (.slice Ao162 t489.length co162)).setCell ⟨gb496, 2, none⟩ (.slice Ao163 t492.length co163))) := ⟨by repeat (first | (with_reducible first | exact HB.out | apply lA | apply lN | apply lD | refine lS ?_ GE470.out | refine lS ?_ GE496.out) | exact HB.out)⟩
      (try clear HO491)
      (try clear HO494)
      (try clear BK470)
      (try clear BK496)
      (try clear HB)
      generalize (((w159.setCell ⟨gb496, 0, none⟩ (.string t488)).setCell ⟨gb496, 1, none⟩ (.slice Ao162 t489.length co162)).setCell ⟨gb496, 2, none⟩ (.slice Ao163 t492.length co163)) = w164 at n0_ n1_ n2_ n3_ n4_ ⊢
      have HO491 := n0_
      have HO494 := n1_
      have BK470 := n2_
      have BK496 := n3_
      have HB := n4_
      clear n0_ n1_ n2_ n3_ n4_
      replace HO491 := Aside0.mk (Kd.R_drew HO491.out)
      replace HO494 := Aside0.mk (Kd.R_drew HO494.out)
      replace BK470 := Aside0.mk (kD BK470.out)
      replace BK496 := Aside0.mk (kD BK496.out)
      replace HB := Aside0.mk (lD HB.out)
      refine start_ (n := 9) (S := fun w' => w'.cell? ⟨gb496, 0, none⟩ = some (.string t488) ∧ w'.cell? ⟨gb496, 1, none⟩ = some (.slice Ao162 t489.length co162) ∧ w'.cell? ⟨gb496, 2, none⟩ = some (.slice Ao163 t492.length co163)) (ds := []) (Bs 0 9) (by kernel_rfl) rfl rfl ⟨(blk_cell BK496.out 0).trans rfl, (blk_cell BK496.out 1).trans rfl, (blk_cell BK496.out 2).trans rfl⟩ (fun hHeld => ?_); refine with_tabW silversidelaw07_FindZero.tab8 silversidelaw07_FindZero.bits8 (fun HT_ HW_ => ?_)
      generalize w164.drew = w165 at HO491 HO494 BK470 BK496 HB hHeld ⊢
      refine ta 0 97 (Bs 1 9) HT_ HW_ hHeld ?_
      refine ta 2 99 #[τ,φ,τ,φ,φ,φ,φ,φ,φ] HT_ HW_ hHeld ?_
      refine ta 4 101 #[τ,φ,τ,φ,τ,φ,φ,φ,φ] HT_ HW_ hHeld ?_
      refine one_ (i := 1) (N := some 98) #[τ,τ,τ,φ,τ,φ,φ,φ,φ] rfl rfl (one_of HT_.out (by kernel_rfl)) (by decide) (fun K hK => ?_)
      refine goes_ Try.func31 (by kernel_rfl) rfl #[.agg #[.string t488, .slice Ao162 t489.length co162, .slice Ao163 t492.length co163]] (by rfl) rfl rfl (by (try simp only [List.map_toArray, List.map_cons, List.map_nil]); first | done | rfl | (simp only [List.length_drop, List.length_take]; rfl)) ?_
      with_reducible refine (find_Index_Order.calls t488 _ _ t489 _ _ t492 t497 _ ?side1 ?side2 ?side3 ?side4 A155.out).mono ?_
      (case side1 => repeat (first | exact (Kd.R_reads' HO491.out).2.2 | (with_reducible refine Kd.C_alloc ?_ _) | (with_reducible refine Kd.C_drewN ?_ _) | (with_reducible refine Kd.C_drew ?_)))
      (case side2 => exact (Kd.R_reads' HO491.out).2.1)
      (case side3 => repeat (first | exact (Kd.R_reads' HO494.out).2.2 | (with_reducible refine Kd.C_alloc ?_ _) | (with_reducible refine Kd.C_drewN ?_ _) | (with_reducible refine Kd.C_drew ?_)))
      (case side4 => exact (Kd.R_reads' HO494.out).2.1)
      rintro e w166 ⟨v498, rfl, ho0, hb⟩
      refine ⟨_, rfl, ?_⟩
      have n0_ := Aside0.mk (Kd.R_elder' (by (with_reducible repeat (first | apply Kd.R_alloc | apply Kd.R_drewN | apply Kd.R_drew)); exact HO491.out) (Kd.R_base ho0) hb)
      have n1_ := Aside0.mk (Kd.R_elder' (by (with_reducible repeat (first | apply Kd.R_alloc | apply Kd.R_drewN | apply Kd.R_drew)); exact HO494.out) (Kd.R_base ho0) hb)
      have n2_ := Aside0.mk (Kd.R_lower (Kd.R_new' (Kd.R_new' ho0 (Kd.R_lt (by (with_reducible repeat (first | apply Kd.R_alloc | apply Kd.R_drewN | apply Kd.R_drew)); exact HO491.out))) (Kd.R_lt (by (with_reducible repeat (first | apply Kd.R_alloc | apply Kd.R_drewN | apply Kd.R_drew)); exact HO494.out))) (below_size (by repeat (first | (with_reducible first | exact HB.out | apply lA | apply lN | apply lD | refine lS ?_ GE470.out | refine lS ?_ GE496.out) | exact HB.out))))
      have n3_ := Aside0.mk (blk_below (g := gb470) (o := .cells #[.string (⟨#[]⟩ : ByteArray), .slice none 0 0, .slice none 0 0] 24 (0, 0)) (kX BK470.out) hb)
      have n4_ := Aside0.mk (blk_below (g := gb496) (o := .cells #[.string t488, .slice Ao162 t489.length co162, .slice Ao163 t492.length co163] 24 (0, 0)) (kX BK496.out) hb)
      have n5_ := Aside0.mk (below_step (by repeat (first | (with_reducible first | exact HB.out | apply lA | apply lN | apply lD | refine lS ?_ GE470.out | refine lS ?_ GE496.out) | exact HB.out)) hb)
      clear HO491
      clear HO494
      clear BK470
      clear BK496
      clear HB
      have HO491 := n0_
      have HO494 := n1_
      have HO499 := n2_
      have BK470 := n3_
      have BK496 := n4_
      have HB := n5_
      clear n0_ n1_ n2_ n3_ n4_ n5_
      (try clear hb)
      (try clear hb2)
      (try clear hk)
      (try clear hi)
      (try clear ho0)
      refine hK.out _ _ ⟨(blk_cell BK496.out 0).trans rfl, (blk_cell BK496.out 1).trans rfl, (blk_cell BK496.out 2).trans rfl⟩ (fun hHeld => ?_)
      clear hK K
      refine nm 98 ?_
      refine one_ (i := 3) (N := some 100) (Bs 5 9) rfl rfl (one_of HT_.out (by kernel_rfl)) (by decide) (fun K hK => ?_)
      refine goes_ Try.func28 (by kernel_rfl) rfl #[.agg #[.string t488, .slice Ao162 t489.length co162, .slice Ao163 t492.length co163]] (by rfl) rfl rfl (by (try simp only [List.map_toArray, List.map_cons, List.map_nil]); first | done | rfl | (simp only [List.length_drop, List.length_take]; rfl)) ?_
      with_reducible refine (find_Index_Overlaps.calls t488 _ _ t489 _ _ t492 t500 _ ?side1 ?side2 ?side3 ?side4 A156.out).mono ?_
      (case side1 => repeat (first | exact (Kd.R_reads' HO491.out).2.2 | (with_reducible refine Kd.C_alloc ?_ _) | (with_reducible refine Kd.C_drewN ?_ _) | (with_reducible refine Kd.C_drew ?_)))
      (case side2 => exact (Kd.R_reads' HO491.out).2.1)
      (case side3 => repeat (first | exact (Kd.R_reads' HO494.out).2.2 | (with_reducible refine Kd.C_alloc ?_ _) | (with_reducible refine Kd.C_drewN ?_ _) | (with_reducible refine Kd.C_drew ?_)))
      (case side4 => exact (Kd.R_reads' HO494.out).2.1)
      rintro e w167 ⟨v501, rfl, ho0, hb⟩
      refine ⟨_, rfl, ?_⟩
      have n0_ := Aside0.mk (Kd.R_elder' (by (with_reducible repeat (first | apply Kd.R_alloc | apply Kd.R_drewN | apply Kd.R_drew)); exact HO491.out) (Kd.R_base ho0) hb)
      have n1_ := Aside0.mk (Kd.R_elder' (by (with_reducible repeat (first | apply Kd.R_alloc | apply Kd.R_drewN | apply Kd.R_drew)); exact HO494.out) (Kd.R_base ho0) hb)
      have n2_ := Aside0.mk (Kd.R_elder' (by (with_reducible repeat (first | apply Kd.R_alloc | apply Kd.R_drewN | apply Kd.R_drew)); exact HO499.out) (Kd.R_base ho0) hb)
      have n3_ := Aside0.mk (Kd.R_lower (Kd.R_new' (Kd.R_new' (Kd.R_new' ho0 (Kd.R_lt (by (with_reducible repeat (first | apply Kd.R_alloc | apply Kd.R_drewN | apply Kd.R_drew)); exact HO491.out))) (Kd.R_lt (by (with_reducible repeat (first | apply Kd.R_alloc | apply Kd.R_drewN | apply Kd.R_drew)); exact HO494.out))) (Kd.R_lt (by (with_reducible repeat (first | apply Kd.R_alloc | apply Kd.R_drewN | apply Kd.R_drew)); exact HO499.out))) (below_size (by repeat (first | (with_reducible first | exact HB.out | apply lA | apply lN | apply lD | refine lS ?_ GE470.out | refine lS ?_ GE496.out) | exact HB.out))))
      have n4_ := Aside0.mk (blk_below (g := gb470) (o := .cells #[.string (⟨#[]⟩ : ByteArray), .slice none 0 0, .slice none 0 0] 24 (0, 0)) (kX BK470.out) hb)
      have n5_ := Aside0.mk (blk_below (g := gb496) (o := .cells #[.string t488, .slice Ao162 t489.length co162, .slice Ao163 t492.length co163] 24 (0, 0)) (kX BK496.out) hb)
      have n6_ := Aside0.mk (below_step (by repeat (first | (with_reducible first | exact HB.out | apply lA | apply lN | apply lD | refine lS ?_ GE470.out | refine lS ?_ GE496.out) | exact HB.out)) hb)
      clear HO491
      clear HO494
      clear HO499
      clear BK470
      clear BK496
      clear HB
      have HO491 := n0_
      have HO494 := n1_
      have HO499 := n2_
      have HO502 := n3_
      have BK470 := n4_
      have BK496 := n5_
      have HB := n6_
      clear n0_ n1_ n2_ n3_ n4_ n5_ n6_
      (try clear hb)
      (try clear hb2)
      (try clear hk)
      (try clear hi)
      (try clear ho0)
      refine hK.out _ _ ⟨(blk_cell BK496.out 0).trans rfl, (blk_cell BK496.out 1).trans rfl, (blk_cell BK496.out 2).trans rfl⟩ (fun hHeld => ?_)
      clear hK K
      refine nm 100 ?_
      refine one_ (i := 5) (N := some 102) (Bs 6 9) rfl rfl (one_of HT_.out (by kernel_rfl)) (by decide) (fun K hK => ?_)
      refine goes_ Try.func38 (by kernel_rfl) rfl #[.agg #[.string t488, .slice Ao162 t489.length co162, .slice Ao163 t492.length co163], .string (⟨#[]⟩ : ByteArray)] (by rfl) rfl rfl (by (try simp only [List.map_toArray, List.map_cons, List.map_nil]); first | done | rfl | (simp only [List.length_drop, List.length_take]; rfl)) ?_
      with_reducible refine (find_Index_Find.calls t488 _ _ t489 _ _ t492 (⟨#[]⟩ : ByteArray) t503 _ ?side1 ?side2 ?side3 ?side4 A157.out).mono ?_
      (case side1 => repeat (first | exact (Kd.R_reads' HO491.out).2.2 | (with_reducible refine Kd.C_alloc ?_ _) | (with_reducible refine Kd.C_drewN ?_ _) | (with_reducible refine Kd.C_drew ?_)))
      (case side2 => exact (Kd.R_reads' HO491.out).2.1)
      (case side3 => repeat (first | exact (Kd.R_reads' HO494.out).2.2 | (with_reducible refine Kd.C_alloc ?_ _) | (with_reducible refine Kd.C_drewN ?_ _) | (with_reducible refine Kd.C_drew ?_)))
      (case side4 => exact (Kd.R_reads' HO494.out).2.1)
      rintro e w168 ⟨v504, rfl, ho0, hb⟩
      refine ⟨_, rfl, ?_⟩
      have n0_ := Aside0.mk (Kd.R_elder' (by (with_reducible repeat (first | apply Kd.R_alloc | apply Kd.R_drewN | apply Kd.R_drew)); exact HO491.out) (Kd.R_base ho0) hb)
      have n1_ := Aside0.mk (Kd.R_elder' (by (with_reducible repeat (first | apply Kd.R_alloc | apply Kd.R_drewN | apply Kd.R_drew)); exact HO494.out) (Kd.R_base ho0) hb)
      have n2_ := Aside0.mk (Kd.R_elder' (by (with_reducible repeat (first | apply Kd.R_alloc | apply Kd.R_drewN | apply Kd.R_drew)); exact HO499.out) (Kd.R_base ho0) hb)
      have n3_ := Aside0.mk (Kd.R_elder' (by (with_reducible repeat (first | apply Kd.R_alloc | apply Kd.R_drewN | apply Kd.R_drew)); exact HO502.out) (Kd.R_base ho0) hb)
      have n4_ := Aside0.mk (Kd.R_lower (Kd.R_new' (Kd.R_new' (Kd.R_new' (Kd.R_new' ho0 (Kd.R_lt (by (with_reducible repeat (first | apply Kd.R_alloc | apply Kd.R_drewN | apply Kd.R_drew)); exact HO491.out))) (Kd.R_lt (by (with_reducible repeat (first | apply Kd.R_alloc | apply Kd.R_drewN | apply Kd.R_drew)); exact HO494.out))) (Kd.R_lt (by (with_reducible repeat (first | apply Kd.R_alloc | apply Kd.R_drewN | apply Kd.R_drew)); exact HO499.out))) (Kd.R_lt (by (with_reducible repeat (first | apply Kd.R_alloc | apply Kd.R_drewN | apply Kd.R_drew)); exact HO502.out))) (below_size (by repeat (first | (with_reducible first | exact HB.out | apply lA | apply lN | apply lD | refine lS ?_ GE470.out | refine lS ?_ GE496.out) | exact HB.out))))
      have n5_ := Aside0.mk (blk_below (g := gb470) (o := .cells #[.string (⟨#[]⟩ : ByteArray), .slice none 0 0, .slice none 0 0] 24 (0, 0)) (kX BK470.out) hb)
      have n6_ := Aside0.mk (blk_below (g := gb496) (o := .cells #[.string t488, .slice Ao162 t489.length co162, .slice Ao163 t492.length co163] 24 (0, 0)) (kX BK496.out) hb)
      have n7_ := Aside0.mk (below_step (by repeat (first | (with_reducible first | exact HB.out | apply lA | apply lN | apply lD | refine lS ?_ GE470.out | refine lS ?_ GE496.out) | exact HB.out)) hb)
      clear HO491
      clear HO494
      clear HO499
      clear HO502
      clear BK470
      clear BK496
      clear HB
      have HO491 := n0_
      have HO494 := n1_
      have HO499 := n2_
      have HO502 := n3_
      have HO505 := n4_
      have BK470 := n5_
      have BK496 := n6_
      have HB := n7_
      clear n0_ n1_ n2_ n3_ n4_ n5_ n6_ n7_
      (try clear hb)
      (try clear hb2)
      (try clear hk)
      (try clear hi)
      (try clear ho0)
      refine hK.out _ _ ⟨(blk_cell BK496.out 0).trans rfl, (blk_cell BK496.out 1).trans rfl, (blk_cell BK496.out 2).trans rfl⟩ (fun hHeld => ?_)
      clear hK K
      refine nm 102 ?_
      refine pu 6 15 (Bs 7 9) HT_ ?_
      refine pu 7 16 (Bs 8 9) HT_ ?_
      refine pu 8 17 (Bs 9 9) HT_ ?_
      refine done_ (done_of HT_.out (by kernel_rfl)) ?_
      try go_wp2
      go_loopg [18] kj5 (fun kq v18 w' => ∃ (x15_2 : List Int) (x18_2 : Int), v18 = .int .i64 x18_2 ∧ Aside0 (silversidelaw07_FindZero.l0 kq sa0_ t495 x15_2 t500 t503 x18_2 t488 t489 t492 = some r) ∧ Aside0 (kq ≤ kj5) ∧ Aside0 (Kd.R (Kd.int .i64) 3 w' w.heap.size (fun k_ => some k_ ≠ (v501 : Value).ownBlock ∧ some k_ ≠ (v504 : Value).ownBlock ∧ some k_ ≠ ((.slice Ao162 t489.length co162) : Value).ownBlock ∧ some k_ ≠ ((.slice Ao163 t492.length co163) : Value).ownBlock) v498 x15_2) ∧ Aside0 (Kd.R (Kd.int .i64) 3 w' w.heap.size (fun k_ => some k_ ≠ (v498 : Value).ownBlock ∧ some k_ ≠ (v504 : Value).ownBlock ∧ some k_ ≠ ((.slice Ao162 t489.length co162) : Value).ownBlock ∧ some k_ ≠ ((.slice Ao163 t492.length co163) : Value).ownBlock) v501 t500) ∧ Aside0 (Kd.R (Kd.int .i64) 3 w' w.heap.size (fun k_ => some k_ ≠ (v498 : Value).ownBlock ∧ some k_ ≠ (v501 : Value).ownBlock ∧ some k_ ≠ ((.slice Ao162 t489.length co162) : Value).ownBlock ∧ some k_ ≠ ((.slice Ao163 t492.length co163) : Value).ownBlock) v504 t503) ∧ Aside0 (Kd.R (Kd.int .i64) 3 w' w.heap.size (fun k_ => some k_ ≠ (v498 : Value).ownBlock ∧ some k_ ≠ (v501 : Value).ownBlock ∧ some k_ ≠ (v504 : Value).ownBlock ∧ some k_ ≠ ((.slice Ao163 t492.length co163) : Value).ownBlock) (.slice Ao162 t489.length co162) t489) ∧ Aside0 (Kd.R (Kd.int .i64) 3 w' w.heap.size (fun k_ => some k_ ≠ (v498 : Value).ownBlock ∧ some k_ ≠ (v501 : Value).ownBlock ∧ some k_ ≠ (v504 : Value).ownBlock ∧ some k_ ≠ ((.slice Ao162 t489.length co162) : Value).ownBlock) (.slice Ao163 t492.length co163) t492) ∧ Aside0 (w'.heap[gb470]? = some (.cells #[.string (⟨#[]⟩ : ByteArray), (.slice none 0 0), (.slice none 0 0)] 24 (0, 0))) ∧ Aside0 (w'.heap[gb496]? = some (.cells #[.string t488, (.slice Ao162 t489.length co162), (.slice Ao163 t492.length co163)] 24 (0, 0))) ∧ Aside0 (Below w.heap.size w w'))
      case atStart => exact ⟨(t497), (0), (by first | rfl | (simp; done) | (simp [*]; done)), H', ⟨Nat.le_refl _⟩, ⟨by (with_reducible repeat (first | apply Kd.R_alloc | apply Kd.R_drewN | apply Kd.R_drew)); exact Kd.R_mono HO499.out (fun _ hk => ⟨hk.1.2, ⟨hk.2, ⟨hk.1.1.1.2, hk.1.1.2⟩⟩⟩)⟩, ⟨by (with_reducible repeat (first | apply Kd.R_alloc | apply Kd.R_drewN | apply Kd.R_drew)); exact Kd.R_mono HO502.out (fun _ hk => ⟨hk.1.2, ⟨hk.2, ⟨hk.1.1.1.2, hk.1.1.2⟩⟩⟩)⟩, ⟨by (with_reducible repeat (first | apply Kd.R_alloc | apply Kd.R_drewN | apply Kd.R_drew)); exact Kd.R_mono HO505.out (fun _ hk => ⟨hk.1.2, ⟨hk.2, ⟨hk.1.1.1.2, hk.1.1.2⟩⟩⟩)⟩, ⟨by (with_reducible repeat (first | apply Kd.R_alloc | apply Kd.R_drewN | apply Kd.R_drew)); exact Kd.R_mono HO491.out (fun _ hk => ⟨hk.1.1.2, ⟨hk.1.2, ⟨hk.2, hk.1.1.1⟩⟩⟩)⟩, ⟨by (with_reducible repeat (first | apply Kd.R_alloc | apply Kd.R_drewN | apply Kd.R_drew)); exact Kd.R_mono HO494.out (fun _ hk => ⟨hk.1.1.2, ⟨hk.1.2, ⟨hk.2, hk.1.1.1⟩⟩⟩)⟩, ⟨by (with_reducible repeat (first | refine kN ?_ _ | refine kD ?_ | refine kA ?_ _)); exact BK470.out⟩, ⟨by (with_reducible repeat (first | refine kN ?_ _ | refine kD ?_ | refine kA ?_ _)); exact BK496.out⟩, ⟨by repeat (first | (with_reducible first | exact HB.out | apply lA | apply lN | apply lD | refine lS ?_ GE470.out | refine lS ?_ GE496.out) | exact HB.out)⟩⟩
      case round =>
       clear H'
       try clear c1
       try clear c2
       try clear p2
       try clear c3
       try clear c15
       try clear c16
       try clear c17
       try clear c17b1
       try clear c17b2
       try clear c19
       try clear c19b0
       try clear c19b1
       try clear c21
       try clear c21b0
       try clear c21b1
       try clear c21b2
       try clear c22
       try clear c22b0
       try clear c22b1
       try clear c23
       try clear c23b0
       try clear c23b1
       try clear c24
       try clear c24b0
       try clear c24b1
       try clear c26
       try clear c26b0
       try clear c26b1
       try clear c27
       try clear c27b0
       try clear c27b1
       try clear c28
       try clear c30
       try clear c31
       try clear c35
       try clear c38
       try clear c150
       try clear c152
       try clear c152b0
       try clear c152b1
       try clear c153
       try clear c153b0
       try clear c153b1
       try clear c160
       try clear hcz101_0
       try clear hcz101_1
       try clear hcz101_2
       try clear hcz104_0
       try clear hcz104_1
       try clear hcz104_2
       try clear hcz107_0
       try clear hcz107_1
       try clear hcz107_2
       try clear hcz109_0
       try clear hcz109_1
       try clear hcz109_2
       try clear hcz10_0
       try clear hcz10_1
       try clear hcz10_2
       try clear hcz112_0
       try clear hcz112_1
       try clear hcz112_2
       try clear hcz114_0
       try clear hcz114_1
       try clear hcz114_2
       try clear hcz117_0
       try clear hcz117_1
       try clear hcz117_2
       try clear hcz120_0
       try clear hcz120_1
       try clear hcz120_2
       try clear hcz122_0
       try clear hcz122_1
       try clear hcz122_2
       try clear hcz125_0
       try clear hcz125_1
       try clear hcz125_2
       try clear hcz127_0
       try clear hcz127_1
       try clear hcz127_2
       try clear hcz130_0
       try clear hcz130_1
       try clear hcz130_2
       try clear hcz133_0
       try clear hcz133_1
       try clear hcz133_2
       try clear hcz135_0
       try clear hcz135_1
       try clear hcz135_2
       try clear hcz137_0
       try clear hcz137_1
       try clear hcz137_2
       try clear hcz140_0
       try clear hcz140_1
       try clear hcz140_2
       try clear hcz143_0
       try clear hcz143_1
       try clear hcz143_2
       try clear hcz145_0
       try clear hcz145_1
       try clear hcz145_2
       try clear hcz148_0
       try clear hcz148_1
       try clear hcz148_2
       try clear hcz161_0
       try clear hcz161_1
       try clear hcz161_2
       try clear hcz28_0
       try clear hcz28_1
       try clear hcz28_2
       try clear hcz30_0
       try clear hcz30_1
       try clear hcz30_2
       try clear hcz33_0
       try clear hcz33_1
       try clear hcz33_2
       try clear hcz36_0
       try clear hcz36_1
       try clear hcz36_2
       try clear hcz38_0
       try clear hcz38_1
       try clear hcz38_2
       try clear hcz41_0
       try clear hcz41_1
       try clear hcz41_2
       try clear hcz43_0
       try clear hcz43_1
       try clear hcz43_2
       try clear hcz45_0
       try clear hcz45_1
       try clear hcz45_2
       try clear hcz48_0
       try clear hcz48_1
       try clear hcz48_2
       try clear hcz51_0
       try clear hcz51_1
       try clear hcz51_2
       try clear hcz53_0
       try clear hcz53_1
       try clear hcz53_2
       try clear hcz56_0
       try clear hcz56_1
       try clear hcz56_2
       try clear hcz58_0
       try clear hcz58_1
       try clear hcz58_2
       try clear hcz60_0
       try clear hcz60_1
       try clear hcz60_2
       try clear hcz63_0
       try clear hcz63_1
       try clear hcz63_2
       try clear hcz66_0
       try clear hcz66_1
       try clear hcz66_2
       try clear hcz68_0
       try clear hcz68_1
       try clear hcz68_2
       try clear hcz71_0
       try clear hcz71_1
       try clear hcz71_2
       try clear hcz73_0
       try clear hcz73_1
       try clear hcz73_2
       try clear hcz75_0
       try clear hcz75_1
       try clear hcz75_2
       try clear hcz78_0
       try clear hcz78_1
       try clear hcz78_2
       try clear hcz81_0
       try clear hcz81_1
       try clear hcz81_2
       try clear hcz83_0
       try clear hcz83_1
       try clear hcz83_2
       try clear hcz86_0
       try clear hcz86_1
       try clear hcz86_2
       try clear hcz88_0
       try clear hcz88_1
       try clear hcz88_2
       try clear hcz8_0
       try clear hcz8_1
       try clear hcz8_2
       try clear hcz91_0
       try clear hcz91_1
       try clear hcz91_2
       try clear hcz94_0
       try clear hcz94_1
       try clear hcz94_2
       try clear hcz96_0
       try clear hcz96_1
       try clear hcz96_2
       try clear hcz99_0
       try clear hcz99_1
       try clear hcz99_2
       try clear hfz101_0
       try clear hfz101_1
       try clear hfz101_2
       try clear hfz104_0
       try clear hfz104_1
       try clear hfz104_2
       try clear hfz107_0
       try clear hfz107_1
       try clear hfz107_2
       try clear hfz109_0
       try clear hfz109_1
       try clear hfz109_2
       try clear hfz10_0
       try clear hfz10_1
       try clear hfz10_2
       try clear hfz112_0
       try clear hfz112_1
       try clear hfz112_2
       try clear hfz114_0
       try clear hfz114_1
       try clear hfz114_2
       try clear hfz117_0
       try clear hfz117_1
       try clear hfz117_2
       try clear hfz120_0
       try clear hfz120_1
       try clear hfz120_2
       try clear hfz122_0
       try clear hfz122_1
       try clear hfz122_2
       try clear hfz125_0
       try clear hfz125_1
       try clear hfz125_2
       try clear hfz127_0
       try clear hfz127_1
       try clear hfz127_2
       try clear hfz130_0
       try clear hfz130_1
       try clear hfz130_2
       try clear hfz133_0
       try clear hfz133_1
       try clear hfz133_2
       try clear hfz135_0
       try clear hfz135_1
       try clear hfz135_2
       try clear hfz137_0
       try clear hfz137_1
       try clear hfz137_2
       try clear hfz140_0
       try clear hfz140_1
       try clear hfz140_2
       try clear hfz143_0
       try clear hfz143_1
       try clear hfz143_2
       try clear hfz145_0
       try clear hfz145_1
       try clear hfz145_2
       try clear hfz148_0
       try clear hfz148_1
       try clear hfz148_2
       try clear hfz161_0
       try clear hfz161_1
       try clear hfz161_2
       try clear hfz28_0
       try clear hfz28_1
       try clear hfz28_2
       try clear hfz30_0
       try clear hfz30_1
       try clear hfz30_2
       try clear hfz33_0
       try clear hfz33_1
       try clear hfz33_2
       try clear hfz36_0
       try clear hfz36_1
       try clear hfz36_2
       try clear hfz38_0
       try clear hfz38_1
       try clear hfz38_2
       try clear hfz41_0
       try clear hfz41_1
       try clear hfz41_2
       try clear hfz43_0
       try clear hfz43_1
       try clear hfz43_2
       try clear hfz45_0
       try clear hfz45_1
       try clear hfz45_2
       try clear hfz48_0
       try clear hfz48_1
       try clear hfz48_2
       try clear hfz51_0
       try clear hfz51_1
       try clear hfz51_2
       try clear hfz53_0
       try clear hfz53_1
       try clear hfz53_2
       try clear hfz56_0
       try clear hfz56_1
       try clear hfz56_2
       try clear hfz58_0
       try clear hfz58_1
       try clear hfz58_2
       try clear hfz60_0
       try clear hfz60_1
       try clear hfz60_2
       try clear hfz63_0
       try clear hfz63_1
       try clear hfz63_2
       try clear hfz66_0
       try clear hfz66_1
       try clear hfz66_2
       try clear hfz68_0
       try clear hfz68_1
       try clear hfz68_2
       try clear hfz71_0
       try clear hfz71_1
       try clear hfz71_2
       try clear hfz73_0
       try clear hfz73_1
       try clear hfz73_2
       try clear hfz75_0
       try clear hfz75_1
       try clear hfz75_2
       try clear hfz78_0
       try clear hfz78_1
       try clear hfz78_2
       try clear hfz81_0
       try clear hfz81_1
       try clear hfz81_2
       try clear hfz83_0
       try clear hfz83_1
       try clear hfz83_2
       try clear hfz86_0
       try clear hfz86_1
       try clear hfz86_2
       try clear hfz88_0
       try clear hfz88_1
       try clear hfz88_2
       try clear hfz8_0
       try clear hfz8_1
       try clear hfz8_2
       try clear hfz91_0
       try clear hfz91_1
       try clear hfz91_2
       try clear hfz94_0
       try clear hfz94_1
       try clear hfz94_2
       try clear hfz96_0
       try clear hfz96_1
       try clear hfz96_2
       try clear hfz99_0
       try clear hfz99_1
       try clear hfz99_2
       obtain ⟨x15_2, x18_2, rfl, HA, HK2, HO_15, HO_16, HO_17, HO_497001, HO_497002, BK470, BK496, HB⟩ := hrel
       cases gk with
       | zero => exact absurd HA.out (by simp [silversidelaw07_FindZero.l0])
       | succ k2 =>
        have H := HA.out
        clear HA
        simp only [silversidelaw07_FindZero.l0] at H
        by_cases c169 : x18_2 < (x15_2.length : Int)
        ·rw [if_pos c169] at H
         have c169b0 : decide (x18_2 < (x15_2.length : Int)) = true := decide_eq_true c169
         clear c169
         by_cases c170 : 0 ≤ x18_2
         ·rw [if_pos c170] at H
          have c170b0 : decide (0 ≤ x18_2) = true := decide_eq_true c170
          clear c170
          obtain ⟨y506, hy506⟩ : ∃ y_ : List Int, y_ = (x15_2.set (x18_2 : Int).toNat (-1)) := ⟨_, rfl⟩
          replace H : (silversidelaw07_FindZero.l0 k2 sa0_ t495 y506 t500 t503 (wrap64 (x18_2 + 1)) t488 t489 t492) = some r := by first | (rw [hy506]; with_reducible exact H) | (have H2_ := (Option.bind_some _ _).symm.trans H; rw [hy506]; with_reducible exact H2_) | (have H2_ := (Option.bind_some _ _).symm.trans H; with_reducible exact H2_) | with_reducible exact H | (rw [hy506]; exact H) | exact H
          have Ny506 := Aside0.mk hy506
          clear hy506
          have H' := Aside0.mk H
          clear H
          obtain ⟨Ao172, co172, eo172⟩ := Kd.R_slice HO_15.out
          subst eo172
          have p171 : 0 ≤ (x18_2 : Int) := of_decide_eq_true (by first | (with_reducible assumption) | assumption)
          have q171 : (x18_2 : Int) < ((x15_2.length : Int) : Int) := of_decide_eq_true (by first | (with_reducible assumption) | assumption)
          obtain ⟨go171, co171, eo171, gb171, gl171, cl171, HG171⟩ := Kd.R_form HO_15.out (by omega)
          (first | cases eo171 | (injection eo171 with ea_ en_ ec_; (first | subst ea_ | (injection ea_ with ea_; subst ea_)); subst ec_; clear en_))
          have GB171 := Aside0.mk gb171
          have GG171 := Aside0.mk HG171
          clear gb171 gl171 HG171
          obtain ⟨hx171_0, hf171_0⟩ := Kd.R_celln 0 HO_15.out (x18_2 : Int) p171 q171
          replace p171 := eq_true p171
          replace q171 := eq_true q171
          have HP173 := Kd.R_putg HO_15.out (x18_2 : Int) (-1)
          go_wp2_with (first | ((with_reducible refine gate_store (t := 3) (p := 111) rfl ?_); refine store_event (t := 3) (p := 111) (v := ?vo_w174) (w1 := (wr.setCell ⟨go171, (x18_2 : Int).toNat, none⟩ (.int .i64 (-1)))) ?hg ?ho ?hn ?hr ?_; (case ho => rfl); (case hg => rfl); (case hn => rfl); (case hr => first | (go_simp; done) | (go_simp; rfl)); intro w174 hw; have hg : wr.grownBy w174 (some go171) := (by rw [hw]; exact HP173.2); have hp_ : Kd.R (Kd.int .i64) 3 w174 w.heap.size (fun k_ => some k_ ≠ (v501 : Value).ownBlock ∧ some k_ ≠ (v504 : Value).ownBlock ∧ some k_ ≠ (.slice Ao162 t489.length co162 : Value).ownBlock ∧ some k_ ≠ (.slice Ao163 t492.length co163 : Value).ownBlock) (.slice (some ⟨go171, 0, none⟩) x15_2.length co172) y506 := (by rw [hw, Ny506.out]; exact HP173.1); clear HP173; have n0_ := Aside0.mk (hp_); have n1_ := Aside0.mk (Kd.R_after (v := (.slice (some ⟨go171, 0, none⟩) x15_2.length co172)) (v1 := (.slice (some ⟨go171, 0, none⟩) x15_2.length co172)) (ok := (fun k_ => some k_ ≠ (v504 : Value).ownBlock ∧ some k_ ≠ (.slice Ao162 t489.length co162 : Value).ownBlock ∧ some k_ ≠ (.slice Ao163 t492.length co163 : Value).ownBlock)) (by (with_reducible repeat (first | apply Kd.R_alloc | apply Kd.R_drewN | apply Kd.R_drew)); exact Kd.R_mono HO_16.out (fun _ hk => ⟨⟨hk.2.1, ⟨hk.2.2.1, hk.2.2.2⟩⟩, hk.1⟩)) hg (.inl rfl)); have n2_ := Aside0.mk (Kd.R_after (v := (.slice (some ⟨go171, 0, none⟩) x15_2.length co172)) (v1 := (.slice (some ⟨go171, 0, none⟩) x15_2.length co172)) (ok := (fun k_ => some k_ ≠ (v501 : Value).ownBlock ∧ some k_ ≠ (.slice Ao162 t489.length co162 : Value).ownBlock ∧ some k_ ≠ (.slice Ao163 t492.length co163 : Value).ownBlock)) (by (with_reducible repeat (first | apply Kd.R_alloc | apply Kd.R_drewN | apply Kd.R_drew)); exact Kd.R_mono HO_17.out (fun _ hk => ⟨⟨hk.2.1, ⟨hk.2.2.1, hk.2.2.2⟩⟩, hk.1⟩)) hg (.inl rfl)); have n3_ := Aside0.mk (Kd.R_after (v := (.slice (some ⟨go171, 0, none⟩) x15_2.length co172)) (v1 := (.slice (some ⟨go171, 0, none⟩) x15_2.length co172)) (ok := (fun k_ => some k_ ≠ (v501 : Value).ownBlock ∧ some k_ ≠ (v504 : Value).ownBlock ∧ some k_ ≠ (.slice Ao163 t492.length co163 : Value).ownBlock)) (by (with_reducible repeat (first | apply Kd.R_alloc | apply Kd.R_drewN | apply Kd.R_drew)); exact Kd.R_mono HO_497001.out (fun _ hk => ⟨⟨hk.2.1, ⟨hk.2.2.1, hk.2.2.2⟩⟩, hk.1⟩)) hg (.inl rfl)); have n4_ := Aside0.mk (Kd.R_after (v := (.slice (some ⟨go171, 0, none⟩) x15_2.length co172)) (v1 := (.slice (some ⟨go171, 0, none⟩) x15_2.length co172)) (ok := (fun k_ => some k_ ≠ (v501 : Value).ownBlock ∧ some k_ ≠ (v504 : Value).ownBlock ∧ some k_ ≠ (.slice Ao162 t489.length co162 : Value).ownBlock)) (by (with_reducible repeat (first | apply Kd.R_alloc | apply Kd.R_drewN | apply Kd.R_drew)); exact Kd.R_mono HO_497002.out (fun _ hk => ⟨⟨hk.2.1, ⟨hk.2.2.1, hk.2.2.2⟩⟩, hk.1⟩)) hg (.inl rfl)); have n5_ := Aside0.mk (blk_grown (g := gb470) (o := .cells #[.string (⟨#[]⟩ : ByteArray), .slice none 0 0, .slice none 0 0] 24 (0, 0)) (kX BK470.out) hg (Kd.R_ne HO_15.out BK470.out (by decide))); have n6_ := Aside0.mk (blk_grown (g := gb496) (o := .cells #[.string t488, .slice Ao162 t489.length co162, .slice Ao163 t492.length co163] 24 (0, 0)) (kX BK496.out) hg (Kd.R_ne HO_15.out BK496.out (by decide))); have n7_ := Aside0.mk ((by rw [hw]; exact lS (HB.out) GB171.out : Below w.heap.size w w174)); clear HO_15; clear HO_16; clear HO_17; clear HO_497001; clear HO_497002; clear BK470; clear BK496; clear HB; have HO_15 := n0_; have HO_16 := n1_; have HO_17 := n2_; have HO_497001 := n3_; have HO_497002 := n4_; have BK470 := n5_; have BK496 := n6_; have HB := n7_; clear n0_ n1_ n2_ n3_ n4_ n5_ n6_ n7_; clear hg hw hp_))
          go_roundg k2
          case measure => have := HJ5.out; have := HK2.out; omega
          case rel => exact ⟨(y506), (wrap64 (x18_2 + 1)), (by first | rfl | (simp; done) | (simp [*]; done)), H', ⟨by have := HJ5.out; have := HK2.out; omega⟩, ⟨by (with_reducible repeat (first | apply Kd.R_alloc | apply Kd.R_drewN | apply Kd.R_drew)); exact HO_15.out⟩, ⟨by (with_reducible repeat (first | apply Kd.R_alloc | apply Kd.R_drewN | apply Kd.R_drew)); exact Kd.R_mono HO_16.out (fun _ hk => ⟨hk.2, ⟨hk.1.1, ⟨hk.1.2.1, hk.1.2.2⟩⟩⟩)⟩, ⟨by (with_reducible repeat (first | apply Kd.R_alloc | apply Kd.R_drewN | apply Kd.R_drew)); exact Kd.R_mono HO_17.out (fun _ hk => ⟨hk.2, ⟨hk.1.1, ⟨hk.1.2.1, hk.1.2.2⟩⟩⟩)⟩, ⟨by (with_reducible repeat (first | apply Kd.R_alloc | apply Kd.R_drewN | apply Kd.R_drew)); exact Kd.R_mono HO_497001.out (fun _ hk => ⟨hk.2, ⟨hk.1.1, ⟨hk.1.2.1, hk.1.2.2⟩⟩⟩)⟩, ⟨by (with_reducible repeat (first | apply Kd.R_alloc | apply Kd.R_drewN | apply Kd.R_drew)); exact Kd.R_mono HO_497002.out (fun _ hk => ⟨hk.2, ⟨hk.1.1, ⟨hk.1.2.1, hk.1.2.2⟩⟩⟩)⟩, ⟨by (with_reducible repeat (first | refine kN ?_ _ | refine kD ?_ | refine kA ?_ _)); exact BK470.out⟩, ⟨by (with_reducible repeat (first | refine kN ?_ _ | refine kD ?_ | refine kA ?_ _)); exact BK496.out⟩, ⟨by repeat (first | (with_reducible first | exact HB.out | apply lA | apply lN | apply lD | refine lS ?_ GE470.out | refine lS ?_ GE496.out) | exact HB.out)⟩⟩
         ·rw [if_neg c170] at H
          exact absurd H (by simp)
        ·rw [if_neg c169] at H
         have c169b0 : decide (x18_2 < (x15_2.length : Int)) = false := decide_eq_false c169
         clear c169
         have H' := Aside0.mk H
         clear H
         obtain ⟨Ao175, co175, eo175⟩ := Kd.R_slice HO_15.out
         subst eo175
         go_wp2
         go_loopg [19] k2 (fun kq v19 w' => ∃ (x16_3 : List Int) (x19_3 : Int), v19 = .int .i64 x19_3 ∧ Aside0 (silversidelaw07_FindZero.l1 kq sa0_ t495 x16_3 t503 x19_3 t488 t489 t492 = some r) ∧ Aside0 (kq ≤ k2) ∧ Aside0 (Kd.R (Kd.int .i64) 3 w' w.heap.size (fun k_ => some k_ ≠ (v504 : Value).ownBlock ∧ some k_ ≠ ((.slice Ao162 t489.length co162) : Value).ownBlock ∧ some k_ ≠ ((.slice Ao163 t492.length co163) : Value).ownBlock) v501 x16_3) ∧ Aside0 (Kd.R (Kd.int .i64) 3 w' w.heap.size (fun k_ => some k_ ≠ (v501 : Value).ownBlock ∧ some k_ ≠ ((.slice Ao162 t489.length co162) : Value).ownBlock ∧ some k_ ≠ ((.slice Ao163 t492.length co163) : Value).ownBlock) v504 t503) ∧ Aside0 (Kd.R (Kd.int .i64) 3 w' w.heap.size (fun k_ => some k_ ≠ (v501 : Value).ownBlock ∧ some k_ ≠ (v504 : Value).ownBlock ∧ some k_ ≠ ((.slice Ao163 t492.length co163) : Value).ownBlock) (.slice Ao162 t489.length co162) t489) ∧ Aside0 (Kd.R (Kd.int .i64) 3 w' w.heap.size (fun k_ => some k_ ≠ (v501 : Value).ownBlock ∧ some k_ ≠ (v504 : Value).ownBlock ∧ some k_ ≠ ((.slice Ao162 t489.length co162) : Value).ownBlock) (.slice Ao163 t492.length co163) t492) ∧ Aside0 (w'.heap[gb470]? = some (.cells #[.string (⟨#[]⟩ : ByteArray), (.slice none 0 0), (.slice none 0 0)] 24 (0, 0))) ∧ Aside0 (w'.heap[gb496]? = some (.cells #[.string t488, (.slice Ao162 t489.length co162), (.slice Ao163 t492.length co163)] 24 (0, 0))) ∧ Aside0 (Below w.heap.size w w'))
         case atStart => exact ⟨(t500), (0), (by first | rfl | (simp; done) | (simp [*]; done)), H', ⟨Nat.le_refl _⟩, ⟨by (with_reducible repeat (first | apply Kd.R_alloc | apply Kd.R_drewN | apply Kd.R_drew)); exact Kd.R_mono HO_16.out (fun _ hk => ⟨hk.2.1, ⟨hk.2.2.1, hk.2.2.2⟩⟩)⟩, ⟨by (with_reducible repeat (first | apply Kd.R_alloc | apply Kd.R_drewN | apply Kd.R_drew)); exact Kd.R_mono HO_17.out (fun _ hk => ⟨hk.2.1, ⟨hk.2.2.1, hk.2.2.2⟩⟩)⟩, ⟨by (with_reducible repeat (first | apply Kd.R_alloc | apply Kd.R_drewN | apply Kd.R_drew)); exact Kd.R_mono HO_497001.out (fun _ hk => ⟨hk.2.1, ⟨hk.2.2.1, hk.2.2.2⟩⟩)⟩, ⟨by (with_reducible repeat (first | apply Kd.R_alloc | apply Kd.R_drewN | apply Kd.R_drew)); exact Kd.R_mono HO_497002.out (fun _ hk => ⟨hk.2.1, ⟨hk.2.2.1, hk.2.2.2⟩⟩)⟩, ⟨by (with_reducible repeat (first | refine kN ?_ _ | refine kD ?_ | refine kA ?_ _)); exact BK470.out⟩, ⟨by (with_reducible repeat (first | refine kN ?_ _ | refine kD ?_ | refine kA ?_ _)); exact BK496.out⟩, ⟨by repeat (first | (with_reducible first | exact HB.out | apply lA | apply lN | apply lD | refine lS ?_ GE470.out | refine lS ?_ GE496.out) | exact HB.out)⟩⟩
         case round =>
          clear H'
          try clear c1
          try clear p1
          try clear q1
          try clear hx1
          try clear c2
          try clear p2
          try clear c3
          try clear p6
          try clear c15
          try clear c16
          try clear c17
          try clear c17b1
          try clear c17b2
          try clear p17
          try clear q17
          try clear hx17
          try clear hf17
          try clear c19
          try clear c19b0
          try clear c19b1
          try clear c21
          try clear c21b0
          try clear c21b1
          try clear c21b2
          try clear c22
          try clear c22b0
          try clear c22b1
          try clear c23
          try clear c23b0
          try clear c23b1
          try clear c24
          try clear c24b0
          try clear c24b1
          try clear c26
          try clear c26b0
          try clear c26b1
          try clear c27
          try clear c27b0
          try clear c27b1
          try clear c28
          try clear c30
          try clear c31
          try clear c35
          try clear c38
          try clear p64
          try clear c150
          try clear c152
          try clear c152b0
          try clear c152b1
          try clear c153
          try clear c153b0
          try clear c153b1
          try clear c160
          try clear c169
          try clear c169b0
          try clear c170
          try clear c170b0
          try clear p171
          try clear q171
          try clear hx171
          try clear hf171
          try clear hcz101_0
          try clear hcz101_1
          try clear hcz101_2
          try clear hcz104_0
          try clear hcz104_1
          try clear hcz104_2
          try clear hcz107_0
          try clear hcz107_1
          try clear hcz107_2
          try clear hcz109_0
          try clear hcz109_1
          try clear hcz109_2
          try clear hcz10_0
          try clear hcz10_1
          try clear hcz10_2
          try clear hcz112_0
          try clear hcz112_1
          try clear hcz112_2
          try clear hcz114_0
          try clear hcz114_1
          try clear hcz114_2
          try clear hcz117_0
          try clear hcz117_1
          try clear hcz117_2
          try clear hcz120_0
          try clear hcz120_1
          try clear hcz120_2
          try clear hcz122_0
          try clear hcz122_1
          try clear hcz122_2
          try clear hcz125_0
          try clear hcz125_1
          try clear hcz125_2
          try clear hcz127_0
          try clear hcz127_1
          try clear hcz127_2
          try clear hcz130_0
          try clear hcz130_1
          try clear hcz130_2
          try clear hcz133_0
          try clear hcz133_1
          try clear hcz133_2
          try clear hcz135_0
          try clear hcz135_1
          try clear hcz135_2
          try clear hcz137_0
          try clear hcz137_1
          try clear hcz137_2
          try clear hcz140_0
          try clear hcz140_1
          try clear hcz140_2
          try clear hcz143_0
          try clear hcz143_1
          try clear hcz143_2
          try clear hcz145_0
          try clear hcz145_1
          try clear hcz145_2
          try clear hcz148_0
          try clear hcz148_1
          try clear hcz148_2
          try clear hcz161_0
          try clear hcz161_1
          try clear hcz161_2
          try clear hcz28_0
          try clear hcz28_1
          try clear hcz28_2
          try clear hcz30_0
          try clear hcz30_1
          try clear hcz30_2
          try clear hcz33_0
          try clear hcz33_1
          try clear hcz33_2
          try clear hcz36_0
          try clear hcz36_1
          try clear hcz36_2
          try clear hcz38_0
          try clear hcz38_1
          try clear hcz38_2
          try clear hcz41_0
          try clear hcz41_1
          try clear hcz41_2
          try clear hcz43_0
          try clear hcz43_1
          try clear hcz43_2
          try clear hcz45_0
          try clear hcz45_1
          try clear hcz45_2
          try clear hcz48_0
          try clear hcz48_1
          try clear hcz48_2
          try clear hcz51_0
          try clear hcz51_1
          try clear hcz51_2
          try clear hcz53_0
          try clear hcz53_1
          try clear hcz53_2
          try clear hcz56_0
          try clear hcz56_1
          try clear hcz56_2
          try clear hcz58_0
          try clear hcz58_1
          try clear hcz58_2
          try clear hcz60_0
          try clear hcz60_1
          try clear hcz60_2
          try clear hcz63_0
          try clear hcz63_1
          try clear hcz63_2
          try clear hcz66_0
          try clear hcz66_1
          try clear hcz66_2
          try clear hcz68_0
          try clear hcz68_1
          try clear hcz68_2
          try clear hcz71_0
          try clear hcz71_1
          try clear hcz71_2
          try clear hcz73_0
          try clear hcz73_1
          try clear hcz73_2
          try clear hcz75_0
          try clear hcz75_1
          try clear hcz75_2
          try clear hcz78_0
          try clear hcz78_1
          try clear hcz78_2
          try clear hcz81_0
          try clear hcz81_1
          try clear hcz81_2
          try clear hcz83_0
          try clear hcz83_1
          try clear hcz83_2
          try clear hcz86_0
          try clear hcz86_1
          try clear hcz86_2
          try clear hcz88_0
          try clear hcz88_1
          try clear hcz88_2
          try clear hcz8_0
          try clear hcz8_1
          try clear hcz8_2
          try clear hcz91_0
          try clear hcz91_1
          try clear hcz91_2
          try clear hcz94_0
          try clear hcz94_1
          try clear hcz94_2
          try clear hcz96_0
          try clear hcz96_1
          try clear hcz96_2
          try clear hcz99_0
          try clear hcz99_1
          try clear hcz99_2
          try clear hfz101_0
          try clear hfz101_1
          try clear hfz101_2
          try clear hfz104_0
          try clear hfz104_1
          try clear hfz104_2
          try clear hfz107_0
          try clear hfz107_1
          try clear hfz107_2
          try clear hfz109_0
          try clear hfz109_1
          try clear hfz109_2
          try clear hfz10_0
          try clear hfz10_1
          try clear hfz10_2
          try clear hfz112_0
          try clear hfz112_1
          try clear hfz112_2
          try clear hfz114_0
          try clear hfz114_1
          try clear hfz114_2
          try clear hfz117_0
          try clear hfz117_1
          try clear hfz117_2
          try clear hfz120_0
          try clear hfz120_1
          try clear hfz120_2
          try clear hfz122_0
          try clear hfz122_1
          try clear hfz122_2
          try clear hfz125_0
          try clear hfz125_1
          try clear hfz125_2
          try clear hfz127_0
          try clear hfz127_1
          try clear hfz127_2
          try clear hfz130_0
          try clear hfz130_1
          try clear hfz130_2
          try clear hfz133_0
          try clear hfz133_1
          try clear hfz133_2
          try clear hfz135_0
          try clear hfz135_1
          try clear hfz135_2
          try clear hfz137_0
          try clear hfz137_1
          try clear hfz137_2
          try clear hfz140_0
          try clear hfz140_1
          try clear hfz140_2
          try clear hfz143_0
          try clear hfz143_1
          try clear hfz143_2
          try clear hfz145_0
          try clear hfz145_1
          try clear hfz145_2
          try clear hfz148_0
          try clear hfz148_1
          try clear hfz148_2
          try clear hfz161_0
          try clear hfz161_1
          try clear hfz161_2
          try clear hfz28_0
          try clear hfz28_1
          try clear hfz28_2
          try clear hfz30_0
          try clear hfz30_1
          try clear hfz30_2
          try clear hfz33_0
          try clear hfz33_1
          try clear hfz33_2
          try clear hfz36_0
          try clear hfz36_1
          try clear hfz36_2
          try clear hfz38_0
          try clear hfz38_1
          try clear hfz38_2
          try clear hfz41_0
          try clear hfz41_1
          try clear hfz41_2
          try clear hfz43_0
          try clear hfz43_1
          try clear hfz43_2
          try clear hfz45_0
          try clear hfz45_1
          try clear hfz45_2
          try clear hfz48_0
          try clear hfz48_1
          try clear hfz48_2
          try clear hfz51_0
          try clear hfz51_1
          try clear hfz51_2
          try clear hfz53_0
          try clear hfz53_1
          try clear hfz53_2
          try clear hfz56_0
          try clear hfz56_1
          try clear hfz56_2
          try clear hfz58_0
          try clear hfz58_1
          try clear hfz58_2
          try clear hfz60_0
          try clear hfz60_1
          try clear hfz60_2
          try clear hfz63_0
          try clear hfz63_1
          try clear hfz63_2
          try clear hfz66_0
          try clear hfz66_1
          try clear hfz66_2
          try clear hfz68_0
          try clear hfz68_1
          try clear hfz68_2
          try clear hfz71_0
          try clear hfz71_1
          try clear hfz71_2
          try clear hfz73_0
          try clear hfz73_1
          try clear hfz73_2
          try clear hfz75_0
          try clear hfz75_1
          try clear hfz75_2
          try clear hfz78_0
          try clear hfz78_1
          try clear hfz78_2
          try clear hfz81_0
          try clear hfz81_1
          try clear hfz81_2
          try clear hfz83_0
          try clear hfz83_1
          try clear hfz83_2
          try clear hfz86_0
          try clear hfz86_1
          try clear hfz86_2
          try clear hfz88_0
          try clear hfz88_1
          try clear hfz88_2
          try clear hfz8_0
          try clear hfz8_1
          try clear hfz8_2
          try clear hfz91_0
          try clear hfz91_1
          try clear hfz91_2
          try clear hfz94_0
          try clear hfz94_1
          try clear hfz94_2
          try clear hfz96_0
          try clear hfz96_1
          try clear hfz96_2
          try clear hfz99_0
          try clear hfz99_1
          try clear hfz99_2
          try clear hx171_0
          try clear p171
          try clear p2
          try clear q171
          obtain ⟨x16_3, x19_3, rfl, HA, HK3, HO_16, HO_17, HO_497001, HO_497002, BK470, BK496, HB⟩ := hrel
          cases gk with
          | zero => exact absurd HA.out (by simp [silversidelaw07_FindZero.l1])
          | succ k3 =>
           have H := HA.out
           clear HA
           simp only [silversidelaw07_FindZero.l1] at H
           by_cases c176 : x19_3 < (x16_3.length : Int)
           ·rw [if_pos c176] at H
            have c176b0 : decide (x19_3 < (x16_3.length : Int)) = true := decide_eq_true c176
            clear c176
            by_cases c177 : 0 ≤ x19_3
            ·rw [if_pos c177] at H
             have c177b0 : decide (0 ≤ x19_3) = true := decide_eq_true c177
             clear c177
             obtain ⟨y507, hy507⟩ : ∃ y_ : List Int, y_ = (x16_3.set (x19_3 : Int).toNat (-1)) := ⟨_, rfl⟩
             replace H : (silversidelaw07_FindZero.l1 k3 sa0_ t495 y507 t503 (wrap64 (x19_3 + 1)) t488 t489 t492) = some r := by first | (rw [hy507]; with_reducible exact H) | (have H2_ := (Option.bind_some _ _).symm.trans H; rw [hy507]; with_reducible exact H2_) | (have H2_ := (Option.bind_some _ _).symm.trans H; with_reducible exact H2_) | with_reducible exact H | (rw [hy507]; exact H) | exact H
             have Ny507 := Aside0.mk hy507
             clear hy507
             have H' := Aside0.mk H
             clear H
             obtain ⟨Ao179, co179, eo179⟩ := Kd.R_slice HO_16.out
             subst eo179
             have p178 : 0 ≤ (x19_3 : Int) := of_decide_eq_true (by first | (with_reducible assumption) | assumption)
             have q178 : (x19_3 : Int) < ((x16_3.length : Int) : Int) := of_decide_eq_true (by first | (with_reducible assumption) | assumption)
             obtain ⟨go178, co178, eo178, gb178, gl178, cl178, HG178⟩ := Kd.R_form HO_16.out (by omega)
             (first | cases eo178 | (injection eo178 with ea_ en_ ec_; (first | subst ea_ | (injection ea_ with ea_; subst ea_)); subst ec_; clear en_))
             have GB178 := Aside0.mk gb178
             have GG178 := Aside0.mk HG178
             clear gb178 gl178 HG178
             obtain ⟨hx178_0, hf178_0⟩ := Kd.R_celln 0 HO_16.out (x19_3 : Int) p178 q178
             replace p178 := eq_true p178
             replace q178 := eq_true q178
             have HP180 := Kd.R_putg HO_16.out (x19_3 : Int) (-1)
             go_wp2_with (first | ((with_reducible refine gate_store (t := 3) (p := 120) rfl ?_); refine store_event (t := 3) (p := 120) (v := ?vo_w181) (w1 := (wr.setCell ⟨go178, (x19_3 : Int).toNat, none⟩ (.int .i64 (-1)))) ?hg ?ho ?hn ?hr ?_; (case ho => rfl); (case hg => rfl); (case hn => rfl); (case hr => first | (go_simp; done) | (go_simp; rfl)); intro w181 hw; have hg : wr.grownBy w181 (some go178) := (by rw [hw]; exact HP180.2); have hp_ : Kd.R (Kd.int .i64) 3 w181 w.heap.size (fun k_ => some k_ ≠ (v504 : Value).ownBlock ∧ some k_ ≠ (.slice Ao162 t489.length co162 : Value).ownBlock ∧ some k_ ≠ (.slice Ao163 t492.length co163 : Value).ownBlock) (.slice (some ⟨go178, 0, none⟩) x16_3.length co179) y507 := (by rw [hw, Ny507.out]; exact HP180.1); clear HP180; have n0_ := Aside0.mk (hp_); have n1_ := Aside0.mk (Kd.R_after (v := (.slice (some ⟨go178, 0, none⟩) x16_3.length co179)) (v1 := (.slice (some ⟨go178, 0, none⟩) x16_3.length co179)) (ok := (fun k_ => some k_ ≠ (.slice Ao162 t489.length co162 : Value).ownBlock ∧ some k_ ≠ (.slice Ao163 t492.length co163 : Value).ownBlock)) (by (with_reducible repeat (first | apply Kd.R_alloc | apply Kd.R_drewN | apply Kd.R_drew)); exact Kd.R_mono HO_17.out (fun _ hk => ⟨⟨hk.2.1, hk.2.2⟩, hk.1⟩)) hg (.inl rfl)); have n2_ := Aside0.mk (Kd.R_after (v := (.slice (some ⟨go178, 0, none⟩) x16_3.length co179)) (v1 := (.slice (some ⟨go178, 0, none⟩) x16_3.length co179)) (ok := (fun k_ => some k_ ≠ (v504 : Value).ownBlock ∧ some k_ ≠ (.slice Ao163 t492.length co163 : Value).ownBlock)) (by (with_reducible repeat (first | apply Kd.R_alloc | apply Kd.R_drewN | apply Kd.R_drew)); exact Kd.R_mono HO_497001.out (fun _ hk => ⟨⟨hk.2.1, hk.2.2⟩, hk.1⟩)) hg (.inl rfl)); have n3_ := Aside0.mk (Kd.R_after (v := (.slice (some ⟨go178, 0, none⟩) x16_3.length co179)) (v1 := (.slice (some ⟨go178, 0, none⟩) x16_3.length co179)) (ok := (fun k_ => some k_ ≠ (v504 : Value).ownBlock ∧ some k_ ≠ (.slice Ao162 t489.length co162 : Value).ownBlock)) (by (with_reducible repeat (first | apply Kd.R_alloc | apply Kd.R_drewN | apply Kd.R_drew)); exact Kd.R_mono HO_497002.out (fun _ hk => ⟨⟨hk.2.1, hk.2.2⟩, hk.1⟩)) hg (.inl rfl)); have n4_ := Aside0.mk (blk_grown (g := gb470) (o := .cells #[.string (⟨#[]⟩ : ByteArray), .slice none 0 0, .slice none 0 0] 24 (0, 0)) (kX BK470.out) hg (Kd.R_ne HO_16.out BK470.out (by decide))); have n5_ := Aside0.mk (blk_grown (g := gb496) (o := .cells #[.string t488, .slice Ao162 t489.length co162, .slice Ao163 t492.length co163] 24 (0, 0)) (kX BK496.out) hg (Kd.R_ne HO_16.out BK496.out (by decide))); have n6_ := Aside0.mk ((by rw [hw]; exact lS (HB.out) GB178.out : Below w.heap.size w w181)); clear HO_16; clear HO_17; clear HO_497001; clear HO_497002; clear BK470; clear BK496; clear HB; have HO_16 := n0_; have HO_17 := n1_; have HO_497001 := n2_; have HO_497002 := n3_; have BK470 := n4_; have BK496 := n5_; have HB := n6_; clear n0_ n1_ n2_ n3_ n4_ n5_ n6_; clear hg hw hp_))
             go_roundg k3
             case measure => have := HJ5.out; have := HK2.out; have := HK3.out; omega
             case rel => exact ⟨(y507), (wrap64 (x19_3 + 1)), (by first | rfl | (simp; done) | (simp [*]; done)), H', ⟨by have := HJ5.out; have := HK2.out; have := HK3.out; omega⟩, ⟨by (with_reducible repeat (first | apply Kd.R_alloc | apply Kd.R_drewN | apply Kd.R_drew)); exact HO_16.out⟩, ⟨by (with_reducible repeat (first | apply Kd.R_alloc | apply Kd.R_drewN | apply Kd.R_drew)); exact Kd.R_mono HO_17.out (fun _ hk => ⟨hk.2, ⟨hk.1.1, hk.1.2⟩⟩)⟩, ⟨by (with_reducible repeat (first | apply Kd.R_alloc | apply Kd.R_drewN | apply Kd.R_drew)); exact Kd.R_mono HO_497001.out (fun _ hk => ⟨hk.2, ⟨hk.1.1, hk.1.2⟩⟩)⟩, ⟨by (with_reducible repeat (first | apply Kd.R_alloc | apply Kd.R_drewN | apply Kd.R_drew)); exact Kd.R_mono HO_497002.out (fun _ hk => ⟨hk.2, ⟨hk.1.1, hk.1.2⟩⟩)⟩, ⟨by (with_reducible repeat (first | refine kN ?_ _ | refine kD ?_ | refine kA ?_ _)); exact BK470.out⟩, ⟨by (with_reducible repeat (first | refine kN ?_ _ | refine kD ?_ | refine kA ?_ _)); exact BK496.out⟩, ⟨by repeat (first | (with_reducible first | exact HB.out | apply lA | apply lN | apply lD | refine lS ?_ GE470.out | refine lS ?_ GE496.out) | exact HB.out)⟩⟩
            ·rw [if_neg c177] at H
             exact absurd H (by simp)
           ·rw [if_neg c176] at H
            have c176b0 : decide (x19_3 < (x16_3.length : Int)) = false := decide_eq_false c176
            clear c176
            have H' := Aside0.mk H
            clear H
            obtain ⟨Ao182, co182, eo182⟩ := Kd.R_slice HO_16.out
            subst eo182
            go_wp2
            go_loopg [20] k3 (fun kq v20 w' => ∃ (x17_4 : List Int) (x20_4 : Int), v20 = .int .i64 x20_4 ∧ Aside0 (silversidelaw07_FindZero.l2 kq sa0_ t495 x17_4 x20_4 t488 t489 t492 = some r) ∧ Aside0 (kq ≤ k3) ∧ Aside0 (Kd.R (Kd.int .i64) 3 w' w.heap.size (fun k_ => some k_ ≠ ((.slice Ao162 t489.length co162) : Value).ownBlock ∧ some k_ ≠ ((.slice Ao163 t492.length co163) : Value).ownBlock) v504 x17_4) ∧ Aside0 (Kd.R (Kd.int .i64) 3 w' w.heap.size (fun k_ => some k_ ≠ (v504 : Value).ownBlock ∧ some k_ ≠ ((.slice Ao163 t492.length co163) : Value).ownBlock) (.slice Ao162 t489.length co162) t489) ∧ Aside0 (Kd.R (Kd.int .i64) 3 w' w.heap.size (fun k_ => some k_ ≠ (v504 : Value).ownBlock ∧ some k_ ≠ ((.slice Ao162 t489.length co162) : Value).ownBlock) (.slice Ao163 t492.length co163) t492) ∧ Aside0 (w'.heap[gb470]? = some (.cells #[.string (⟨#[]⟩ : ByteArray), (.slice none 0 0), (.slice none 0 0)] 24 (0, 0))) ∧ Aside0 (w'.heap[gb496]? = some (.cells #[.string t488, (.slice Ao162 t489.length co162), (.slice Ao163 t492.length co163)] 24 (0, 0))) ∧ Aside0 (Below w.heap.size w w'))
            case atStart => exact ⟨(t503), (0), (by first | rfl | (simp; done) | (simp [*]; done)), H', ⟨Nat.le_refl _⟩, ⟨by (with_reducible repeat (first | apply Kd.R_alloc | apply Kd.R_drewN | apply Kd.R_drew)); exact Kd.R_mono HO_17.out (fun _ hk => ⟨hk.2.1, hk.2.2⟩)⟩, ⟨by (with_reducible repeat (first | apply Kd.R_alloc | apply Kd.R_drewN | apply Kd.R_drew)); exact Kd.R_mono HO_497001.out (fun _ hk => ⟨hk.2.1, hk.2.2⟩)⟩, ⟨by (with_reducible repeat (first | apply Kd.R_alloc | apply Kd.R_drewN | apply Kd.R_drew)); exact Kd.R_mono HO_497002.out (fun _ hk => ⟨hk.2.1, hk.2.2⟩)⟩, ⟨by (with_reducible repeat (first | refine kN ?_ _ | refine kD ?_ | refine kA ?_ _)); exact BK470.out⟩, ⟨by (with_reducible repeat (first | refine kN ?_ _ | refine kD ?_ | refine kA ?_ _)); exact BK496.out⟩, ⟨by repeat (first | (with_reducible first | exact HB.out | apply lA | apply lN | apply lD | refine lS ?_ GE470.out | refine lS ?_ GE496.out) | exact HB.out)⟩⟩
            case round =>
             clear H'
             try clear c1
             try clear p1
             try clear q1
             try clear hx1
             try clear c2
             try clear p2
             try clear c3
             try clear p6
             try clear c15
             try clear c16
             try clear c17
             try clear c17b1
             try clear c17b2
             try clear p17
             try clear q17
             try clear hx17
             try clear hf17
             try clear c19
             try clear c19b0
             try clear c19b1
             try clear c21
             try clear c21b0
             try clear c21b1
             try clear c21b2
             try clear c22
             try clear c22b0
             try clear c22b1
             try clear c23
             try clear c23b0
             try clear c23b1
             try clear c24
             try clear c24b0
             try clear c24b1
             try clear c26
             try clear c26b0
             try clear c26b1
             try clear c27
             try clear c27b0
             try clear c27b1
             try clear c28
             try clear c30
             try clear c31
             try clear c35
             try clear c38
             try clear p64
             try clear c150
             try clear c152
             try clear c152b0
             try clear c152b1
             try clear c153
             try clear c153b0
             try clear c153b1
             try clear c160
             try clear c169
             try clear c169b0
             try clear c170
             try clear c170b0
             try clear p171
             try clear q171
             try clear hx171
             try clear hf171
             try clear c176
             try clear c176b0
             try clear c177
             try clear c177b0
             try clear p178
             try clear q178
             try clear hx178
             try clear hf178
             try clear hcz101_0
             try clear hcz101_1
             try clear hcz101_2
             try clear hcz104_0
             try clear hcz104_1
             try clear hcz104_2
             try clear hcz107_0
             try clear hcz107_1
             try clear hcz107_2
             try clear hcz109_0
             try clear hcz109_1
             try clear hcz109_2
             try clear hcz10_0
             try clear hcz10_1
             try clear hcz10_2
             try clear hcz112_0
             try clear hcz112_1
             try clear hcz112_2
             try clear hcz114_0
             try clear hcz114_1
             try clear hcz114_2
             try clear hcz117_0
             try clear hcz117_1
             try clear hcz117_2
             try clear hcz120_0
             try clear hcz120_1
             try clear hcz120_2
             try clear hcz122_0
             try clear hcz122_1
             try clear hcz122_2
             try clear hcz125_0
             try clear hcz125_1
             try clear hcz125_2
             try clear hcz127_0
             try clear hcz127_1
             try clear hcz127_2
             try clear hcz130_0
             try clear hcz130_1
             try clear hcz130_2
             try clear hcz133_0
             try clear hcz133_1
             try clear hcz133_2
             try clear hcz135_0
             try clear hcz135_1
             try clear hcz135_2
             try clear hcz137_0
             try clear hcz137_1
             try clear hcz137_2
             try clear hcz140_0
             try clear hcz140_1
             try clear hcz140_2
             try clear hcz143_0
             try clear hcz143_1
             try clear hcz143_2
             try clear hcz145_0
             try clear hcz145_1
             try clear hcz145_2
             try clear hcz148_0
             try clear hcz148_1
             try clear hcz148_2
             try clear hcz161_0
             try clear hcz161_1
             try clear hcz161_2
             try clear hcz28_0
             try clear hcz28_1
             try clear hcz28_2
             try clear hcz30_0
             try clear hcz30_1
             try clear hcz30_2
             try clear hcz33_0
             try clear hcz33_1
             try clear hcz33_2
             try clear hcz36_0
             try clear hcz36_1
             try clear hcz36_2
             try clear hcz38_0
             try clear hcz38_1
             try clear hcz38_2
             try clear hcz41_0
             try clear hcz41_1
             try clear hcz41_2
             try clear hcz43_0
             try clear hcz43_1
             try clear hcz43_2
             try clear hcz45_0
             try clear hcz45_1
             try clear hcz45_2
             try clear hcz48_0
             try clear hcz48_1
             try clear hcz48_2
             try clear hcz51_0
             try clear hcz51_1
             try clear hcz51_2
             try clear hcz53_0
             try clear hcz53_1
             try clear hcz53_2
             try clear hcz56_0
             try clear hcz56_1
             try clear hcz56_2
             try clear hcz58_0
             try clear hcz58_1
             try clear hcz58_2
             try clear hcz60_0
             try clear hcz60_1
             try clear hcz60_2
             try clear hcz63_0
             try clear hcz63_1
             try clear hcz63_2
             try clear hcz66_0
             try clear hcz66_1
             try clear hcz66_2
             try clear hcz68_0
             try clear hcz68_1
             try clear hcz68_2
             try clear hcz71_0
             try clear hcz71_1
             try clear hcz71_2
             try clear hcz73_0
             try clear hcz73_1
             try clear hcz73_2
             try clear hcz75_0
             try clear hcz75_1
             try clear hcz75_2
             try clear hcz78_0
             try clear hcz78_1
             try clear hcz78_2
             try clear hcz81_0
             try clear hcz81_1
             try clear hcz81_2
             try clear hcz83_0
             try clear hcz83_1
             try clear hcz83_2
             try clear hcz86_0
             try clear hcz86_1
             try clear hcz86_2
             try clear hcz88_0
             try clear hcz88_1
             try clear hcz88_2
             try clear hcz8_0
             try clear hcz8_1
             try clear hcz8_2
             try clear hcz91_0
             try clear hcz91_1
             try clear hcz91_2
             try clear hcz94_0
             try clear hcz94_1
             try clear hcz94_2
             try clear hcz96_0
             try clear hcz96_1
             try clear hcz96_2
             try clear hcz99_0
             try clear hcz99_1
             try clear hcz99_2
             try clear hfz101_0
             try clear hfz101_1
             try clear hfz101_2
             try clear hfz104_0
             try clear hfz104_1
             try clear hfz104_2
             try clear hfz107_0
             try clear hfz107_1
             try clear hfz107_2
             try clear hfz109_0
             try clear hfz109_1
             try clear hfz109_2
             try clear hfz10_0
             try clear hfz10_1
             try clear hfz10_2
             try clear hfz112_0
             try clear hfz112_1
             try clear hfz112_2
             try clear hfz114_0
             try clear hfz114_1
             try clear hfz114_2
             try clear hfz117_0
             try clear hfz117_1
             try clear hfz117_2
             try clear hfz120_0
             try clear hfz120_1
             try clear hfz120_2
             try clear hfz122_0
             try clear hfz122_1
             try clear hfz122_2
             try clear hfz125_0
             try clear hfz125_1
             try clear hfz125_2
             try clear hfz127_0
             try clear hfz127_1
             try clear hfz127_2
             try clear hfz130_0
             try clear hfz130_1
             try clear hfz130_2
             try clear hfz133_0
             try clear hfz133_1
             try clear hfz133_2
             try clear hfz135_0
             try clear hfz135_1
             try clear hfz135_2
             try clear hfz137_0
             try clear hfz137_1
             try clear hfz137_2
             try clear hfz140_0
             try clear hfz140_1
             try clear hfz140_2
             try clear hfz143_0
             try clear hfz143_1
             try clear hfz143_2
             try clear hfz145_0
             try clear hfz145_1
             try clear hfz145_2
             try clear hfz148_0
             try clear hfz148_1
             try clear hfz148_2
             try clear hfz161_0
             try clear hfz161_1
             try clear hfz161_2
             try clear hfz28_0
             try clear hfz28_1
             try clear hfz28_2
             try clear hfz30_0
             try clear hfz30_1
             try clear hfz30_2
             try clear hfz33_0
             try clear hfz33_1
             try clear hfz33_2
             try clear hfz36_0
             try clear hfz36_1
             try clear hfz36_2
             try clear hfz38_0
             try clear hfz38_1
             try clear hfz38_2
             try clear hfz41_0
             try clear hfz41_1
             try clear hfz41_2
             try clear hfz43_0
             try clear hfz43_1
             try clear hfz43_2
             try clear hfz45_0
             try clear hfz45_1
             try clear hfz45_2
             try clear hfz48_0
             try clear hfz48_1
             try clear hfz48_2
             try clear hfz51_0
             try clear hfz51_1
             try clear hfz51_2
             try clear hfz53_0
             try clear hfz53_1
             try clear hfz53_2
             try clear hfz56_0
             try clear hfz56_1
             try clear hfz56_2
             try clear hfz58_0
             try clear hfz58_1
             try clear hfz58_2
             try clear hfz60_0
             try clear hfz60_1
             try clear hfz60_2
             try clear hfz63_0
             try clear hfz63_1
             try clear hfz63_2
             try clear hfz66_0
             try clear hfz66_1
             try clear hfz66_2
             try clear hfz68_0
             try clear hfz68_1
             try clear hfz68_2
             try clear hfz71_0
             try clear hfz71_1
             try clear hfz71_2
             try clear hfz73_0
             try clear hfz73_1
             try clear hfz73_2
             try clear hfz75_0
             try clear hfz75_1
             try clear hfz75_2
             try clear hfz78_0
             try clear hfz78_1
             try clear hfz78_2
             try clear hfz81_0
             try clear hfz81_1
             try clear hfz81_2
             try clear hfz83_0
             try clear hfz83_1
             try clear hfz83_2
             try clear hfz86_0
             try clear hfz86_1
             try clear hfz86_2
             try clear hfz88_0
             try clear hfz88_1
             try clear hfz88_2
             try clear hfz8_0
             try clear hfz8_1
             try clear hfz8_2
             try clear hfz91_0
             try clear hfz91_1
             try clear hfz91_2
             try clear hfz94_0
             try clear hfz94_1
             try clear hfz94_2
             try clear hfz96_0
             try clear hfz96_1
             try clear hfz96_2
             try clear hfz99_0
             try clear hfz99_1
             try clear hfz99_2
             try clear hx171_0
             try clear hx178_0
             try clear p1
             try clear p17
             try clear p171
             try clear p178
             try clear p2
             try clear p6
             try clear p64
             try clear q1
             try clear q17
             try clear q171
             try clear q178
             obtain ⟨x17_4, x20_4, rfl, HA, HK4, HO_17, HO_497001, HO_497002, BK470, BK496, HB⟩ := hrel
             cases gk with
             | zero => exact absurd HA.out (by simp [silversidelaw07_FindZero.l2])
             | succ k4 =>
              have H := HA.out
              clear HA
              simp only [silversidelaw07_FindZero.l2] at H
              by_cases c183 : x20_4 < (x17_4.length : Int)
              ·rw [if_pos c183] at H
               have c183b0 : decide (x20_4 < (x17_4.length : Int)) = true := decide_eq_true c183
               clear c183
               by_cases c184 : 0 ≤ x20_4
               ·rw [if_pos c184] at H
                have c184b0 : decide (0 ≤ x20_4) = true := decide_eq_true c184
                clear c184
                obtain ⟨y508, hy508⟩ : ∃ y_ : List Int, y_ = (x17_4.set (x20_4 : Int).toNat (-1)) := ⟨_, rfl⟩
                replace H : (silversidelaw07_FindZero.l2 k4 sa0_ t495 y508 (wrap64 (x20_4 + 1)) t488 t489 t492) = some r := by first | (rw [hy508]; with_reducible exact H) | (have H2_ := (Option.bind_some _ _).symm.trans H; rw [hy508]; with_reducible exact H2_) | (have H2_ := (Option.bind_some _ _).symm.trans H; with_reducible exact H2_) | with_reducible exact H | (rw [hy508]; exact H) | exact H
                have Ny508 := Aside0.mk hy508
                clear hy508
                have H' := Aside0.mk H
                clear H
                obtain ⟨Ao186, co186, eo186⟩ := Kd.R_slice HO_17.out
                subst eo186
                have p185 : 0 ≤ (x20_4 : Int) := of_decide_eq_true (by first | (with_reducible assumption) | assumption)
                have q185 : (x20_4 : Int) < ((x17_4.length : Int) : Int) := of_decide_eq_true (by first | (with_reducible assumption) | assumption)
                obtain ⟨go185, co185, eo185, gb185, gl185, cl185, HG185⟩ := Kd.R_form HO_17.out (by omega)
                (first | cases eo185 | (injection eo185 with ea_ en_ ec_; (first | subst ea_ | (injection ea_ with ea_; subst ea_)); subst ec_; clear en_))
                have GB185 := Aside0.mk gb185
                have GG185 := Aside0.mk HG185
                clear gb185 gl185 HG185
                obtain ⟨hx185_0, hf185_0⟩ := Kd.R_celln 0 HO_17.out (x20_4 : Int) p185 q185
                replace p185 := eq_true p185
                replace q185 := eq_true q185
                have HP187 := Kd.R_putg HO_17.out (x20_4 : Int) (-1)
                go_wp2_with (first | ((with_reducible refine gate_store (t := 3) (p := 129) rfl ?_); refine store_event (t := 3) (p := 129) (v := ?vo_w188) (w1 := (wr.setCell ⟨go185, (x20_4 : Int).toNat, none⟩ (.int .i64 (-1)))) ?hg ?ho ?hn ?hr ?_; (case ho => rfl); (case hg => rfl); (case hn => rfl); (case hr => first | (go_simp; done) | (go_simp; rfl)); intro w188 hw; have hg : wr.grownBy w188 (some go185) := (by rw [hw]; exact HP187.2); have hp_ : Kd.R (Kd.int .i64) 3 w188 w.heap.size (fun k_ => some k_ ≠ (.slice Ao162 t489.length co162 : Value).ownBlock ∧ some k_ ≠ (.slice Ao163 t492.length co163 : Value).ownBlock) (.slice (some ⟨go185, 0, none⟩) x17_4.length co186) y508 := (by rw [hw, Ny508.out]; exact HP187.1); clear HP187; have n0_ := Aside0.mk (hp_); have n1_ := Aside0.mk (Kd.R_after (v := (.slice (some ⟨go185, 0, none⟩) x17_4.length co186)) (v1 := (.slice (some ⟨go185, 0, none⟩) x17_4.length co186)) (ok := (fun k_ => some k_ ≠ (.slice Ao163 t492.length co163 : Value).ownBlock)) (by (with_reducible repeat (first | apply Kd.R_alloc | apply Kd.R_drewN | apply Kd.R_drew)); exact Kd.R_mono HO_497001.out (fun _ hk => ⟨hk.2, hk.1⟩)) hg (.inl rfl)); have n2_ := Aside0.mk (Kd.R_after (v := (.slice (some ⟨go185, 0, none⟩) x17_4.length co186)) (v1 := (.slice (some ⟨go185, 0, none⟩) x17_4.length co186)) (ok := (fun k_ => some k_ ≠ (.slice Ao162 t489.length co162 : Value).ownBlock)) (by (with_reducible repeat (first | apply Kd.R_alloc | apply Kd.R_drewN | apply Kd.R_drew)); exact Kd.R_mono HO_497002.out (fun _ hk => ⟨hk.2, hk.1⟩)) hg (.inl rfl)); have n3_ := Aside0.mk (blk_grown (g := gb470) (o := .cells #[.string (⟨#[]⟩ : ByteArray), .slice none 0 0, .slice none 0 0] 24 (0, 0)) (kX BK470.out) hg (Kd.R_ne HO_17.out BK470.out (by decide))); have n4_ := Aside0.mk (blk_grown (g := gb496) (o := .cells #[.string t488, .slice Ao162 t489.length co162, .slice Ao163 t492.length co163] 24 (0, 0)) (kX BK496.out) hg (Kd.R_ne HO_17.out BK496.out (by decide))); have n5_ := Aside0.mk ((by rw [hw]; exact lS (HB.out) GB185.out : Below w.heap.size w w188)); clear HO_17; clear HO_497001; clear HO_497002; clear BK470; clear BK496; clear HB; have HO_17 := n0_; have HO_497001 := n1_; have HO_497002 := n2_; have BK470 := n3_; have BK496 := n4_; have HB := n5_; clear n0_ n1_ n2_ n3_ n4_ n5_; clear hg hw hp_))
                go_roundg k4
                case measure => have := HJ5.out; have := HK2.out; have := HK3.out; have := HK4.out; omega
                case rel => exact ⟨(y508), (wrap64 (x20_4 + 1)), (by first | rfl | (simp; done) | (simp [*]; done)), H', ⟨by have := HJ5.out; have := HK2.out; have := HK3.out; have := HK4.out; omega⟩, ⟨by (with_reducible repeat (first | apply Kd.R_alloc | apply Kd.R_drewN | apply Kd.R_drew)); exact HO_17.out⟩, ⟨by (with_reducible repeat (first | apply Kd.R_alloc | apply Kd.R_drewN | apply Kd.R_drew)); exact Kd.R_mono HO_497001.out (fun _ hk => ⟨hk.2, hk.1⟩)⟩, ⟨by (with_reducible repeat (first | apply Kd.R_alloc | apply Kd.R_drewN | apply Kd.R_drew)); exact Kd.R_mono HO_497002.out (fun _ hk => ⟨hk.2, hk.1⟩)⟩, ⟨by (with_reducible repeat (first | refine kN ?_ _ | refine kD ?_ | refine kA ?_ _)); exact BK470.out⟩, ⟨by (with_reducible repeat (first | refine kN ?_ _ | refine kD ?_ | refine kA ?_ _)); exact BK496.out⟩, ⟨by repeat (first | (with_reducible first | exact HB.out | apply lA | apply lN | apply lD | refine lS ?_ GE470.out | refine lS ?_ GE496.out) | exact HB.out)⟩⟩
               ·rw [if_neg c184] at H
                exact absurd H (by simp)
              ·rw [if_neg c183] at H
               have c183b0 : decide (x20_4 < (x17_4.length : Int)) = false := decide_eq_false c183
               clear c183
               replace H := Option.bind_eq_some_iff.mp H
               obtain ⟨t509, A1890, H⟩ := H
               replace H : (if t495 = 0 then ((find_Index_Order.f t488 t489 t492).bind fun t512 => ((silversidelaw07_ints.f k4 t512 t509).bind fun t515 => (if t515 = true then ((find_Index_Overlaps.f t488 t489 t492).bind fun t516 => ((silversideref07_Overlaps.f k4 sa0_ t509).bind fun t519 => ((silversidelaw07_ints.f k4 t516 t519).bind fun t522 => (if t522 = true then ((find_Index_Find.f t488 t489 t492 (⟨#[]⟩ : ByteArray)).bind fun t523 => (if (t523.length : Int) = (sa0_.size : Int) then ((silversidelaw07_awake.f k4).bind fun t526 => (some t526)) else (some false))) else (some false))))) else (some false)))) else (some false)) = some r := H
               have A189 := Aside0.mk A1890
               clear A1890
               by_cases c190 : t495 = 0
               ·rw [if_pos c190] at H
                have c190b0 : (t495 == 0) = true := beq_iff_eq.mpr c190
                have c190b1 : (t495 != 0) = false := bne_eq_false_iff_eq.mpr c190
                clear c190
                replace H := Option.bind_eq_some_iff.mp H
                obtain ⟨t512, A1910, H⟩ := H
                replace H : ((silversidelaw07_ints.f k4 t512 t509).bind fun t515 => (if t515 = true then ((find_Index_Overlaps.f t488 t489 t492).bind fun t516 => ((silversideref07_Overlaps.f k4 sa0_ t509).bind fun t519 => ((silversidelaw07_ints.f k4 t516 t519).bind fun t522 => (if t522 = true then ((find_Index_Find.f t488 t489 t492 (⟨#[]⟩ : ByteArray)).bind fun t523 => (if (t523.length : Int) = (sa0_.size : Int) then ((silversidelaw07_awake.f k4).bind fun t526 => (some t526)) else (some false))) else (some false))))) else (some false))) = some r := H
                have A191 := Aside0.mk A1910
                clear A1910
                replace H := Option.bind_eq_some_iff.mp H
                obtain ⟨t515, A1920, H⟩ := H
                replace H : (if t515 = true then ((find_Index_Overlaps.f t488 t489 t492).bind fun t516 => ((silversideref07_Overlaps.f k4 sa0_ t509).bind fun t519 => ((silversidelaw07_ints.f k4 t516 t519).bind fun t522 => (if t522 = true then ((find_Index_Find.f t488 t489 t492 (⟨#[]⟩ : ByteArray)).bind fun t523 => (if (t523.length : Int) = (sa0_.size : Int) then ((silversidelaw07_awake.f k4).bind fun t526 => (some t526)) else (some false))) else (some false))))) else (some false)) = some r := H
                have A192 := Aside0.mk A1920
                clear A1920
                by_cases c193 : t515 = true
                ·subst c193
                 have H1 : ((find_Index_Overlaps.f t488 t489 t492).bind fun t516 => ((silversideref07_Overlaps.f k4 sa0_ t509).bind fun t519 => ((silversidelaw07_ints.f k4 t516 t519).bind fun t522 => (if t522 = true then ((find_Index_Find.f t488 t489 t492 (⟨#[]⟩ : ByteArray)).bind fun t523 => (if (t523.length : Int) = (sa0_.size : Int) then ((silversidelaw07_awake.f k4).bind fun t526 => (some t526)) else (some false))) else (some false))))) = some r := by rw [if_pos rfl] at H; exact H
                 clear H
                 have H := H1
                 clear H1
                 replace H := Option.bind_eq_some_iff.mp H
                 obtain ⟨t516, A1940, H⟩ := H
                 replace H : ((silversideref07_Overlaps.f k4 sa0_ t509).bind fun t519 => ((silversidelaw07_ints.f k4 t516 t519).bind fun t522 => (if t522 = true then ((find_Index_Find.f t488 t489 t492 (⟨#[]⟩ : ByteArray)).bind fun t523 => (if (t523.length : Int) = (sa0_.size : Int) then ((silversidelaw07_awake.f k4).bind fun t526 => (some t526)) else (some false))) else (some false)))) = some r := H
                 have A194 := Aside0.mk A1940
                 clear A1940
                 replace H := Option.bind_eq_some_iff.mp H
                 obtain ⟨t519, A1950, H⟩ := H
                 replace H : ((silversidelaw07_ints.f k4 t516 t519).bind fun t522 => (if t522 = true then ((find_Index_Find.f t488 t489 t492 (⟨#[]⟩ : ByteArray)).bind fun t523 => (if (t523.length : Int) = (sa0_.size : Int) then ((silversidelaw07_awake.f k4).bind fun t526 => (some t526)) else (some false))) else (some false))) = some r := H
                 have A195 := Aside0.mk A1950
                 clear A1950
                 replace H := Option.bind_eq_some_iff.mp H
                 obtain ⟨t522, A1960, H⟩ := H
                 replace H : (if t522 = true then ((find_Index_Find.f t488 t489 t492 (⟨#[]⟩ : ByteArray)).bind fun t523 => (if (t523.length : Int) = (sa0_.size : Int) then ((silversidelaw07_awake.f k4).bind fun t526 => (some t526)) else (some false))) else (some false)) = some r := H
                 have A196 := Aside0.mk A1960
                 clear A1960
                 by_cases c197 : t522 = true
                 ·subst c197
                  have H1 : ((find_Index_Find.f t488 t489 t492 (⟨#[]⟩ : ByteArray)).bind fun t523 => (if (t523.length : Int) = (sa0_.size : Int) then ((silversidelaw07_awake.f k4).bind fun t526 => (some t526)) else (some false))) = some r := by rw [if_pos rfl] at H; exact H
                  clear H
                  have H := H1
                  clear H1
                  replace H := Option.bind_eq_some_iff.mp H
                  obtain ⟨t523, A1980, H⟩ := H
                  replace H : (if (t523.length : Int) = (sa0_.size : Int) then ((silversidelaw07_awake.f k4).bind fun t526 => (some t526)) else (some false)) = some r := H
                  have A198 := Aside0.mk A1980
                  clear A1980
                  by_cases c199 : (t523.length : Int) = (sa0_.size : Int)
                  ·rw [if_pos c199] at H
                   have c199b0 : ((t523.length : Int) == (sa0_.size : Int)) = true := beq_iff_eq.mpr c199
                   have c199b1 : ((t523.length : Int) != (sa0_.size : Int)) = false := bne_eq_false_iff_eq.mpr c199
                   have c199b2 : (t523.length == sa0_.size) = true := by first | simpa using c199 | (simp at c199 ⊢; omega)
                   clear c199
                   replace H := Option.bind_eq_some_iff.mp H
                   obtain ⟨t526, A2000, H⟩ := H
                   replace H : (some t526) = some r := H
                   have A200 := Aside0.mk A2000
                   clear A2000
                   obtain rfl := Option.some.inj H
                   obtain ⟨Ao201, co201, eo201⟩ := Kd.R_slice HO_17.out
                   subst eo201
                   go_wp2_with (first | ((with_reducible refine gate_callee (f := 32) rfl ?_); refine goesL_ (some 131) rfl rfl Try.func32 (by kernel_rfl) rfl #[.string sa0_] rfl (by (try simp only [List.map_toArray, List.map_cons, List.map_nil]); first | done | (simp only [hji151]; rfl) | rfl | (simp only [List.length_drop, List.length_take]; rfl)) ?_; (with_reducible refine (silversideref07_Order.calls k4 sa0_ t509 _ A189.out).mono ?_); rintro e w202 ⟨v510, rfl, ho0, hb⟩; refine ⟨_, rfl, ?_⟩; have n0_ := Aside0.mk (Kd.R_elder' (by (with_reducible repeat (first | apply Kd.R_alloc | apply Kd.R_drewN | apply Kd.R_drew)); exact HO_17.out) (Kd.R_base ho0) hb); have n1_ := Aside0.mk (Kd.R_elder' (by (with_reducible repeat (first | apply Kd.R_alloc | apply Kd.R_drewN | apply Kd.R_drew)); exact HO_497001.out) (Kd.R_base ho0) hb); have n2_ := Aside0.mk (Kd.R_elder' (by (with_reducible repeat (first | apply Kd.R_alloc | apply Kd.R_drewN | apply Kd.R_drew)); exact HO_497002.out) (Kd.R_base ho0) hb); have n3_ := Aside0.mk (Kd.R_lower (Kd.R_new' (Kd.R_new' (Kd.R_new' ho0 (Kd.R_lt (by (with_reducible repeat (first | apply Kd.R_alloc | apply Kd.R_drewN | apply Kd.R_drew)); exact HO_17.out))) (Kd.R_lt (by (with_reducible repeat (first | apply Kd.R_alloc | apply Kd.R_drewN | apply Kd.R_drew)); exact HO_497001.out))) (Kd.R_lt (by (with_reducible repeat (first | apply Kd.R_alloc | apply Kd.R_drewN | apply Kd.R_drew)); exact HO_497002.out))) (below_size (by repeat (first | (with_reducible first | exact HB.out | apply lA | apply lN | apply lD | refine lS ?_ GE470.out | refine lS ?_ GE496.out) | exact HB.out)))); have n4_ := Aside0.mk (blk_below (g := gb470) (o := .cells #[.string (⟨#[]⟩ : ByteArray), .slice none 0 0, .slice none 0 0] 24 (0, 0)) (kX BK470.out) hb); have n5_ := Aside0.mk (blk_below (g := gb496) (o := .cells #[.string t488, .slice Ao162 t489.length co162, .slice Ao163 t492.length co163] 24 (0, 0)) (kX BK496.out) hb); have n6_ := Aside0.mk (below_step (by repeat (first | (with_reducible first | exact HB.out | apply lA | apply lN | apply lD | refine lS ?_ GE470.out | refine lS ?_ GE496.out) | exact HB.out)) hb); clear HO_17; clear HO_497001; clear HO_497002; clear BK470; clear BK496; clear HB; have HO_17 := n0_; have HO_497001 := n1_; have HO_497002 := n2_; have HO511 := n3_; have BK470 := n4_; have BK496 := n5_; have HB := n6_; clear n0_ n1_ n2_ n3_ n4_ n5_ n6_; (try clear hb); (try clear hb2); (try clear hk); (try clear hi); (try clear ho0); have hnb203 := NB496_470.out; have hnc203 := NB470_496.out; have hcz204_0 : w202.cell? ⟨gb496, 0, none⟩ = some (.string t488) := (blk_cell BK496.out 0).trans rfl; have hcz204_1 : w202.cell? ⟨gb496, 1, none⟩ = some (.slice Ao162 t489.length co162) := (blk_cell BK496.out 1).trans rfl; have hcz204_2 : w202.cell? ⟨gb496, 2, none⟩ = some (.slice Ao163 t492.length co163) := (blk_cell BK496.out 2).trans rfl; have hfz204_0 := blk_frozen BK496.out 0; have hfz204_1 := blk_frozen BK496.out 1; have hfz204_2 := blk_frozen BK496.out 2) | (go_at_call 31; (with_reducible refine (find_Index_Order.calls t488 _ _ t489 _ _ t492 t512 _ ?side1 ?side2 ?side3 ?side4 A191.out).mono ?_); (case side1 => repeat (first | exact (Kd.R_reads' HO_497001.out).2.2 | (with_reducible refine Kd.C_alloc ?_ _) | (with_reducible refine Kd.C_drewN ?_ _) | (with_reducible refine Kd.C_drew ?_))); (case side2 => exact (Kd.R_reads' HO_497001.out).2.1); (case side3 => repeat (first | exact (Kd.R_reads' HO_497002.out).2.2 | (with_reducible refine Kd.C_alloc ?_ _) | (with_reducible refine Kd.C_drewN ?_ _) | (with_reducible refine Kd.C_drew ?_))); (case side4 => exact (Kd.R_reads' HO_497002.out).2.1); rintro e w205 ⟨v513, rfl, ho0, hb⟩; have n0_ := Aside0.mk (Kd.R_elder' (by (with_reducible repeat (first | apply Kd.R_alloc | apply Kd.R_drewN | apply Kd.R_drew)); exact HO_17.out) (Kd.R_base ho0) hb); have n1_ := Aside0.mk (Kd.R_elder' (by (with_reducible repeat (first | apply Kd.R_alloc | apply Kd.R_drewN | apply Kd.R_drew)); exact HO_497001.out) (Kd.R_base ho0) hb); have n2_ := Aside0.mk (Kd.R_elder' (by (with_reducible repeat (first | apply Kd.R_alloc | apply Kd.R_drewN | apply Kd.R_drew)); exact HO_497002.out) (Kd.R_base ho0) hb); have n3_ := Aside0.mk (Kd.R_elder' (by (with_reducible repeat (first | apply Kd.R_alloc | apply Kd.R_drewN | apply Kd.R_drew)); exact HO511.out) (Kd.R_base ho0) hb); have n4_ := Aside0.mk (Kd.R_lower (Kd.R_new' (Kd.R_new' (Kd.R_new' (Kd.R_new' ho0 (Kd.R_lt (by (with_reducible repeat (first | apply Kd.R_alloc | apply Kd.R_drewN | apply Kd.R_drew)); exact HO_17.out))) (Kd.R_lt (by (with_reducible repeat (first | apply Kd.R_alloc | apply Kd.R_drewN | apply Kd.R_drew)); exact HO_497001.out))) (Kd.R_lt (by (with_reducible repeat (first | apply Kd.R_alloc | apply Kd.R_drewN | apply Kd.R_drew)); exact HO_497002.out))) (Kd.R_lt (by (with_reducible repeat (first | apply Kd.R_alloc | apply Kd.R_drewN | apply Kd.R_drew)); exact HO511.out))) (below_size (by repeat (first | (with_reducible first | exact HB.out | apply lA | apply lN | apply lD | refine lS ?_ GE470.out | refine lS ?_ GE496.out) | exact HB.out)))); have n5_ := Aside0.mk (blk_below (g := gb470) (o := .cells #[.string (⟨#[]⟩ : ByteArray), .slice none 0 0, .slice none 0 0] 24 (0, 0)) (kX BK470.out) hb); have n6_ := Aside0.mk (blk_below (g := gb496) (o := .cells #[.string t488, .slice Ao162 t489.length co162, .slice Ao163 t492.length co163] 24 (0, 0)) (kX BK496.out) hb); have n7_ := Aside0.mk (below_step (by repeat (first | (with_reducible first | exact HB.out | apply lA | apply lN | apply lD | refine lS ?_ GE470.out | refine lS ?_ GE496.out) | exact HB.out)) hb); clear HO_17; clear HO_497001; clear HO_497002; clear HO511; clear BK470; clear BK496; clear HB; have HO_17 := n0_; have HO_497001 := n1_; have HO_497002 := n2_; have HO511 := n3_; have HO514 := n4_; have BK470 := n5_; have BK496 := n6_; have HB := n7_; clear n0_ n1_ n2_ n3_ n4_ n5_ n6_ n7_; (try clear hb); (try clear hb2); (try clear hk); (try clear hi); (try clear ho0); obtain ⟨Ao206, co206, eo206⟩ := Kd.R_slice HO514.out; subst eo206; obtain ⟨Ao207, co207, eo207⟩ := Kd.R_slice HO511.out; subst eo207) | (go_at_call 33; (with_reducible refine (silversidelaw07_ints.calls k4 _ _ t512 _ _ t509 true _ ?side1 ?side2 ?side3 ?side4 A192.out).mono ?_); (case side1 => repeat (first | exact (Kd.R_reads' HO514.out).2.2 | (with_reducible refine Kd.C_alloc ?_ _) | (with_reducible refine Kd.C_drewN ?_ _) | (with_reducible refine Kd.C_drew ?_))); (case side2 => exact (Kd.R_reads' HO514.out).2.1); (case side3 => repeat (first | exact (Kd.R_reads' HO511.out).2.2 | (with_reducible refine Kd.C_alloc ?_ _) | (with_reducible refine Kd.C_drewN ?_ _) | (with_reducible refine Kd.C_drew ?_))); (case side4 => exact (Kd.R_reads' HO511.out).2.1); rintro e w' ⟨rfl, ⟨nd, rfl⟩⟩; have hcz208_0 : w205.cell? ⟨gb496, 0, none⟩ = some (.string t488) := (blk_cell BK496.out 0).trans rfl; have hcz208_1 : w205.cell? ⟨gb496, 1, none⟩ = some (.slice Ao162 t489.length co162) := (blk_cell BK496.out 1).trans rfl; have hcz208_2 : w205.cell? ⟨gb496, 2, none⟩ = some (.slice Ao163 t492.length co163) := (blk_cell BK496.out 2).trans rfl; have hfz208_0 := blk_frozen BK496.out 0; have hfz208_1 := blk_frozen BK496.out 1; have hfz208_2 := blk_frozen BK496.out 2) | (go_at_call 28; (with_reducible refine (find_Index_Overlaps.calls t488 _ _ t489 _ _ t492 t516 _ ?side1 ?side2 ?side3 ?side4 A194.out).mono ?_); (case side1 => repeat (first | exact (Kd.R_reads' HO_497001.out).2.2 | (with_reducible refine Kd.C_alloc ?_ _) | (with_reducible refine Kd.C_drewN ?_ _) | (with_reducible refine Kd.C_drew ?_))); (case side2 => exact (Kd.R_reads' HO_497001.out).2.1); (case side3 => repeat (first | exact (Kd.R_reads' HO_497002.out).2.2 | (with_reducible refine Kd.C_alloc ?_ _) | (with_reducible refine Kd.C_drewN ?_ _) | (with_reducible refine Kd.C_drew ?_))); (case side4 => exact (Kd.R_reads' HO_497002.out).2.1); rintro e w209 ⟨v517, rfl, ho0, hb⟩; have n0_ := Aside0.mk (Kd.R_elder' (by (with_reducible repeat (first | apply Kd.R_alloc | apply Kd.R_drewN | apply Kd.R_drew)); exact HO_17.out) (Kd.R_base ho0) hb); have n1_ := Aside0.mk (Kd.R_elder' (by (with_reducible repeat (first | apply Kd.R_alloc | apply Kd.R_drewN | apply Kd.R_drew)); exact HO_497001.out) (Kd.R_base ho0) hb); have n2_ := Aside0.mk (Kd.R_elder' (by (with_reducible repeat (first | apply Kd.R_alloc | apply Kd.R_drewN | apply Kd.R_drew)); exact HO_497002.out) (Kd.R_base ho0) hb); have n3_ := Aside0.mk (Kd.R_elder' (by (with_reducible repeat (first | apply Kd.R_alloc | apply Kd.R_drewN | apply Kd.R_drew)); exact HO511.out) (Kd.R_base ho0) hb); have n4_ := Aside0.mk (Kd.R_elder' (by (with_reducible repeat (first | apply Kd.R_alloc | apply Kd.R_drewN | apply Kd.R_drew)); exact HO514.out) (Kd.R_base ho0) hb); have n5_ := Aside0.mk (Kd.R_lower (Kd.R_new' (Kd.R_new' (Kd.R_new' (Kd.R_new' (Kd.R_new' ho0 (Kd.R_lt (by (with_reducible repeat (first | apply Kd.R_alloc | apply Kd.R_drewN | apply Kd.R_drew)); exact HO_17.out))) (Kd.R_lt (by (with_reducible repeat (first | apply Kd.R_alloc | apply Kd.R_drewN | apply Kd.R_drew)); exact HO_497001.out))) (Kd.R_lt (by (with_reducible repeat (first | apply Kd.R_alloc | apply Kd.R_drewN | apply Kd.R_drew)); exact HO_497002.out))) (Kd.R_lt (by (with_reducible repeat (first | apply Kd.R_alloc | apply Kd.R_drewN | apply Kd.R_drew)); exact HO511.out))) (Kd.R_lt (by (with_reducible repeat (first | apply Kd.R_alloc | apply Kd.R_drewN | apply Kd.R_drew)); exact HO514.out))) (below_size (by repeat (first | (with_reducible first | exact HB.out | apply lA | apply lN | apply lD | refine lS ?_ GE470.out | refine lS ?_ GE496.out) | exact HB.out)))); have n6_ := Aside0.mk (blk_below (g := gb470) (o := .cells #[.string (⟨#[]⟩ : ByteArray), .slice none 0 0, .slice none 0 0] 24 (0, 0)) (kX BK470.out) hb); have n7_ := Aside0.mk (blk_below (g := gb496) (o := .cells #[.string t488, .slice Ao162 t489.length co162, .slice Ao163 t492.length co163] 24 (0, 0)) (kX BK496.out) hb); have n8_ := Aside0.mk (below_step (by repeat (first | (with_reducible first | exact HB.out | apply lA | apply lN | apply lD | refine lS ?_ GE470.out | refine lS ?_ GE496.out) | exact HB.out)) hb); clear HO_17; clear HO_497001; clear HO_497002; clear HO511; clear HO514; clear BK470; clear BK496; clear HB; have HO_17 := n0_; have HO_497001 := n1_; have HO_497002 := n2_; have HO511 := n3_; have HO514 := n4_; have HO518 := n5_; have BK470 := n6_; have BK496 := n7_; have HB := n8_; clear n0_ n1_ n2_ n3_ n4_ n5_ n6_ n7_ n8_; (try clear hb); (try clear hb2); (try clear hk); (try clear hi); (try clear ho0)) | (go_at_call 34; (with_reducible refine (silversideref07_Overlaps.calls k4 sa0_ _ _ t509 t519 _ ?side1 ?side2 A195.out).mono ?_); (case side1 => repeat (first | exact (Kd.R_reads' HO511.out).2.2 | (with_reducible refine Kd.C_alloc ?_ _) | (with_reducible refine Kd.C_drewN ?_ _) | (with_reducible refine Kd.C_drew ?_))); (case side2 => exact (Kd.R_reads' HO511.out).2.1); rintro e w210 ⟨v520, rfl, ho0, hb⟩; have n0_ := Aside0.mk (Kd.R_elder' (by (with_reducible repeat (first | apply Kd.R_alloc | apply Kd.R_drewN | apply Kd.R_drew)); exact HO_17.out) (Kd.R_base ho0) hb); have n1_ := Aside0.mk (Kd.R_elder' (by (with_reducible repeat (first | apply Kd.R_alloc | apply Kd.R_drewN | apply Kd.R_drew)); exact HO_497001.out) (Kd.R_base ho0) hb); have n2_ := Aside0.mk (Kd.R_elder' (by (with_reducible repeat (first | apply Kd.R_alloc | apply Kd.R_drewN | apply Kd.R_drew)); exact HO_497002.out) (Kd.R_base ho0) hb); have n3_ := Aside0.mk (Kd.R_elder' (by (with_reducible repeat (first | apply Kd.R_alloc | apply Kd.R_drewN | apply Kd.R_drew)); exact HO511.out) (Kd.R_base ho0) hb); have n4_ := Aside0.mk (Kd.R_elder' (by (with_reducible repeat (first | apply Kd.R_alloc | apply Kd.R_drewN | apply Kd.R_drew)); exact HO514.out) (Kd.R_base ho0) hb); have n5_ := Aside0.mk (Kd.R_elder' (by (with_reducible repeat (first | apply Kd.R_alloc | apply Kd.R_drewN | apply Kd.R_drew)); exact HO518.out) (Kd.R_base ho0) hb); have n6_ := Aside0.mk (Kd.R_lower (Kd.R_new' (Kd.R_new' (Kd.R_new' (Kd.R_new' (Kd.R_new' (Kd.R_new' ho0 (Kd.R_lt (by (with_reducible repeat (first | apply Kd.R_alloc | apply Kd.R_drewN | apply Kd.R_drew)); exact HO_17.out))) (Kd.R_lt (by (with_reducible repeat (first | apply Kd.R_alloc | apply Kd.R_drewN | apply Kd.R_drew)); exact HO_497001.out))) (Kd.R_lt (by (with_reducible repeat (first | apply Kd.R_alloc | apply Kd.R_drewN | apply Kd.R_drew)); exact HO_497002.out))) (Kd.R_lt (by (with_reducible repeat (first | apply Kd.R_alloc | apply Kd.R_drewN | apply Kd.R_drew)); exact HO511.out))) (Kd.R_lt (by (with_reducible repeat (first | apply Kd.R_alloc | apply Kd.R_drewN | apply Kd.R_drew)); exact HO514.out))) (Kd.R_lt (by (with_reducible repeat (first | apply Kd.R_alloc | apply Kd.R_drewN | apply Kd.R_drew)); exact HO518.out))) (below_size (by repeat (first | (with_reducible first | exact HB.out | apply lA | apply lN | apply lD | refine lS ?_ GE470.out | refine lS ?_ GE496.out) | exact HB.out)))); have n7_ := Aside0.mk (blk_below (g := gb470) (o := .cells #[.string (⟨#[]⟩ : ByteArray), .slice none 0 0, .slice none 0 0] 24 (0, 0)) (kX BK470.out) hb); have n8_ := Aside0.mk (blk_below (g := gb496) (o := .cells #[.string t488, .slice Ao162 t489.length co162, .slice Ao163 t492.length co163] 24 (0, 0)) (kX BK496.out) hb); have n9_ := Aside0.mk (below_step (by repeat (first | (with_reducible first | exact HB.out | apply lA | apply lN | apply lD | refine lS ?_ GE470.out | refine lS ?_ GE496.out) | exact HB.out)) hb); clear HO_17; clear HO_497001; clear HO_497002; clear HO511; clear HO514; clear HO518; clear BK470; clear BK496; clear HB; have HO_17 := n0_; have HO_497001 := n1_; have HO_497002 := n2_; have HO511 := n3_; have HO514 := n4_; have HO518 := n5_; have HO521 := n6_; have BK470 := n7_; have BK496 := n8_; have HB := n9_; clear n0_ n1_ n2_ n3_ n4_ n5_ n6_ n7_ n8_ n9_; (try clear hb); (try clear hb2); (try clear hk); (try clear hi); (try clear ho0); obtain ⟨Ao211, co211, eo211⟩ := Kd.R_slice HO518.out; subst eo211; obtain ⟨Ao212, co212, eo212⟩ := Kd.R_slice HO521.out; subst eo212) | (go_at_call 33; (with_reducible refine (silversidelaw07_ints.calls k4 _ _ t516 _ _ t519 true _ ?side1 ?side2 ?side3 ?side4 A196.out).mono ?_); (case side1 => repeat (first | exact (Kd.R_reads' HO518.out).2.2 | (with_reducible refine Kd.C_alloc ?_ _) | (with_reducible refine Kd.C_drewN ?_ _) | (with_reducible refine Kd.C_drew ?_))); (case side2 => exact (Kd.R_reads' HO518.out).2.1); (case side3 => repeat (first | exact (Kd.R_reads' HO521.out).2.2 | (with_reducible refine Kd.C_alloc ?_ _) | (with_reducible refine Kd.C_drewN ?_ _) | (with_reducible refine Kd.C_drew ?_))); (case side4 => exact (Kd.R_reads' HO521.out).2.1); rintro e w' ⟨rfl, ⟨nd, rfl⟩⟩; have hcz213_0 : w210.cell? ⟨gb496, 0, none⟩ = some (.string t488) := (blk_cell BK496.out 0).trans rfl; have hcz213_1 : w210.cell? ⟨gb496, 1, none⟩ = some (.slice Ao162 t489.length co162) := (blk_cell BK496.out 1).trans rfl; have hcz213_2 : w210.cell? ⟨gb496, 2, none⟩ = some (.slice Ao163 t492.length co163) := (blk_cell BK496.out 2).trans rfl; have hfz213_0 := blk_frozen BK496.out 0; have hfz213_1 := blk_frozen BK496.out 1; have hfz213_2 := blk_frozen BK496.out 2) | (go_at_call 38; (with_reducible refine (find_Index_Find.calls t488 _ _ t489 _ _ t492 (⟨#[]⟩ : ByteArray) t523 _ ?side1 ?side2 ?side3 ?side4 A198.out).mono ?_); (case side1 => repeat (first | exact (Kd.R_reads' HO_497001.out).2.2 | (with_reducible refine Kd.C_alloc ?_ _) | (with_reducible refine Kd.C_drewN ?_ _) | (with_reducible refine Kd.C_drew ?_))); (case side2 => exact (Kd.R_reads' HO_497001.out).2.1); (case side3 => repeat (first | exact (Kd.R_reads' HO_497002.out).2.2 | (with_reducible refine Kd.C_alloc ?_ _) | (with_reducible refine Kd.C_drewN ?_ _) | (with_reducible refine Kd.C_drew ?_))); (case side4 => exact (Kd.R_reads' HO_497002.out).2.1); rintro e w214 ⟨v524, rfl, ho0, hb⟩; have n0_ := Aside0.mk (Kd.R_elder' (by (with_reducible repeat (first | apply Kd.R_alloc | apply Kd.R_drewN | apply Kd.R_drew)); exact HO_17.out) (Kd.R_base ho0) hb); have n1_ := Aside0.mk (Kd.R_elder' (by (with_reducible repeat (first | apply Kd.R_alloc | apply Kd.R_drewN | apply Kd.R_drew)); exact HO_497001.out) (Kd.R_base ho0) hb); have n2_ := Aside0.mk (Kd.R_elder' (by (with_reducible repeat (first | apply Kd.R_alloc | apply Kd.R_drewN | apply Kd.R_drew)); exact HO_497002.out) (Kd.R_base ho0) hb); have n3_ := Aside0.mk (Kd.R_elder' (by (with_reducible repeat (first | apply Kd.R_alloc | apply Kd.R_drewN | apply Kd.R_drew)); exact HO511.out) (Kd.R_base ho0) hb); have n4_ := Aside0.mk (Kd.R_elder' (by (with_reducible repeat (first | apply Kd.R_alloc | apply Kd.R_drewN | apply Kd.R_drew)); exact HO514.out) (Kd.R_base ho0) hb); have n5_ := Aside0.mk (Kd.R_elder' (by (with_reducible repeat (first | apply Kd.R_alloc | apply Kd.R_drewN | apply Kd.R_drew)); exact HO518.out) (Kd.R_base ho0) hb); have n6_ := Aside0.mk (Kd.R_elder' (by (with_reducible repeat (first | apply Kd.R_alloc | apply Kd.R_drewN | apply Kd.R_drew)); exact HO521.out) (Kd.R_base ho0) hb); have n7_ := Aside0.mk (Kd.R_lower (Kd.R_new' (Kd.R_new' (Kd.R_new' (Kd.R_new' (Kd.R_new' (Kd.R_new' (Kd.R_new' ho0 (Kd.R_lt (by (with_reducible repeat (first | apply Kd.R_alloc | apply Kd.R_drewN | apply Kd.R_drew)); exact HO_17.out))) (Kd.R_lt (by (with_reducible repeat (first | apply Kd.R_alloc | apply Kd.R_drewN | apply Kd.R_drew)); exact HO_497001.out))) (Kd.R_lt (by (with_reducible repeat (first | apply Kd.R_alloc | apply Kd.R_drewN | apply Kd.R_drew)); exact HO_497002.out))) (Kd.R_lt (by (with_reducible repeat (first | apply Kd.R_alloc | apply Kd.R_drewN | apply Kd.R_drew)); exact HO511.out))) (Kd.R_lt (by (with_reducible repeat (first | apply Kd.R_alloc | apply Kd.R_drewN | apply Kd.R_drew)); exact HO514.out))) (Kd.R_lt (by (with_reducible repeat (first | apply Kd.R_alloc | apply Kd.R_drewN | apply Kd.R_drew)); exact HO518.out))) (Kd.R_lt (by (with_reducible repeat (first | apply Kd.R_alloc | apply Kd.R_drewN | apply Kd.R_drew)); exact HO521.out))) (below_size (by repeat (first | (with_reducible first | exact HB.out | apply lA | apply lN | apply lD | refine lS ?_ GE470.out | refine lS ?_ GE496.out) | exact HB.out)))); have n8_ := Aside0.mk (blk_below (g := gb470) (o := .cells #[.string (⟨#[]⟩ : ByteArray), .slice none 0 0, .slice none 0 0] 24 (0, 0)) (kX BK470.out) hb); have n9_ := Aside0.mk (blk_below (g := gb496) (o := .cells #[.string t488, .slice Ao162 t489.length co162, .slice Ao163 t492.length co163] 24 (0, 0)) (kX BK496.out) hb); have n10_ := Aside0.mk (below_step (by repeat (first | (with_reducible first | exact HB.out | apply lA | apply lN | apply lD | refine lS ?_ GE470.out | refine lS ?_ GE496.out) | exact HB.out)) hb); clear HO_17; clear HO_497001; clear HO_497002; clear HO511; clear HO514; clear HO518; clear HO521; clear BK470; clear BK496; clear HB; have HO_17 := n0_; have HO_497001 := n1_; have HO_497002 := n2_; have HO511 := n3_; have HO514 := n4_; have HO518 := n5_; have HO521 := n6_; have HO525 := n7_; have BK470 := n8_; have BK496 := n9_; have HB := n10_; clear n0_ n1_ n2_ n3_ n4_ n5_ n6_ n7_ n8_ n9_ n10_; (try clear hb); (try clear hb2); (try clear hk); (try clear hi); (try clear ho0); obtain ⟨Ao215, co215, eo215⟩ := Kd.R_slice HO525.out; subst eo215) | (go_at_call 21; (with_reducible refine (silversidelaw07_awake.calls k4  t526 _ A200.out).mono ?_); rintro e w216 ⟨rfl, hb⟩; have n0_ := Aside0.mk (Kd.R_below (by (with_reducible repeat (first | apply Kd.R_alloc | apply Kd.R_drewN | apply Kd.R_drew)); exact HO_17.out) hb); have n1_ := Aside0.mk (Kd.R_below (by (with_reducible repeat (first | apply Kd.R_alloc | apply Kd.R_drewN | apply Kd.R_drew)); exact HO_497001.out) hb); have n2_ := Aside0.mk (Kd.R_below (by (with_reducible repeat (first | apply Kd.R_alloc | apply Kd.R_drewN | apply Kd.R_drew)); exact HO_497002.out) hb); have n3_ := Aside0.mk (Kd.R_below (by (with_reducible repeat (first | apply Kd.R_alloc | apply Kd.R_drewN | apply Kd.R_drew)); exact HO511.out) hb); have n4_ := Aside0.mk (Kd.R_below (by (with_reducible repeat (first | apply Kd.R_alloc | apply Kd.R_drewN | apply Kd.R_drew)); exact HO514.out) hb); have n5_ := Aside0.mk (Kd.R_below (by (with_reducible repeat (first | apply Kd.R_alloc | apply Kd.R_drewN | apply Kd.R_drew)); exact HO518.out) hb); have n6_ := Aside0.mk (Kd.R_below (by (with_reducible repeat (first | apply Kd.R_alloc | apply Kd.R_drewN | apply Kd.R_drew)); exact HO521.out) hb); have n7_ := Aside0.mk (Kd.R_below (by (with_reducible repeat (first | apply Kd.R_alloc | apply Kd.R_drewN | apply Kd.R_drew)); exact HO525.out) hb); have n8_ := Aside0.mk (blk_below (g := gb470) (o := .cells #[.string (⟨#[]⟩ : ByteArray), .slice none 0 0, .slice none 0 0] 24 (0, 0)) (kX BK470.out) hb); have n9_ := Aside0.mk (blk_below (g := gb496) (o := .cells #[.string t488, .slice Ao162 t489.length co162, .slice Ao163 t492.length co163] 24 (0, 0)) (kX BK496.out) hb); have n10_ := Aside0.mk (below_step (by repeat (first | (with_reducible first | exact HB.out | apply lA | apply lN | apply lD | refine lS ?_ GE470.out | refine lS ?_ GE496.out) | exact HB.out)) hb); clear HO_17; clear HO_497001; clear HO_497002; clear HO511; clear HO514; clear HO518; clear HO521; clear HO525; clear BK470; clear BK496; clear HB; have HO_17 := n0_; have HO_497001 := n1_; have HO_497002 := n2_; have HO511 := n3_; have HO514 := n4_; have HO518 := n5_; have HO521 := n6_; have HO525 := n7_; have BK470 := n8_; have BK496 := n9_; have HB := n10_; clear n0_ n1_ n2_ n3_ n4_ n5_ n6_ n7_ n8_ n9_ n10_; (try clear hb); (try clear hb2); (try clear hk); (try clear hi)))
                   go_ret
                   exact ⟨by first | rfl | (simp [errW_none, errW_some] <;> rfl) | (simp only [← hji151]; first | rfl | (simp [errW_none, errW_some] <;> rfl)) | (simp [*, errW_none, errW_some] <;> rfl), by repeat (first | (with_reducible first | exact HB.out | apply lA | apply lN | apply lD | refine lS ?_ GE470.out | refine lS ?_ GE496.out) | exact HB.out)⟩
                  ·rw [if_neg c199] at H
                   exact absurd ((Option.some.inj H).trans hr_.out) (by decide)
                 ·replace c197 := Bool.eq_false_iff.mpr c197
                  subst c197
                  exact absurd ((Option.some.inj (show (some false : Option Bool) = some r from by rw [if_neg (show ¬ (false = true) by decide)] at H; exact H)).trans hr_.out) (by decide)
                ·replace c193 := Bool.eq_false_iff.mpr c193
                 subst c193
                 exact absurd ((Option.some.inj (show (some false : Option Bool) = some r from by rw [if_neg (show ¬ (false = true) by decide)] at H; exact H)).trans hr_.out) (by decide)
               ·rw [if_neg c190] at H
                exact absurd ((Option.some.inj H).trans hr_.out) (by decide)
     ·rw [if_neg c153] at H
      exact absurd H (by simp)
    ·rw [if_neg c152] at H
     exact absurd H (by simp)

/-- THE ONE PURE STATEMENT of silversidelaw07_FindZero: yours. -/
def silversidelaw07_FindZero.Pure : Prop := ∀ (a0 : ByteArray) (a1 : ByteArray) (a2 : Int), a0.size ≤ 140737488351232 → a1.size ≤ 140737488351232 → (Lit.int .i64 a2).wf = true → ∃ k, silversidelaw07_FindZero.f k a0 a1 a2 = some true
theorem silversidelaw07_FindZero.walk (P : silversidelaw07_FindZero.Pure) (a0 : ByteArray) (a1 : ByteArray) (a2 : Int) (w : World) (w0 : a0.size ≤ 140737488351232) (w1 : a1.size ≤ 140737488351232) (w2 : (Lit.int .i64 a2).wf = true) :
  Calls Try.prog 15 #[.string a0, .string a1, .int .i64 a2] w fun e w' => e = .returned (.bool true) ∧ Below w.heap.size w w' := by
 obtain ⟨k, h⟩ := P a0 a1 a2 w0 w1 w2
 refine (silversidelaw07_FindZero.calls k a0 a1 a2 true ⟨rfl⟩ w h).mono ?_
 rintro e w' ⟨rfl, hd⟩
 exact ⟨rfl, hd⟩

end Go.Proofs.Ytppelnlocfcgfaa.P
