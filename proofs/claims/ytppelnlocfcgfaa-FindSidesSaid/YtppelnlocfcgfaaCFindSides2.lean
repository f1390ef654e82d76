/- Proved here: what functions that the law reaches compute, and plain laws of that. No conditions but those that the theorems state. Put together by a program; a part of it was printed by a program of the session's, by way of the kit's printer (wip/printplus.py, wip/mend*.py). -/
import Derived.Test.YtppelnlocfcgfaaCFindSides1
import Derived.Test.YtppelnlocfcgfaaB1
import Derived.Test.YtppelnlocfcgfaaB2
import Derived.Test.YtppelnlocfcgfaaB3
import Derived.Test.YtppelnlocfcgfaaB4
set_option linter.unusedVariables false
set_option linter.unusedSimpArgs false
namespace Go.Proofs.Ytppelnlocfcgfaa.P
open Go.RowKit Go.Proofs.YtppelnlocfcgfaaW.PrintWords Go.Proofs.YtppelnlocfcgfaaW.PrintLast Go.Proofs.YtppelnlocfcgfaaW.PrintMore
attribute [local go_sem] max2_int min2_int max_two min_two max_three min_three max_four min_four   -- for this text's walks alone

/-! ### silversidelaw07_FindSides: function 12 -/
mutual
def silversidelaw07_FindSides.j0 : Nat → ByteArray → ByteArray → List Int → List Int → Bool → ByteArray → List Int → List Int → Option (Bool)
 | 0, _, _, _, _, _, _, _, _ => none
 | k + 1, x0, x1, x7, x8, x40, x371000, x371001, x371002 => if x40 = true then (some false) else (if 0 ≤ (x0.size : Int) then (if ((x0.size : Int) : Int).toNat ≤ 281474976710656 then (silversidelaw07_FindSides.l0 k x0 x1 x7 x8 (List.replicate ((x0.size : Int) : Int).toNat false) 0 0 false 0 x371000 x371001 x371002) else (none)) else (none))
def silversidelaw07_FindSides.l0 : Nat → ByteArray → ByteArray → List Int → List Int → List Bool → Int → Int → Bool → Int → ByteArray → List Int → List Int → Option (Bool)
 | 0, _, _, _, _, _, _, _, _, _, _, _, _ => none
 | k + 1, x0, x1, x7, x8, x9, x10, x11, x12, x13, x371000, x371001, x371002 => if x13 < (x7.length : Int) then (if 0 ≤ x13 then (if (rd x7 x13) < 0 then (silversidelaw07_FindSides.j2 k x0 x1 x7 x8 x9 x10 x11 x12 x13 (rd x7 x13) true x371000 x371001 x371002) else (if (rd x7 x13) ≥ (x0.size : Int) then (silversidelaw07_FindSides.j2 k x0 x1 x7 x8 x9 x10 x11 x12 x13 (rd x7 x13) true x371000 x371001 x371002) else (if 0 ≤ (rd x7 x13) then (if (rd x7 x13) < (x9.length : Int) then (if rdOf false x9 (rd x7 x13) = true then (silversidelaw07_FindSides.j2 k x0 x1 x7 x8 x9 x10 x11 x12 x13 (rd x7 x13) true x371000 x371001 x371002) else (if x13 > 0 then (if 0 ≤ (wrap64 (x13 - 1)) then (if (wrap64 (x13 - 1)) < (x7.length : Int) then (if 0 ≤ (rd x7 (wrap64 (x13 - 1))) then (if (rd x7 (wrap64 (x13 - 1))) ≤ (x0.size : Int) then (if (rd x7 x13) ≤ (x0.size : Int) then (silversidelaw07_FindSides.j2 k x0 x1 x7 x8 x9 x10 x11 x12 x13 (rd x7 x13) (!(Op.bytesLess ((x0.extract ((rd x7 (wrap64 (x13 - 1))) : Int).toNat x0.size).toList) ((x0.extract ((rd x7 x13) : Int).toNat x0.size).toList))) x371000 x371001 x371002) else (none)) else (none)) else (none)) else (none)) else (none)) else (silversidelaw07_FindSides.j2 k x0 x1 x7 x8 x9 x10 x11 x12 x13 (rd x7 x13) false x371000 x371001 x371002))) else (none)) else (none)))) else (none)) else (if x10 > 1 then (silversidelaw07_FindSides.j5 k x0 x1 x8 true) else ((find_Index_Count.f x371000 x371001 x371002 x1).bind fun t384 => (if x11 = t384 then (silversidelaw07_FindSides.j5 k x0 x1 x8 ((x8.length : Int) != x11)) else (silversidelaw07_FindSides.j5 k x0 x1 x8 true))))
def silversidelaw07_FindSides.j2 : Nat → ByteArray → ByteArray → List Int → List Int → List Bool → Int → Int → Bool → Int → Int → Bool → ByteArray → List Int → List Int → Option (Bool)
 | 0, _, _, _, _, _, _, _, _, _, _, _, _, _, _ => none
 | k + 1, x0, x1, x7, x8, x9, x10, x11, x12, x13, x14, x84, x371000, x371001, x371002 => if x84 = true then (some false) else (if 0 ≤ x14 then (if x14 < (x9.length : Int) then ((some (x9.set (x14 : Int).toNat true : List Bool)).bind fun y383 => (if (wrap64 ((x0.size : Int) - x14)) ≥ (x1.size : Int) then (if x14 ≤ (wrap64 (x14 + (x1.size : Int))) then (if (wrap64 (x14 + (x1.size : Int))) ≤ (x0.size : Int) then (silversidelaw07_FindSides.j3 k x0 x1 x7 x8 y383 x10 x11 x12 x13 ((x0.extract (x14 : Int).toNat ((wrap64 (x14 + (x1.size : Int))) : Int).toNat).toList == x1.toList) x371000 x371001 x371002) else (none)) else (none)) else (silversidelaw07_FindSides.j3 k x0 x1 x7 x8 y383 x10 x11 x12 x13 false x371000 x371001 x371002))) else (none)) else (none))
def silversidelaw07_FindSides.j3 : Nat → ByteArray → ByteArray → List Int → List Int → List Bool → Int → Int → Bool → Int → Bool → ByteArray → List Int → List Int → Option (Bool)
 | 0, _, _, _, _, _, _, _, _, _, _, _, _, _ => none
 | k + 1, x0, x1, x7, x8, x9, x10, x11, x12, x13, x15, x371000, x371001, x371002 => if x15 = true then (silversidelaw07_FindSides.j4 k x0 x1 x7 x8 x9 x10 x11 x13 x15 (!x12) x371000 x371001 x371002) else (silversidelaw07_FindSides.j4 k x0 x1 x7 x8 x9 x10 x11 x13 x15 false x371000 x371001 x371002)
def silversidelaw07_FindSides.j4 : Nat → ByteArray → ByteArray → List Int → List Int → List Bool → Int → Int → Int → Bool → Bool → ByteArray → List Int → List Int → Option (Bool)
 | 0, _, _, _, _, _, _, _, _, _, _, _, _, _ => none
 | k + 1, x0, x1, x7, x8, x9, x10, x11, x13, x15, x110, x371000, x371001, x371002 => if x110 = true then (if x15 = true then (silversidelaw07_FindSides.l0 k x0 x1 x7 x8 x9 (wrap64 (x10 + 1)) (wrap64 (x11 + 1)) x15 (wrap64 (x13 + 1)) x371000 x371001 x371002) else (silversidelaw07_FindSides.l0 k x0 x1 x7 x8 x9 (wrap64 (x10 + 1)) x11 x15 (wrap64 (x13 + 1)) x371000 x371001 x371002)) else (if x15 = true then (silversidelaw07_FindSides.l0 k x0 x1 x7 x8 x9 x10 (wrap64 (x11 + 1)) x15 (wrap64 (x13 + 1)) x371000 x371001 x371002) else (silversidelaw07_FindSides.l0 k x0 x1 x7 x8 x9 x10 x11 x15 (wrap64 (x13 + 1)) x371000 x371001 x371002))
def silversidelaw07_FindSides.j5 : Nat → ByteArray → ByteArray → List Int → Bool → Option (Bool)
 | 0, _, _, _, _ => none
 | k + 1, x0, x1, x8, x131 => if x131 = true then (some false) else (silversidelaw07_FindSides.l1 k x0 x1 x8 0)
def silversidelaw07_FindSides.l1 : Nat → ByteArray → ByteArray → List Int → Int → Option (Bool)
 | 0, _, _, _, _ => none
 | k + 1, x0, x1, x8, x16 => if x16 < (x8.length : Int) then (if 0 ≤ x16 then (if (rd x8 x16) < 0 then (some false) else (if (wrap64 ((rd x8 x16) + (x1.size : Int))) > (x0.size : Int) then (some false) else (if 0 ≤ (rd x8 x16) then (if (rd x8 x16) ≤ (wrap64 ((rd x8 x16) + (x1.size : Int))) then (if (wrap64 ((rd x8 x16) + (x1.size : Int))) ≤ (x0.size : Int) then (if (x0.extract ((rd x8 x16) : Int).toNat ((wrap64 ((rd x8 x16) + (x1.size : Int))) : Int).toNat).toList = x1.toList then (if x16 > 0 then (if 0 ≤ (wrap64 (x16 - 1)) then (if (wrap64 (x16 - 1)) < (x8.length : Int) then (if (rd x8 (wrap64 (x16 - 1))) ≥ (rd x8 x16) then (some false) else (silversidelaw07_FindSides.l1 k x0 x1 x8 (wrap64 (x16 + 1)))) else (none)) else (none)) else (silversidelaw07_FindSides.l1 k x0 x1 x8 (wrap64 (x16 + 1)))) else (some false)) else (none)) else (none)) else (none)))) else (none)) else ((silversidelaw07_awake.f k).bind fun t391 => (some t391))
end
def silversidelaw07_FindSides.f (k : Nat) (a0 : ByteArray) (a1 : ByteArray) : Option (Bool) := if 0 ≤ (mn (a0.size : Int) 500) then (if (mn (a0.size : Int) 500) ≤ (a0.size : Int) then ((find_New.f k (a0.extract 0 ((mn (a0.size : Int) 500) : Int).toNat)).bind fun bt362 => ((find_Index_Order.f bt362.1 bt362.2.1 bt362.2.2.1).bind fun t371 => ((find_Index_Find.f bt362.1 bt362.2.1 bt362.2.2.1 a1).bind fun t374 => (if bt362.2.2.2 = 0 then (silversidelaw07_FindSides.j0 k (a0.extract 0 ((mn (a0.size : Int) 500) : Int).toNat) a1 t371 t374 ((t371.length : Int) != ((a0.extract 0 ((mn (a0.size : Int) 500) : Int).toNat).size : Int)) bt362.1 bt362.2.1 bt362.2.2.1) else (silversidelaw07_FindSides.j0 k (a0.extract 0 ((mn (a0.size : Int) 500) : Int).toNat) a1 t371 t374 true bt362.1 bt362.2.1 bt362.2.2.1))))) else (none)) else (none)
theorem silversidelaw07_FindSides.mono_l : ∀ k, (∀ y0 y1 y2 y3 y4 y5 y6 y7, LeO (silversidelaw07_FindSides.j0 k y0 y1 y2 y3 y4 y5 y6 y7) (silversidelaw07_FindSides.j0 (k + 1) y0 y1 y2 y3 y4 y5 y6 y7)) ∧ (∀ y0 y1 y2 y3 y4 y5 y6 y7 y8 y9 y10 y11, LeO (silversidelaw07_FindSides.l0 k y0 y1 y2 y3 y4 y5 y6 y7 y8 y9 y10 y11) (silversidelaw07_FindSides.l0 (k + 1) y0 y1 y2 y3 y4 y5 y6 y7 y8 y9 y10 y11)) ∧ (∀ y0 y1 y2 y3 y4 y5 y6 y7 y8 y9 y10 y11 y12 y13, LeO (silversidelaw07_FindSides.j2 k y0 y1 y2 y3 y4 y5 y6 y7 y8 y9 y10 y11 y12 y13) (silversidelaw07_FindSides.j2 (k + 1) y0 y1 y2 y3 y4 y5 y6 y7 y8 y9 y10 y11 y12 y13)) ∧ (∀ y0 y1 y2 y3 y4 y5 y6 y7 y8 y9 y10 y11 y12, LeO (silversidelaw07_FindSides.j3 k y0 y1 y2 y3 y4 y5 y6 y7 y8 y9 y10 y11 y12) (silversidelaw07_FindSides.j3 (k + 1) y0 y1 y2 y3 y4 y5 y6 y7 y8 y9 y10 y11 y12)) ∧ (∀ y0 y1 y2 y3 y4 y5 y6 y7 y8 y9 y10 y11 y12, LeO (silversidelaw07_FindSides.j4 k y0 y1 y2 y3 y4 y5 y6 y7 y8 y9 y10 y11 y12) (silversidelaw07_FindSides.j4 (k + 1) y0 y1 y2 y3 y4 y5 y6 y7 y8 y9 y10 y11 y12)) ∧ (∀ y0 y1 y2 y3, LeO (silversidelaw07_FindSides.j5 k y0 y1 y2 y3) (silversidelaw07_FindSides.j5 (k + 1) y0 y1 y2 y3)) ∧ (∀ y0 y1 y2 y3, LeO (silversidelaw07_FindSides.l1 k y0 y1 y2 y3) (silversidelaw07_FindSides.l1 (k + 1) y0 y1 y2 y3))
 | 0 => ⟨fun _ _ _ _ _ _ _ _ r h => by simp [silversidelaw07_FindSides.j0] at h, fun _ _ _ _ _ _ _ _ _ _ _ _ r h => by simp [silversidelaw07_FindSides.l0] at h, fun _ _ _ _ _ _ _ _ _ _ _ _ _ _ r h => by simp [silversidelaw07_FindSides.j2] at h, fun _ _ _ _ _ _ _ _ _ _ _ _ _ r h => by simp [silversidelaw07_FindSides.j3] at h, fun _ _ _ _ _ _ _ _ _ _ _ _ _ r h => by simp [silversidelaw07_FindSides.j4] at h, fun _ _ _ _ r h => by simp [silversidelaw07_FindSides.j5] at h, fun _ _ _ _ r h => by simp [silversidelaw07_FindSides.l1] at h⟩
 | k + 1 => by
  obtain ⟨ih0, ih1, ih2, ih3, ih4, ih5, ih6⟩ := silversidelaw07_FindSides.mono_l k
  refine ⟨?_, ?_, ?_, ?_, ?_, ?_, ?_⟩
  ·intro y0 y1 y2 y3 y4 y5 y6 y7
   unfold silversidelaw07_FindSides.j0
   repeat' first
   | (with_reducible exact ih0 _ _ _ _ _ _ _ _)
   | (with_reducible exact ih1 _ _ _ _ _ _ _ _ _ _ _ _)
   | (with_reducible exact ih2 _ _ _ _ _ _ _ _ _ _ _ _ _ _)
   | (with_reducible exact ih3 _ _ _ _ _ _ _ _ _ _ _ _ _)
   | (with_reducible exact ih4 _ _ _ _ _ _ _ _ _ _ _ _ _)
   | (with_reducible exact ih5 _ _ _ _)
   | (with_reducible exact ih6 _ _ _ _)
   | (with_reducible exact find_New.mono _ _)
   | (with_reducible exact silversidelaw07_awake.mono _)
   | (with_reducible exact LeO.refl _)
   | (with_reducible exact LeO.none _)
   | (with_reducible refine LeO.ite ?_ ?_)
   | (with_reducible refine LeO.bind ?_ (fun _ => ?_))
   | exact ih0 _ _ _ _ _ _ _ _
   | exact ih1 _ _ _ _ _ _ _ _ _ _ _ _
   | exact ih2 _ _ _ _ _ _ _ _ _ _ _ _ _ _
   | exact ih3 _ _ _ _ _ _ _ _ _ _ _ _ _
   | exact ih4 _ _ _ _ _ _ _ _ _ _ _ _ _
   | exact ih5 _ _ _ _
   | exact ih6 _ _ _ _
   | exact find_New.mono _ _
   | exact silversidelaw07_awake.mono _
   | exact LeO.none _
   | refine LeO.ite ?_ ?_
   | refine LeO.bind ?_ (fun _ => ?_)
  ·intro y0 y1 y2 y3 y4 y5 y6 y7 y8 y9 y10 y11
   unfold silversidelaw07_FindSides.l0
   repeat' first
   | (with_reducible exact ih0 _ _ _ _ _ _ _ _)
   | (with_reducible exact ih1 _ _ _ _ _ _ _ _ _ _ _ _)
   | (with_reducible exact ih2 _ _ _ _ _ _ _ _ _ _ _ _ _ _)
   | (with_reducible exact ih3 _ _ _ _ _ _ _ _ _ _ _ _ _)
   | (with_reducible exact ih4 _ _ _ _ _ _ _ _ _ _ _ _ _)
   | (with_reducible exact ih5 _ _ _ _)
   | (with_reducible exact ih6 _ _ _ _)
   | (with_reducible exact find_New.mono _ _)
   | (with_reducible exact silversidelaw07_awake.mono _)
   | (with_reducible exact LeO.refl _)
   | (with_reducible exact LeO.none _)
   | (with_reducible refine LeO.ite ?_ ?_)
   | (with_reducible refine LeO.bind ?_ (fun _ => ?_))
   | exact ih0 _ _ _ _ _ _ _ _
   | exact ih1 _ _ _ _ _ _ _ _ _ _ _ _
   | exact ih2 _ _ _ _ _ _ _ _ _ _ _ _ _ _
   | exact ih3 _ _ _ _ _ _ _ _ _ _ _ _ _
   | exact ih4 _ _ _ _ _ _ _ _ _ _ _ _ _
   | exact ih5 _ _ _ _
   | exact ih6 _ _ _ _
   | exact find_New.mono _ _
   | exact silversidelaw07_awake.mono _
   | exact LeO.none _
   | refine LeO.ite ?_ ?_
   | refine LeO.bind ?_ (fun _ => ?_)
  ·intro y0 y1 y2 y3 y4 y5 y6 y7 y8 y9 y10 y11 y12 y13
   unfold silversidelaw07_FindSides.j2
   repeat' first
   | (with_reducible exact ih0 _ _ _ _ _ _ _ _)
   | (with_reducible exact ih1 _ _ _ _ _ _ _ _ _ _ _ _)
   | (with_reducible exact ih2 _ _ _ _ _ _ _ _ _ _ _ _ _ _)
   | (with_reducible exact ih3 _ _ _ _ _ _ _ _ _ _ _ _ _)
   | (with_reducible exact ih4 _ _ _ _ _ _ _ _ _ _ _ _ _)
   | (with_reducible exact ih5 _ _ _ _)
   | (with_reducible exact ih6 _ _ _ _)
   | (with_reducible exact find_New.mono _ _)
   | (with_reducible exact silversidelaw07_awake.mono _)
   | (with_reducible exact LeO.refl _)
   | (with_reducible exact LeO.none _)
   | (with_reducible refine LeO.ite ?_ ?_)
   | (with_reducible refine LeO.bind ?_ (fun _ => ?_))
   | exact ih0 _ _ _ _ _ _ _ _
   | exact ih1 _ _ _ _ _ _ _ _ _ _ _ _
   | exact ih2 _ _ _ _ _ _ _ _ _ _ _ _ _ _
   | exact ih3 _ _ _ _ _ _ _ _ _ _ _ _ _
   | exact ih4 _ _ _ _ _ _ _ _ _ _ _ _ _
   | exact ih5 _ _ _ _
   | exact ih6 _ _ _ _
   | exact find_New.mono _ _
   | exact silversidelaw07_awake.mono _
   | exact LeO.none _
   | refine LeO.ite ?_ ?_
   | refine LeO.bind ?_ (fun _ => ?_)
  ·intro y0 y1 y2 y3 y4 y5 y6 y7 y8 y9 y10 y11 y12
   unfold silversidelaw07_FindSides.j3
   repeat' first
   | (with_reducible exact ih0 _ _ _ _ _ _ _ _)
   | (with_reducible exact ih1 _ _ _ _ _ _ _ _ _ _ _ _)
   | (with_reducible exact ih2 _ _ _ _ _ _ _ _ _ _ _ _ _ _)
   | (with_reducible exact ih3 _ _ _ _ _ _ _ _ _ _ _ _ _)
   | (with_reducible exact ih4 _ _ _ _ _ _ _ _ _ _ _ _ _)
   | (with_reducible exact ih5 _ _ _ _)
   | (with_reducible exact ih6 _ _ _ _)
   | (with_reducible exact find_New.mono _ _)
   | (with_reducible exact silversidelaw07_awake.mono _)
   | (with_reducible exact LeO.refl _)
   | (with_reducible exact LeO.none _)
   | (with_reducible refine LeO.ite ?_ ?_)
   | (with_reducible refine LeO.bind ?_ (fun _ => ?_))
   | exact ih0 _ _ _ _ _ _ _ _
   | exact ih1 _ _ _ _ _ _ _ _ _ _ _ _
   | exact ih2 _ _ _ _ _ _ _ _ _ _ _ _ _ _
   | exact ih3 _ _ _ _ _ _ _ _ _ _ _ _ _
   | exact ih4 _ _ _ _ _ _ _ _ _ _ _ _ _
   | exact ih5 _ _ _ _
   | exact ih6 _ _ _ _
   | exact find_New.mono _ _
   | exact silversidelaw07_awake.mono _
   | exact LeO.none _
   | refine LeO.ite ?_ ?_
   | refine LeO.bind ?_ (fun _ => ?_)
  ·intro y0 y1 y2 y3 y4 y5 y6 y7 y8 y9 y10 y11 y12
   unfold silversidelaw07_FindSides.j4
   repeat' first
   | (with_reducible exact ih0 _ _ _ _ _ _ _ _)
   | (with_reducible exact ih1 _ _ _ _ _ _ _ _ _ _ _ _)
   | (with_reducible exact ih2 _ _ _ _ _ _ _ _ _ _ _ _ _ _)
   | (with_reducible exact ih3 _ _ _ _ _ _ _ _ _ _ _ _ _)
   | (with_reducible exact ih4 _ _ _ _ _ _ _ _ _ _ _ _ _)
   | (with_reducible exact ih5 _ _ _ _)
   | (with_reducible exact ih6 _ _ _ _)
   | (with_reducible exact find_New.mono _ _)
   | (with_reducible exact silversidelaw07_awake.mono _)
   | (with_reducible exact LeO.refl _)
   | (with_reducible exact LeO.none _)
   | (with_reducible refine LeO.ite ?_ ?_)
   | (with_reducible refine LeO.bind ?_ (fun _ => ?_))
   | exact ih0 _ _ _ _ _ _ _ _
   | exact ih1 _ _ _ _ _ _ _ _ _ _ _ _
   | exact ih2 _ _ _ _ _ _ _ _ _ _ _ _ _ _
   | exact ih3 _ _ _ _ _ _ _ _ _ _ _ _ _
   | exact ih4 _ _ _ _ _ _ _ _ _ _ _ _ _
   | exact ih5 _ _ _ _
   | exact ih6 _ _ _ _
   | exact find_New.mono _ _
   | exact silversidelaw07_awake.mono _
   | exact LeO.none _
   | refine LeO.ite ?_ ?_
   | refine LeO.bind ?_ (fun _ => ?_)
  ·intro y0 y1 y2 y3
   unfold silversidelaw07_FindSides.j5
   repeat' first
   | (with_reducible exact ih0 _ _ _ _ _ _ _ _)
   | (with_reducible exact ih1 _ _ _ _ _ _ _ _ _ _ _ _)
   | (with_reducible exact ih2 _ _ _ _ _ _ _ _ _ _ _ _ _ _)
   | (with_reducible exact ih3 _ _ _ _ _ _ _ _ _ _ _ _ _)
   | (with_reducible exact ih4 _ _ _ _ _ _ _ _ _ _ _ _ _)
   | (with_reducible exact ih5 _ _ _ _)
   | (with_reducible exact ih6 _ _ _ _)
   | (with_reducible exact find_New.mono _ _)
   | (with_reducible exact silversidelaw07_awake.mono _)
   | (with_reducible exact LeO.refl _)
   | (with_reducible exact LeO.none _)
   | (with_reducible refine LeO.ite ?_ ?_)
   | (with_reducible refine LeO.bind ?_ (fun _ => ?_))
   | exact ih0 _ _ _ _ _ _ _ _
   | exact ih1 _ _ _ _ _ _ _ _ _ _ _ _
   | exact ih2 _ _ _ _ _ _ _ _ _ _ _ _ _ _
   | exact ih3 _ _ _ _ _ _ _ _ _ _ _ _ _
   | exact ih4 _ _ _ _ _ _ _ _ _ _ _ _ _
   | exact ih5 _ _ _ _
   | exact ih6 _ _ _ _
   | exact find_New.mono _ _
   | exact silversidelaw07_awake.mono _
   | exact LeO.none _
   | refine LeO.ite ?_ ?_
   | refine LeO.bind ?_ (fun _ => ?_)
  ·intro y0 y1 y2 y3
   unfold silversidelaw07_FindSides.l1
   repeat' first
   | (with_reducible exact ih0 _ _ _ _ _ _ _ _)
   | (with_reducible exact ih1 _ _ _ _ _ _ _ _ _ _ _ _)
   | (with_reducible exact ih2 _ _ _ _ _ _ _ _ _ _ _ _ _ _)
   | (with_reducible exact ih3 _ _ _ _ _ _ _ _ _ _ _ _ _)
   | (with_reducible exact ih4 _ _ _ _ _ _ _ _ _ _ _ _ _)
   | (with_reducible exact ih5 _ _ _ _)
   | (with_reducible exact ih6 _ _ _ _)
   | (with_reducible exact find_New.mono _ _)
   | (with_reducible exact silversidelaw07_awake.mono _)
   | (with_reducible exact LeO.refl _)
   | (with_reducible exact LeO.none _)
   | (with_reducible refine LeO.ite ?_ ?_)
   | (with_reducible refine LeO.bind ?_ (fun _ => ?_))
   | exact ih0 _ _ _ _ _ _ _ _
   | exact ih1 _ _ _ _ _ _ _ _ _ _ _ _
   | exact ih2 _ _ _ _ _ _ _ _ _ _ _ _ _ _
   | exact ih3 _ _ _ _ _ _ _ _ _ _ _ _ _
   | exact ih4 _ _ _ _ _ _ _ _ _ _ _ _ _
   | exact ih5 _ _ _ _
   | exact ih6 _ _ _ _
   | exact find_New.mono _ _
   | exact silversidelaw07_awake.mono _
   | exact LeO.none _
   | refine LeO.ite ?_ ?_
   | refine LeO.bind ?_ (fun _ => ?_)
theorem silversidelaw07_FindSides.mono : ∀ a0 a1 k, LeO (silversidelaw07_FindSides.f k a0 a1) (silversidelaw07_FindSides.f (k + 1) a0 a1) := by
 intro a0 a1 k
 obtain ⟨ih0, ih1, ih2, ih3, ih4, ih5, ih6⟩ := silversidelaw07_FindSides.mono_l k
 unfold silversidelaw07_FindSides.f
 repeat' first
   | (with_reducible exact ih0 _ _ _ _ _ _ _ _)
   | (with_reducible exact ih1 _ _ _ _ _ _ _ _ _ _ _ _)
   | (with_reducible exact ih2 _ _ _ _ _ _ _ _ _ _ _ _ _ _)
   | (with_reducible exact ih3 _ _ _ _ _ _ _ _ _ _ _ _ _)
   | (with_reducible exact ih4 _ _ _ _ _ _ _ _ _ _ _ _ _)
   | (with_reducible exact ih5 _ _ _ _)
   | (with_reducible exact ih6 _ _ _ _)
   | (with_reducible exact find_New.mono _ _)
   | (with_reducible exact silversidelaw07_awake.mono _)
   | (with_reducible exact LeO.refl _)
   | (with_reducible exact LeO.none _)
   | (with_reducible refine LeO.ite ?_ ?_)
   | (with_reducible refine LeO.bind ?_ (fun _ => ?_))
   | exact ih0 _ _ _ _ _ _ _ _
   | exact ih1 _ _ _ _ _ _ _ _ _ _ _ _
   | exact ih2 _ _ _ _ _ _ _ _ _ _ _ _ _ _
   | exact ih3 _ _ _ _ _ _ _ _ _ _ _ _ _
   | exact ih4 _ _ _ _ _ _ _ _ _ _ _ _ _
   | exact ih5 _ _ _ _
   | exact ih6 _ _ _ _
   | exact find_New.mono _ _
   | exact silversidelaw07_awake.mono _
   | exact LeO.none _
   | refine LeO.ite ?_ ?_
   | refine LeO.bind ?_ (fun _ => ?_)
def silversidelaw07_FindSides.T12 : Bool × List (List Nat × List Nat) := (true, [([], []), ([0], [0]), ([1], [1]), ([2], [2]), ([2], [2]), ([4, 2], [2, 4]), ([3, 5, 2], [2, 3, 5]), ([2, 6], [2, 6]), ([7, 2], [7]), ([8], [8]), ([8], [8]), ([9, 10, 8], [8, 9, 10]), ([11, 8], [8, 11]), ([8, 12], [8, 12]), ([13, 8], [13]), ([14], [14]), ([15, 14], [14, 15]), ([16, 14, 14], [14, 16]), ([17], [17]), ([17], [17]), ([17], [17]), ([20, 17], [17, 20]), ([19, 21, 17], [17, 19, 21]), ([22, 17], [17, 22]), ([18, 23, 17], [17, 18, 23]), ([17], [17]), ([17], [17]), ([25, 26, 17], [17, 25, 26]), ([24, 27, 17], [17, 24, 27]), ([17, 28, 14], [14, 17, 28]), ([14, 29], [14, 29])])
def silversidelaw07_FindSides.B12 : List Nat := [0, 1, 3, 7, 7, 23, 63, 127, 255, 511, 511, 2047, 4095, 8191, 16383, 32767, 65535, 131071, 262143, 262143, 262143, 1310719, 3932159, 8126463, 16777215, 262143, 262143, 100925439, 268435455, 536870911, 1073741823]
theorem silversidelaw07_FindSides.tab12 : rtab .any (opsOf Try.f12 12) = silversidelaw07_FindSides.T12 := by kernel_rfl
theorem silversidelaw07_FindSides.bits12 : waitsOk silversidelaw07_FindSides.T12.2 silversidelaw07_FindSides.B12 = true := by kernel_rfl
def silversidelaw07_FindSides.T26 : Bool × List (List Nat × List Nat) := (true, [([], []), ([], []), ([0, 1], [0, 1]), ([2], [2]), ([3], [3]), ([4], [4]), ([5], [5]), ([5], [5]), ([6, 7, 5], [5, 6, 7]), ([8, 5], [5, 8]), ([5], [5]), ([10, 5], [5, 10]), ([9, 11, 5], [5, 9, 11]), ([5], [5]), ([13, 5], [5, 13]), ([12, 14, 5], [5, 12, 14]), ([5, 15], [5, 15]), ([16, 5], [16]), ([17], [17]), ([17], [17]), ([17], [17]), ([19, 20, 17], [17, 19, 20]), ([21, 17], [17, 21]), ([17], [17]), ([17], [17]), ([23, 24, 17], [17, 23, 24]), ([25, 17], [17, 25]), ([17], [17]), ([27, 17], [17, 27]), ([26, 28, 17], [17, 26, 28]), ([18, 22, 29, 17], [17, 18, 22, 29]), ([17], [17]), ([30, 31, 17], [17, 30, 31]), ([17, 32], [17, 32]), ([33, 17], [33]), ([34], [34]), ([35, 34], [34, 35]), ([36, 34, 34], [34, 36]), ([37], [37]), ([37], [37]), ([39, 37], [37, 39]), ([38, 40, 37], [37, 38, 40]), ([41, 37], [37, 41]), ([37], [37]), ([37], [37]), ([43, 44, 37], [37, 43, 44]), ([45, 37], [37, 45]), ([42, 46, 37], [37, 42, 46]), ([37, 47, 34], [34, 37, 47]), ([34, 48], [34, 48])])
def silversidelaw07_FindSides.B26 : List Nat := [0, 0, 3, 7, 15, 31, 63, 63, 255, 511, 63, 1087, 4095, 63, 8255, 32767, 65535, 131071, 262143, 262143, 262143, 1835007, 3932159, 262143, 262143, 25427967, 58982399, 262143, 134479871, 528744447, 1073741823, 262143, 4294967295, 8589934591, 17179869183, 34359738367, 68719476735, 137438953471, 274877906943, 274877906943, 824633720831, 2199023255551, 4398046511103, 274877906943, 274877906943, 26663156973567, 61847529062399, 140737488355327, 281474976710655, 562949953421311]
theorem silversidelaw07_FindSides.tab26 : rtab .any (opsOf Try.f12 26) = silversidelaw07_FindSides.T26 := by kernel_rfl
theorem silversidelaw07_FindSides.bits26 : waitsOk silversidelaw07_FindSides.T26.2 silversidelaw07_FindSides.B26 = true := by kernel_rfl
set_option maxHeartbeats 8000000 in
set_option maxRecDepth 100000 in
theorem silversidelaw07_FindSides.calls (k : Nat) (a0 : ByteArray) (a1 : ByteArray) (r : Bool) (hr_ : Aside0 (r = true)) (w : World) (h : silversidelaw07_FindSides.f k a0 a1 = some r) :
  Calls Try.prog 12 #[.string a0, .string a1] w fun e w' => e = .returned (.bool r) ∧ Below w.heap.size w w' := by
 have hu24 := Try.underlying24
 have HB := Aside0.mk (Below.refl w.heap.size w)
 have H : (if 0 ≤ (mn (a0.size : Int) 500) then (if (mn (a0.size : Int) 500) ≤ (a0.size : Int) then ((find_New.f k (a0.extract 0 ((mn (a0.size : Int) 500) : Int).toNat)).bind fun bt362 => ((find_Index_Order.f bt362.1 bt362.2.1 bt362.2.2.1).bind fun t371 => ((find_Index_Find.f bt362.1 bt362.2.1 bt362.2.2.1 a1).bind fun t374 => (if bt362.2.2.2 = 0 then (silversidelaw07_FindSides.j0 k (a0.extract 0 ((mn (a0.size : Int) 500) : Int).toNat) a1 t371 t374 ((t371.length : Int) != ((a0.extract 0 ((mn (a0.size : Int) 500) : Int).toNat).size : Int)) bt362.1 bt362.2.1 bt362.2.2.1) else (silversidelaw07_FindSides.j0 k (a0.extract 0 ((mn (a0.size : Int) 500) : Int).toNat) a1 t371 t374 true bt362.1 bt362.2.1 bt362.2.2.1))))) else (none)) else (none)) = some r := h
 clear h
 obtain ⟨ji3, hji3⟩ : ∃ j_ : Int, (mn (a0.size : Int) 500) = j_ := ⟨_, rfl⟩
 replace H : (if 0 ≤ (ji3) then (if (ji3) ≤ (a0.size : Int) then ((find_New.f k (a0.extract 0 ((ji3) : Int).toNat)).bind fun bt362 => ((find_Index_Order.f bt362.1 bt362.2.1 bt362.2.2.1).bind fun t371 => ((find_Index_Find.f bt362.1 bt362.2.1 bt362.2.2.1 a1).bind fun t374 => (if bt362.2.2.2 = 0 then (silversidelaw07_FindSides.j0 k (a0.extract 0 ((ji3) : Int).toNat) a1 t371 t374 ((t371.length : Int) != ((a0.extract 0 ((ji3) : Int).toNat).size : Int)) bt362.1 bt362.2.1 bt362.2.2.1) else (silversidelaw07_FindSides.j0 k (a0.extract 0 ((ji3) : Int).toNat) a1 t371 t374 true bt362.1 bt362.2.1 bt362.2.2.1))))) else (none)) else (none)) = some r := by first | (rw [hji3] at H; exact H) | (simp only [hji3] at H ⊢; exact H)
 (try (have hji3h : ji3 ≤ 500 := by (rw [← hji3]; unfold mn; (repeat' split) <;> omega)))
 (try (have hji3g : ji3 ≤ 64 := by omega))
 (try (have hji3l : 0 ≤ ji3 := by (rw [← hji3]; unfold mn; (repeat' split) <;> omega)))
 (try (have hji3m : 0 ≤ ji3 := by omega))
 have hji3_ : (if 500 < (a0.size : Int) then 500 else (a0.size : Int)) = ji3 := hji3
 by_cases c4 : 0 ≤ (ji3)
 ·rw [if_pos c4] at H
  have c4b0 := eq_true c4
  have c4b1 : decide (0 ≤ (ji3)) = true := decide_eq_true c4
  clear c4
  by_cases c5 : (ji3) ≤ (a0.size : Int)
  ·rw [if_pos c5] at H
   have c5b0 := eq_true c5
   have c5b1 : decide ((ji3) ≤ (a0.size : Int)) = true := decide_eq_true c5
   clear c5
   obtain ⟨sa0_, hsa0_⟩ : ∃ s_ : ByteArray, a0.extract 0 ((ji3) : Int).toNat = s_ := ⟨_, rfl⟩
   rw [hsa0_] at H
   have hsa0_z : (a0.extract 0 ((ji3) : Int).toNat).size = min ((ji3) : Int).toNat a0.size - 0 := ByteArray.size_extract
   rw [hsa0_] at hsa0_z
   replace hsa0_z : sa0_.size ≤ 4096 := by omega
   replace H := Option.bind_eq_some_iff.mp H
   obtain ⟨⟨t362, t363, t366, t369⟩, A60, H⟩ := H
   replace H : ((find_Index_Order.f t362 t363 t366).bind fun t371 => ((find_Index_Find.f t362 t363 t366 a1).bind fun t374 => (if t369 = 0 then (silversidelaw07_FindSides.j0 k sa0_ a1 t371 t374 ((t371.length : Int) != (sa0_.size : Int)) t362 t363 t366) else (silversidelaw07_FindSides.j0 k sa0_ a1 t371 t374 true t362 t363 t366)))) = some r := H
   have A6 := Aside0.mk A60
   clear A60
   replace H := Option.bind_eq_some_iff.mp H
   obtain ⟨t371, A70, H⟩ := H
   replace H : ((find_Index_Find.f t362 t363 t366 a1).bind fun t374 => (if t369 = 0 then (silversidelaw07_FindSides.j0 k sa0_ a1 t371 t374 ((t371.length : Int) != (sa0_.size : Int)) t362 t363 t366) else (silversidelaw07_FindSides.j0 k sa0_ a1 t371 t374 true t362 t363 t366))) = some r := H
   have A7 := Aside0.mk A70
   clear A70
   replace H := Option.bind_eq_some_iff.mp H
   obtain ⟨t374, A80, H⟩ := H
   replace H : (if t369 = 0 then (silversidelaw07_FindSides.j0 k sa0_ a1 t371 t374 ((t371.length : Int) != (sa0_.size : Int)) t362 t363 t366) else (silversidelaw07_FindSides.j0 k sa0_ a1 t371 t374 true t362 t363 t366)) = some r := H
   have A8 := Aside0.mk A80
   clear A80
   have HC9 := Aside0.mk H
   clear H
   go_enter Try.func12, Try.ntmps12
   try go_wp2_with (first | ((with_reducible refine gate_callee (f := 16) rfl ?_); refine goesL_ (some 24) rfl rfl Try.func16 (by kernel_rfl) rfl #[.string sa0_] rfl (by (try simp only [List.map_toArray, List.map_cons, List.map_nil]); first | done | (simp only [hji3]; rfl) | rfl | (simp only [List.length_drop, List.length_take]; rfl)) ?_; (with_reducible refine (find_New.calls k sa0_ t362 t363 t366 t369 _ A6.out).mono ?_); rintro e w10 ⟨v364, v367, rfl, ho0, ho1, hb⟩; refine ⟨_, rfl, ?_⟩; have n0_ := Aside0.mk (Kd.R_lower ho0 (below_size (by repeat (first | (with_reducible first | exact HB.out | apply lA | apply lN | apply lD) | exact HB.out)))); have n1_ := Aside0.mk (Kd.R_lower ho1 (below_size (by repeat (first | (with_reducible first | exact HB.out | apply lA | apply lN | apply lD) | exact HB.out)))); have n2_ := Aside0.mk (below_step (by repeat (first | (with_reducible first | exact HB.out | apply lA | apply lN | apply lD) | exact HB.out)) hb); clear HB; have HO365 := n0_; have HO368 := n1_; have HB := n2_; clear n0_ n1_ n2_; (try clear hb); (try clear hb2); (try clear hk); (try clear hi); (try clear ho0); (try clear ho1)) | ((with_reducible refine gate_dst (N := 5) rfl ?_); (try (refine gate_guard (by rfl) ?_; dsimp only)); refine box_event ?hg (N := 5) ?hd (cs := #[.string (⟨#[]⟩ : ByteArray), .slice none 0 0, .slice none 0 0]) (t := 24) ?hr ?_; (case hd => rfl); (case hg => rfl); (case hr => first | (go_simp; done) | (go_simp; rfl)); intro gb370 hg w11 hbox hb; have n0_ := Aside0.mk (Kd.R_below (by (with_reducible repeat (first | apply Kd.R_alloc | apply Kd.R_drewN | apply Kd.R_drew)); exact HO365.out) hb); have n1_ := Aside0.mk (Kd.R_below (by (with_reducible repeat (first | apply Kd.R_alloc | apply Kd.R_drewN | apply Kd.R_drew)); exact HO368.out) hb); have n2_ := Aside0.mk (below_step (by repeat (first | (with_reducible first | exact HB.out | apply lA | apply lN | apply lD) | exact HB.out)) hb); have n3_ := Aside0.mk (hbox); have n4_ := Aside0.mk ((by rw [hg]; exact (below_size (by repeat (first | (with_reducible first | exact HB.out | apply lA | apply lN | apply lD) | exact HB.out))) : w.heap.size ≤ gb370)); have n5_ := Aside0.mk ((by rw [hg]; exact (below_size (by repeat (first | (with_reducible first | exact HB.out | apply lA | apply lN | apply lD) | exact HB.out))) : w.heap.size ≤ gb370)); clear HO365; clear HO368; clear HB; have HO365 := n0_; have HO368 := n1_; have HB := n2_; have BK370 := n3_; have GW370 := n4_; have GE370 := n5_; clear n0_ n1_ n2_ n3_ n4_ n5_; clear hb hbox hg; have hcz12_0 : w11.cell? ⟨gb370, 0, none⟩ = some (.string (⟨#[]⟩ : ByteArray)) := (blk_cell BK370.out 0).trans rfl; have hcz12_1 : w11.cell? ⟨gb370, 1, none⟩ = some (.slice none 0 0) := (blk_cell BK370.out 1).trans rfl; have hcz12_2 : w11.cell? ⟨gb370, 2, none⟩ = some (.slice none 0 0) := (blk_cell BK370.out 2).trans rfl; have hfz12_0 := blk_frozen BK370.out 0; have hfz12_1 := blk_frozen BK370.out 1; have hfz12_2 := blk_frozen BK370.out 2; obtain ⟨Ao13, co13, eo13⟩ := Kd.R_slice HO365.out; subst eo13; obtain ⟨Ao14, co14, eo14⟩ := Kd.R_slice HO368.out; subst eo14))
   have n0_ : Aside0 (Kd.R (Kd.int .i64) 3 (((w11.setCell ⟨gb370, 0, none⟩ (.string t362)).setCell ⟨gb370, 1, none⟩ (.slice Ao13 t363.length co13)).setCell ⟨gb370, 2, none⟩ (.slice Ao14 t366.length co14)) w.heap.size (fun k_ => some k_ ≠ (.slice Ao14 t366.length co14 : Value).ownBlock) (.slice Ao13 t363.length co13) t363) := ⟨by (with_reducible repeat (first | apply Kd.R_alloc | apply Kd.R_drewN | apply Kd.R_drew)); exact Kd.R_mono (Kd.R_far (p := ⟨gb370, 2, none⟩) (Kd.R_far (p := ⟨gb370, 1, none⟩) (Kd.R_far (p := ⟨gb370, 0, none⟩) (Kd.R_types HO365.out BK370.out (by decide)) (fun _ hk => hk.2) (.string t362)) (fun _ hk => hk.2) (.slice Ao13 t363.length co13)) (fun _ hk => hk.2) (.slice Ao14 t366.length co14)) (fun _ hk => hk.1)⟩
   have n1_ : Aside0 (Kd.R (Kd.int .i64) 3 (((w11.setCell ⟨gb370, 0, none⟩ (.string t362)).setCell ⟨gb370, 1, none⟩ (.slice Ao13 t363.length co13)).setCell ⟨gb370, 2, none⟩ (.slice Ao14 t366.length co14)) w.heap.size (fun k_ => some k_ ≠ (.slice Ao13 t363.length co13 : Value).ownBlock) (.slice Ao14 t366.length co14) t366) := ⟨by (with_reducible repeat (first | apply Kd.R_alloc | apply Kd.R_drewN | apply Kd.R_drew)); exact Kd.R_mono (Kd.R_far (p := ⟨gb370, 2, none⟩) (Kd.R_far (p := ⟨gb370, 1, none⟩) (Kd.R_far (p := ⟨gb370, 0, none⟩) (Kd.R_types HO368.out BK370.out (by decide)) (fun _ hk => hk.2) (.string t362)) (fun _ hk => hk.2) (.slice Ao13 t363.length co13)) (fun _ hk => hk.2) (.slice Ao14 t366.length co14)) (fun _ hk => hk.1)⟩
   have n2_ : Aside0 ((((w11.setCell ⟨gb370, 0, none⟩ (.string t362)).setCell ⟨gb370, 1, none⟩ (.slice Ao13 t363.length co13)).setCell ⟨gb370, 2, none⟩ (.slice Ao14 t366.length co14)).heap[gb370]? = some (.cells #[.string t362, .slice Ao13 t363.length co13, .slice Ao14 t366.length co14] 24 (0, 0))) := ⟨by (with_reducible repeat (first | refine kN ?_ _ | refine kD ?_ | refine kA ?_ _)); refine blk_put (cs := #[.string t362, .slice Ao13 t363.length co13, .slice none 0 0]) ?_ 2 _ rfl; (with_reducible repeat (first | refine kN ?_ _ | refine kD ?_ | refine kA ?_ _)); refine blk_put (cs := #[.string t362, .slice none 0 0, .slice none 0 0]) ?_ 1 _ rfl; (with_reducible repeat (first | refine kN ?_ _ | refine kD ?_ | refine kA ?_ _)); refine blk_put (cs := #[.string (⟨#[]⟩ : ByteArray), .slice none 0 0, .slice none 0 0]) ?_ 0 _ rfl; (with_reducible repeat (first | refine kN ?_ _ | refine kD ?_ | refine kA ?_ _)); exact BK370.out⟩
   have n3_ : Aside0 (Below w.heap.size w (((w11.setCell ⟨gb370, 0, none⟩ (.string t362)).setCell ⟨gb370, 1, none⟩ (.slice Ao13 t363.length co13)).setCell ⟨gb370, 2, none⟩ (.slice Ao14 t366.length co14))) := ⟨by repeat (first | (with_reducible first | exact HB.out | apply lA | apply lN | apply lD | refine lS ?_ GE370.out) | exact HB.out)⟩
   (try clear HO365)
   (try clear HO368)
   (try clear BK370)
   (try clear HB)
   generalize (((w11.setCell ⟨gb370, 0, none⟩ (.string t362)).setCell ⟨gb370, 1, none⟩ (.slice Ao13 t363.length co13)).setCell ⟨gb370, 2, none⟩ (.slice Ao14 t366.length co14)) = w15 at n0_ n1_ n2_ n3_ ⊢
   have HO365 := n0_
   have HO368 := n1_
   have BK370 := n2_
   have HB := n3_
   clear n0_ n1_ n2_ n3_
   replace HO365 := Aside0.mk (Kd.R_drew HO365.out)
   replace HO368 := Aside0.mk (Kd.R_drew HO368.out)
   replace BK370 := Aside0.mk (kD BK370.out)
   replace HB := Aside0.mk (lD HB.out)
   refine start_ (n := 7) (S := fun w' => w'.cell? ⟨gb370, 0, none⟩ = some (.string t362) ∧ w'.cell? ⟨gb370, 1, none⟩ = some (.slice Ao13 t363.length co13) ∧ w'.cell? ⟨gb370, 2, none⟩ = some (.slice Ao14 t366.length co14)) (ds := []) (Bs 0 7) (by kernel_rfl) rfl rfl ⟨(blk_cell BK370.out 0).trans rfl, (blk_cell BK370.out 1).trans rfl, (blk_cell BK370.out 2).trans rfl⟩ (fun hHeld => ?_)
   generalize w15.drew = w16 at HO365 HO368 BK370 HB hHeld ⊢
   refine pure_ (i := 3) (N := some 30) (v := ?_) (a' := ?_) #[φ,φ,φ,τ,φ,φ,φ] rfl rfl (by kernel_rfl) (fun _ _ _ h => h) (Or.inl ⟨by rfl, ?_⟩) ?_ ?_; rotate_left
   ·intro w'; go_simp; with_reducible rfl
   rotate_left
   ·simp only [Act.put, sA, sB, sC, i64_w, i32_w]; rfl
   refine take_ (i := 0) (N := some 27) (v := ?_) (a' := ?_) #[τ,φ,φ,τ,φ,φ,φ] rfl rfl (by kernel_rfl) (fun _ _ _ h => h) (Or.inl ⟨by rfl, ?_⟩) hHeld ?_ ?_; rotate_left
   ·rintro w' ⟨s0, s1, s2⟩; go_simp; with_reducible rfl
   rotate_left
   ·simp only [Act.put, sA, sB, sC, i64_w, i32_w]; rfl
   refine take_ (i := 2) (N := some 29) (v := ?_) (a' := ?_) #[τ,φ,τ,τ,φ,φ,φ] rfl rfl (by kernel_rfl) (fun _ _ _ h => h) (Or.inl ⟨by rfl, ?_⟩) hHeld ?_ ?_; rotate_left
   ·rintro w' ⟨s0, s1, s2⟩; go_simp; with_reducible rfl
   rotate_left
   ·simp only [Act.put, sA, sB, sC, i64_w, i32_w]; rfl
   refine one_ (i := 1) (N := some 28) (Bs 4 7) rfl rfl (by kernel_rfl) (by decide) (fun K hK => ?_)
   refine goes_ Try.func31 (by kernel_rfl) rfl #[.agg #[.string t362, .slice Ao13 t363.length co13, .slice Ao14 t366.length co14]] (by rfl) rfl rfl (by (try simp only [List.map_toArray, List.map_cons, List.map_nil]); first | done | rfl | (simp only [List.length_drop, List.length_take]; rfl)) ?_
   with_reducible refine (find_Index_Order.calls t362 _ _ t363 _ _ t366 t371 _ ?side1 ?side2 ?side3 ?side4 A7.out).mono ?_
   (case side1 => repeat (first | exact (Kd.R_reads' HO365.out).2.2 | (with_reducible refine Kd.C_alloc ?_ _) | (with_reducible refine Kd.C_drewN ?_ _) | (with_reducible refine Kd.C_drew ?_)))
   (case side2 => exact (Kd.R_reads' HO365.out).2.1)
   (case side3 => repeat (first | exact (Kd.R_reads' HO368.out).2.2 | (with_reducible refine Kd.C_alloc ?_ _) | (with_reducible refine Kd.C_drewN ?_ _) | (with_reducible refine Kd.C_drew ?_)))
   (case side4 => exact (Kd.R_reads' HO368.out).2.1)
   rintro e w17 ⟨v372, rfl, ho0, hb⟩
   refine ⟨_, rfl, ?_⟩
   have n0_ := Aside0.mk (Kd.R_elder' (by (with_reducible repeat (first | apply Kd.R_alloc | apply Kd.R_drewN | apply Kd.R_drew)); exact HO365.out) (Kd.R_base ho0) hb)
   have n1_ := Aside0.mk (Kd.R_elder' (by (with_reducible repeat (first | apply Kd.R_alloc | apply Kd.R_drewN | apply Kd.R_drew)); exact HO368.out) (Kd.R_base ho0) hb)
   have n2_ := Aside0.mk (Kd.R_lower (Kd.R_new' (Kd.R_new' ho0 (Kd.R_lt (by (with_reducible repeat (first | apply Kd.R_alloc | apply Kd.R_drewN | apply Kd.R_drew)); exact HO365.out))) (Kd.R_lt (by (with_reducible repeat (first | apply Kd.R_alloc | apply Kd.R_drewN | apply Kd.R_drew)); exact HO368.out))) (below_size (by repeat (first | (with_reducible first | exact HB.out | apply lA | apply lN | apply lD | refine lS ?_ GE370.out) | exact HB.out))))
   have n3_ := Aside0.mk (blk_below (g := gb370) (o := .cells #[.string t362, .slice Ao13 t363.length co13, .slice Ao14 t366.length co14] 24 (0, 0)) (kX BK370.out) hb)
   have n4_ := Aside0.mk (below_step (by repeat (first | (with_reducible first | exact HB.out | apply lA | apply lN | apply lD | refine lS ?_ GE370.out) | exact HB.out)) hb)
   clear HO365
   clear HO368
   clear BK370
   clear HB
   have HO365 := n0_
   have HO368 := n1_
   have HO373 := n2_
   have BK370 := n3_
   have HB := n4_
   clear n0_ n1_ n2_ n3_ n4_
   (try clear hb)
   (try clear hb2)
   (try clear hk)
   (try clear hi)
   (try clear ho0)
   refine hK.out _ _ ⟨(blk_cell BK370.out 0).trans rfl, (blk_cell BK370.out 1).trans rfl, (blk_cell BK370.out 2).trans rfl⟩ (fun hHeld => ?_)
   clear hK K
   refine nm 28 ?_
   refine one_ (i := 4) (N := some 31) (Bs 5 7) rfl rfl (by kernel_rfl) (by decide) (fun K hK => ?_)
   refine goes_ Try.func38 (by kernel_rfl) rfl #[.agg #[.string t362, .slice Ao13 t363.length co13, .slice Ao14 t366.length co14], .string a1] (by rfl) rfl rfl (by (try simp only [List.map_toArray, List.map_cons, List.map_nil]); first | done | rfl | (simp only [List.length_drop, List.length_take]; rfl)) ?_
   with_reducible refine (find_Index_Find.calls t362 _ _ t363 _ _ t366 a1 t374 _ ?side1 ?side2 ?side3 ?side4 A8.out).mono ?_
   (case side1 => repeat (first | exact (Kd.R_reads' HO365.out).2.2 | (with_reducible refine Kd.C_alloc ?_ _) | (with_reducible refine Kd.C_drewN ?_ _) | (with_reducible refine Kd.C_drew ?_)))
   (case side2 => exact (Kd.R_reads' HO365.out).2.1)
   (case side3 => repeat (first | exact (Kd.R_reads' HO368.out).2.2 | (with_reducible refine Kd.C_alloc ?_ _) | (with_reducible refine Kd.C_drewN ?_ _) | (with_reducible refine Kd.C_drew ?_)))
   (case side4 => exact (Kd.R_reads' HO368.out).2.1)
   rintro e w18 ⟨v375, rfl, ho0, hb⟩
   refine ⟨_, rfl, ?_⟩
   have n0_ := Aside0.mk (Kd.R_elder' (by (with_reducible repeat (first | apply Kd.R_alloc | apply Kd.R_drewN | apply Kd.R_drew)); exact HO365.out) (Kd.R_base ho0) hb)
   have n1_ := Aside0.mk (Kd.R_elder' (by (with_reducible repeat (first | apply Kd.R_alloc | apply Kd.R_drewN | apply Kd.R_drew)); exact HO368.out) (Kd.R_base ho0) hb)
   have n2_ := Aside0.mk (Kd.R_elder' (by (with_reducible repeat (first | apply Kd.R_alloc | apply Kd.R_drewN | apply Kd.R_drew)); exact HO373.out) (Kd.R_base ho0) hb)
   have n3_ := Aside0.mk (Kd.R_lower (Kd.R_new' (Kd.R_new' (Kd.R_new' ho0 (Kd.R_lt (by (with_reducible repeat (first | apply Kd.R_alloc | apply Kd.R_drewN | apply Kd.R_drew)); exact HO365.out))) (Kd.R_lt (by (with_reducible repeat (first | apply Kd.R_alloc | apply Kd.R_drewN | apply Kd.R_drew)); exact HO368.out))) (Kd.R_lt (by (with_reducible repeat (first | apply Kd.R_alloc | apply Kd.R_drewN | apply Kd.R_drew)); exact HO373.out))) (below_size (by repeat (first | (with_reducible first | exact HB.out | apply lA | apply lN | apply lD | refine lS ?_ GE370.out) | exact HB.out))))
   have n4_ := Aside0.mk (blk_below (g := gb370) (o := .cells #[.string t362, .slice Ao13 t363.length co13, .slice Ao14 t366.length co14] 24 (0, 0)) (kX BK370.out) hb)
   have n5_ := Aside0.mk (below_step (by repeat (first | (with_reducible first | exact HB.out | apply lA | apply lN | apply lD | refine lS ?_ GE370.out) | exact HB.out)) hb)
   clear HO365
   clear HO368
   clear HO373
   clear BK370
   clear HB
   have HO365 := n0_
   have HO368 := n1_
   have HO373 := n2_
   have HO376 := n3_
   have BK370 := n4_
   have HB := n5_
   clear n0_ n1_ n2_ n3_ n4_ n5_
   (try clear hb)
   (try clear hb2)
   (try clear hk)
   (try clear hi)
   (try clear ho0)
   refine hK.out _ _ ⟨(blk_cell BK370.out 0).trans rfl, (blk_cell BK370.out 1).trans rfl, (blk_cell BK370.out 2).trans rfl⟩ (fun hHeld => ?_)
   clear hK K
   refine nm 31 ?_
   refine pure_ (i := 5) (N := some 7) (v := ?_) (a' := ?_) (Bs 6 7) rfl rfl (by kernel_rfl) (fun _ _ _ h => h) (Or.inl ⟨by rfl, ?_⟩) ?_ ?_; rotate_left
   ·intro w'; go_simp; with_reducible rfl
   rotate_left
   ·simp only [Act.put, sA, sB, sC, i64_w, i32_w]; rfl
   refine pure_ (i := 6) (N := some 8) (v := ?_) (a' := ?_) (Bs 7 7) rfl rfl (by kernel_rfl) (fun _ _ _ h => h) (Or.inl ⟨by rfl, ?_⟩) ?_ ?_; rotate_left
   ·intro w'; go_simp; with_reducible rfl
   rotate_left
   ·simp only [Act.put, sA, sB, sC, i64_w, i32_w]; rfl
   refine done_ (by kernel_rfl) ?_
   go_upto_region 4 with (fail)
   go_cut [40] (fun v40 wc => ∃ (kq : Nat) (x40_8 : Bool), v40 = .bool x40_8 ∧ Aside0 (silversidelaw07_FindSides.j0 kq sa0_ a1 t371 t374 x40_8 t362 t363 t366 = some r) ∧ Aside0 (kq ≤ k) ∧ Aside0 (Kd.R (Kd.int .i64) 3 wc w.heap.size (fun k_ => some k_ ≠ (v375 : Value).ownBlock ∧ some k_ ≠ ((.slice Ao13 t363.length co13) : Value).ownBlock ∧ some k_ ≠ ((.slice Ao14 t366.length co14) : Value).ownBlock) v372 t371) ∧ Aside0 (Kd.R (Kd.int .i64) 3 wc w.heap.size (fun k_ => some k_ ≠ (v372 : Value).ownBlock ∧ some k_ ≠ ((.slice Ao13 t363.length co13) : Value).ownBlock ∧ some k_ ≠ ((.slice Ao14 t366.length co14) : Value).ownBlock) v375 t374) ∧ Aside0 (Kd.R (Kd.int .i64) 3 wc w.heap.size (fun k_ => some k_ ≠ (v372 : Value).ownBlock ∧ some k_ ≠ (v375 : Value).ownBlock ∧ some k_ ≠ ((.slice Ao14 t366.length co14) : Value).ownBlock) (.slice Ao13 t363.length co13) t363) ∧ Aside0 (Kd.R (Kd.int .i64) 3 wc w.heap.size (fun k_ => some k_ ≠ (v372 : Value).ownBlock ∧ some k_ ≠ (v375 : Value).ownBlock ∧ some k_ ≠ ((.slice Ao13 t363.length co13) : Value).ownBlock) (.slice Ao14 t366.length co14) t366) ∧ Aside0 (wc.heap[gb370]? = some (.cells #[.string t362, (.slice Ao13 t363.length co13), (.slice Ao14 t366.length co14)] 24 (0, 0))) ∧ Aside0 (Below w.heap.size w wc))
   case first =>
    have H := HC9.out
    clear HC9
    by_cases c19 : t369 = 0
    ·rw [if_pos c19] at H
     have c19b0 : (t369 == 0) = true := beq_iff_eq.mpr c19
     have c19b1 : (t369 != 0) = false := bne_eq_false_iff_eq.mpr c19
     clear c19
     (first | rw [c19b0] | (simp only [i64_w, i32_w]; rw [c19b0]) | rw [c19b1] | skip)
     have H' := Aside0.mk H
     clear H
     obtain ⟨Ao20, co20, eo20⟩ := Kd.R_slice HO373.out
     subst eo20
     go_wp2
     go_meet
     case rel => exact ⟨_, (((t371.length : Int) != (sa0_.size : Int))), (by first | rfl | (simp; done) | (simp only [← hji3] <;> (first | rfl | simp)) | (simp [*]; done)), H', ⟨by first | omega | exact Nat.le_refl _⟩, ⟨by (with_reducible repeat (first | apply Kd.R_alloc | apply Kd.R_drewN | apply Kd.R_drew)); exact Kd.R_mono HO373.out (fun _ hk => ⟨hk.2, ⟨hk.1.1.2, hk.1.2⟩⟩)⟩, ⟨by (with_reducible repeat (first | apply Kd.R_alloc | apply Kd.R_drewN | apply Kd.R_drew)); exact Kd.R_mono HO376.out (fun _ hk => ⟨hk.2, ⟨hk.1.1.2, hk.1.2⟩⟩)⟩, ⟨by (with_reducible repeat (first | apply Kd.R_alloc | apply Kd.R_drewN | apply Kd.R_drew)); exact Kd.R_mono HO365.out (fun _ hk => ⟨hk.1.2, ⟨hk.2, hk.1.1⟩⟩)⟩, ⟨by (with_reducible repeat (first | apply Kd.R_alloc | apply Kd.R_drewN | apply Kd.R_drew)); exact Kd.R_mono HO368.out (fun _ hk => ⟨hk.1.2, ⟨hk.2, hk.1.1⟩⟩)⟩, ⟨by (with_reducible repeat (first | refine kN ?_ _ | refine kD ?_ | refine kA ?_ _)); exact BK370.out⟩, ⟨by repeat (first | (with_reducible first | exact HB.out | apply lA | apply lN | apply lD | refine lS ?_ GE370.out) | exact HB.out)⟩⟩
    rw [if_neg c19] at H
    have c19b0 : (t369 == 0) = false := beq_eq_false_iff_ne.mpr c19
    have c19b1 : (t369 != 0) = true := bne_iff_ne.mpr c19
    (first | rw [c19b0] | (simp only [i64_w, i32_w]; rw [c19b0]) | rw [c19b1] | skip)
    have H' := Aside0.mk H
    clear H
    go_wp2
    go_meet
    case rel => exact ⟨_, (true), (by first | rfl | (simp; done) | (simp [*]; done)), H', ⟨by first | omega | exact Nat.le_refl _⟩, ⟨by (with_reducible repeat (first | apply Kd.R_alloc | apply Kd.R_drewN | apply Kd.R_drew)); exact Kd.R_mono HO373.out (fun _ hk => ⟨hk.2, ⟨hk.1.1.2, hk.1.2⟩⟩)⟩, ⟨by (with_reducible repeat (first | apply Kd.R_alloc | apply Kd.R_drewN | apply Kd.R_drew)); exact Kd.R_mono HO376.out (fun _ hk => ⟨hk.2, ⟨hk.1.1.2, hk.1.2⟩⟩)⟩, ⟨by (with_reducible repeat (first | apply Kd.R_alloc | apply Kd.R_drewN | apply Kd.R_drew)); exact Kd.R_mono HO365.out (fun _ hk => ⟨hk.1.2, ⟨hk.2, hk.1.1⟩⟩)⟩, ⟨by (with_reducible repeat (first | apply Kd.R_alloc | apply Kd.R_drewN | apply Kd.R_drew)); exact Kd.R_mono HO368.out (fun _ hk => ⟨hk.1.2, ⟨hk.2, hk.1.1⟩⟩)⟩, ⟨by (with_reducible repeat (first | refine kN ?_ _ | refine kD ?_ | refine kA ?_ _)); exact BK370.out⟩, ⟨by repeat (first | (with_reducible first | exact HB.out | apply lA | apply lN | apply lD | refine lS ?_ GE370.out) | exact HB.out)⟩⟩
   case rest =>
    clear HC9
    try clear c1
    try clear p2
    try clear c3
    try clear c4
    try clear c4b0
    try clear c4b1
    try clear c5
    try clear c5b0
    try clear c5b1
    try clear c12
    try clear c16
    try clear c19
    try clear c19b0
    try clear c19b1
    try clear hcz12_0
    try clear hcz12_1
    try clear hcz12_2
    try clear hfz12_0
    try clear hfz12_1
    try clear hfz12_2
    obtain ⟨kq, x40_8, rfl, HA, HJ8, HO_7, HO_8, HO_371001, HO_371002, BK370, HB⟩ := hcut
    as_aux_lemma =>
     cases kq with
     | zero => exact absurd HA.out (by simp [silversidelaw07_FindSides.j0])
     | succ kj8 =>
      have H := HA.out
      clear HA
      simp only [silversidelaw07_FindSides.j0] at H
      by_cases c21 : x40_8 = true
      ·subst c21
       exact absurd ((Option.some.inj (show (some false : Option Bool) = some r from by rw [if_pos rfl] at H; exact H)).trans hr_.out) (by decide)
      ·replace c21 := Bool.eq_false_iff.mpr c21
       subst c21
       have H1 : (if 0 ≤ (sa0_.size : Int) then (if ((sa0_.size : Int) : Int).toNat ≤ 281474976710656 then (silversidelaw07_FindSides.l0 kj8 sa0_ a1 t371 t374 (List.replicate ((sa0_.size : Int) : Int).toNat false) 0 0 false 0 t362 t363 t366) else (none)) else (none)) = some r := by rw [if_neg (show ¬ (false = true) by decide)] at H; exact H
       clear H
       have H := H1
       clear H1
       by_cases c22 : 0 ≤ (sa0_.size : Int)
       ·rw [if_pos c22] at H
        have c22b0 := eq_true c22
        have c22b1 : decide (0 ≤ (sa0_.size : Int)) = true := decide_eq_true c22
        clear c22
        by_cases c23 : ((sa0_.size : Int) : Int).toNat ≤ 281474976710656
        ·rw [if_pos c23] at H
         have c23b0 := eq_true c23
         have c23b1 : decide (((sa0_.size : Int) : Int).toNat ≤ 281474976710656) = true := decide_eq_true c23
         clear c23
         obtain ⟨y377, hy377⟩ : ∃ y_ : List Bool, y_ = (List.replicate ((sa0_.size : Int) : Int).toNat false) := ⟨_, rfl⟩
         replace H : (silversidelaw07_FindSides.l0 kj8 sa0_ a1 t371 t374 y377 0 0 false 0 t362 t363 t366) = some r := by first | (rw [hy377]; with_reducible exact H) | (have H2_ := (Option.bind_some _ _).symm.trans H; rw [hy377]; with_reducible exact H2_) | (have H2_ := (Option.bind_some _ _).symm.trans H; with_reducible exact H2_) | with_reducible exact H | (rw [hy377]; exact H) | exact H
         have Ny377 := Aside0.mk hy377
         clear hy377
         have H' := Aside0.mk H
         clear H
         go_wp2_with (first | ((with_reducible refine gate_dst (N := 43) rfl ?_); (try (refine gate_guard (by rfl) ?_; dsimp only)); refine Kd.R_make Kd.bool _ 4 rfl (N := 43) rfl 56 _ _ rfl (sa0_.size : Int) rfl rfl Try.underlying56 (.bool false) 1 info4 rfl (by decide) (by omega) false (ok := fun _ => True) (okp := fun _ => True) rfl (fun _ hk => hk) trivial (of_decide_eq_true (by first | (with_reducible assumption) | assumption)) (Nat.le_trans (Nat.mul_le_mul_right _ (of_decide_eq_true (by first | (with_reducible assumption) | assumption) : (sa0_.size : Int).toNat ≤ 281474976710656)) (by omega)) (Below.refl _ _) (Nat.le_refl _) ?_; intro v378 w24 ho25 hb hg_ hnew_; clear hg_ hnew_; (first | rw [← Ny377.out] at ho25 | (simp only [Int.reduceToNat] at ho25; rw [← Ny377.out] at ho25)); have n0_ := Aside0.mk (Kd.R_below (by (with_reducible repeat (first | apply Kd.R_alloc | apply Kd.R_drewN | apply Kd.R_drew)); exact HO_7.out) hb); have n1_ := Aside0.mk (Kd.R_below (by (with_reducible repeat (first | apply Kd.R_alloc | apply Kd.R_drewN | apply Kd.R_drew)); exact HO_8.out) hb); have n2_ := Aside0.mk (Kd.R_below (by (with_reducible repeat (first | apply Kd.R_alloc | apply Kd.R_drewN | apply Kd.R_drew)); exact HO_371001.out) hb); have n3_ := Aside0.mk (Kd.R_below (by (with_reducible repeat (first | apply Kd.R_alloc | apply Kd.R_drewN | apply Kd.R_drew)); exact HO_371002.out) hb); have n4_ := Aside0.mk (Kd.R_lower ho25 (below_size (by repeat (first | (with_reducible first | exact HB.out | apply lA | apply lN | apply lD | refine lS ?_ GE370.out) | exact HB.out)))); have n5_ := Aside0.mk (blk_below (g := gb370) (o := .cells #[.string t362, .slice Ao13 t363.length co13, .slice Ao14 t366.length co14] 24 (0, 0)) (kX BK370.out) hb); have n6_ := Aside0.mk (below_step (by repeat (first | (with_reducible first | exact HB.out | apply lA | apply lN | apply lD | refine lS ?_ GE370.out) | exact HB.out)) hb); clear HO_7; clear HO_8; clear HO_371001; clear HO_371002; clear BK370; clear HB; have HO_7 := n0_; have HO_8 := n1_; have HO_371001 := n2_; have HO_371002 := n3_; have HO379 := n4_; have BK370 := n5_; have HB := n6_; clear n0_ n1_ n2_ n3_ n4_ n5_ n6_; clear hb ho25))
         go_loopg [10, 11, 12, 13] kj8 (fun kq v10 v11 v12 v13 w' => ∃ (x9_2 : List Bool) (x10_2 : Int) (x11_2 : Int) (x12_2 : Bool) (x13_2 : Int), v10 = .int .i64 x10_2 ∧ v11 = .int .i64 x11_2 ∧ v12 = .bool x12_2 ∧ v13 = .int .i64 x13_2 ∧ Aside0 (silversidelaw07_FindSides.l0 kq sa0_ a1 t371 t374 x9_2 x10_2 x11_2 x12_2 x13_2 t362 t363 t366 = some r) ∧ Aside0 (kq ≤ kj8) ∧ Aside0 (Kd.R (Kd.int .i64) 3 w' w.heap.size (fun k_ => some k_ ≠ (v375 : Value).ownBlock ∧ some k_ ≠ ((.slice Ao13 t363.length co13) : Value).ownBlock ∧ some k_ ≠ ((.slice Ao14 t366.length co14) : Value).ownBlock) v372 t371) ∧ Aside0 (Kd.R (Kd.int .i64) 3 w' w.heap.size (fun k_ => some k_ ≠ (v372 : Value).ownBlock ∧ some k_ ≠ ((.slice Ao13 t363.length co13) : Value).ownBlock ∧ some k_ ≠ ((.slice Ao14 t366.length co14) : Value).ownBlock) v375 t374) ∧ Aside0 (Kd.R Kd.bool 4 w' w.heap.size (fun _ => True) v378 x9_2) ∧ Aside0 (Kd.R (Kd.int .i64) 3 w' w.heap.size (fun k_ => some k_ ≠ (v372 : Value).ownBlock ∧ some k_ ≠ (v375 : Value).ownBlock ∧ some k_ ≠ ((.slice Ao14 t366.length co14) : Value).ownBlock) (.slice Ao13 t363.length co13) t363) ∧ Aside0 (Kd.R (Kd.int .i64) 3 w' w.heap.size (fun k_ => some k_ ≠ (v372 : Value).ownBlock ∧ some k_ ≠ (v375 : Value).ownBlock ∧ some k_ ≠ ((.slice Ao13 t363.length co13) : Value).ownBlock) (.slice Ao14 t366.length co14) t366) ∧ Aside0 (w'.heap[gb370]? = some (.cells #[.string t362, (.slice Ao13 t363.length co13), (.slice Ao14 t366.length co14)] 24 (0, 0))) ∧ Aside0 (Below w.heap.size w w'))
         case atStart => exact ⟨(y377), (0), (0), (false), (0), (by first | rfl | (simp; done) | (simp [*]; done)), (by first | rfl | (simp; done) | (simp [*]; done)), (by first | rfl | (simp; done) | (simp [*]; done)), (by first | rfl | (simp; done) | (simp [*]; done)), H', ⟨Nat.le_refl _⟩, ⟨by (with_reducible repeat (first | apply Kd.R_alloc | apply Kd.R_drewN | apply Kd.R_drew)); exact HO_7.out⟩, ⟨by (with_reducible repeat (first | apply Kd.R_alloc | apply Kd.R_drewN | apply Kd.R_drew)); exact HO_8.out⟩, ⟨by (with_reducible repeat (first | apply Kd.R_alloc | apply Kd.R_drewN | apply Kd.R_drew)); exact HO379.out⟩, ⟨by (with_reducible repeat (first | apply Kd.R_alloc | apply Kd.R_drewN | apply Kd.R_drew)); exact HO_371001.out⟩, ⟨by (with_reducible repeat (first | apply Kd.R_alloc | apply Kd.R_drewN | apply Kd.R_drew)); exact HO_371002.out⟩, ⟨by (with_reducible repeat (first | refine kN ?_ _ | refine kD ?_ | refine kA ?_ _)); exact BK370.out⟩, ⟨by repeat (first | (with_reducible first | exact HB.out | apply lA | apply lN | apply lD | refine lS ?_ GE370.out) | exact HB.out)⟩⟩
         case round =>
          as_aux_lemma =>
           clear H'
           try clear c1
           try clear c2
           try clear p2
           try clear c3
           try clear c4
           try clear c4b0
           try clear c4b1
           try clear c5
           try clear c5b0
           try clear c5b1
           try clear c12
           try clear c16
           try clear c19
           try clear c19b0
           try clear c19b1
           try clear c21
           try clear c22
           try clear c22b0
           try clear c22b1
           try clear c23
           try clear c23b0
           try clear c23b1
           try clear hcz12_0
           try clear hcz12_1
           try clear hcz12_2
           try clear hfz12_0
           try clear hfz12_1
           try clear hfz12_2
           try clear p2
           obtain ⟨x9_2, x10_2, x11_2, x12_2, x13_2, rfl, rfl, rfl, rfl, HA, HK2, HO_7, HO_8, HO_9, HO_371001, HO_371002, BK370, HB⟩ := hrel
           cases gk with
           | zero => exact absurd HA.out (by simp [silversidelaw07_FindSides.l0])
           | succ k2 =>
            have H := HA.out
            clear HA
            simp only [silversidelaw07_FindSides.l0] at H
            by_cases c26 : x13_2 < (t371.length : Int)
            ·rw [if_pos c26] at H
             have c26b0 : decide (x13_2 < (t371.length : Int)) = true := decide_eq_true c26
             clear c26
             by_cases c27 : 0 ≤ x13_2
             ·rw [if_pos c27] at H
              have c27b0 : decide (0 ≤ x13_2) = true := decide_eq_true c27
              clear c27
              have HC28 := Aside0.mk H
              clear H
              obtain ⟨Ao29, co29, eo29⟩ := Kd.R_slice HO_7.out
              subst eo29
              have p380 : 0 ≤ (x13_2 : Int) := of_decide_eq_true (by first | (with_reducible assumption) | assumption)
              have q380 : x13_2 < (t371.length : Int) := of_decide_eq_true (by first | (with_reducible assumption) | assumption)
              obtain ⟨ad380, e380, hx380_0⟩ := Kd.at_int (Kd.R_reads' HO_7.out).2.2 x13_2 p380 q380
              cases e380
              replace p380 := eq_true p380
              replace q380 := eq_true q380
              go_upto_region 12 with (fail)
              go_cut [84] (fun v84 wc => ∃ (kq : Nat) (x84_27 : Bool), v84 = .bool x84_27 ∧ Aside0 (silversidelaw07_FindSides.j2 kq sa0_ a1 t371 t374 x9_2 x10_2 x11_2 x12_2 x13_2 (rd t371 x13_2) x84_27 t362 t363 t366 = some r) ∧ Aside0 (kq ≤ k2) ∧ Aside0 (Kd.R (Kd.int .i64) 3 wc w.heap.size (fun k_ => some k_ ≠ (v375 : Value).ownBlock ∧ some k_ ≠ ((.slice Ao13 t363.length co13) : Value).ownBlock ∧ some k_ ≠ ((.slice Ao14 t366.length co14) : Value).ownBlock) (.slice (some ad380) t371.length co29) t371) ∧ Aside0 (Kd.R (Kd.int .i64) 3 wc w.heap.size (fun k_ => some k_ ≠ ((.slice (some ad380) t371.length co29) : Value).ownBlock ∧ some k_ ≠ ((.slice Ao13 t363.length co13) : Value).ownBlock ∧ some k_ ≠ ((.slice Ao14 t366.length co14) : Value).ownBlock) v375 t374) ∧ Aside0 (Kd.R Kd.bool 4 wc w.heap.size (fun _ => True) v378 x9_2) ∧ Aside0 (Kd.R (Kd.int .i64) 3 wc w.heap.size (fun k_ => some k_ ≠ ((.slice (some ad380) t371.length co29) : Value).ownBlock ∧ some k_ ≠ (v375 : Value).ownBlock ∧ some k_ ≠ ((.slice Ao14 t366.length co14) : Value).ownBlock) (.slice Ao13 t363.length co13) t363) ∧ Aside0 (Kd.R (Kd.int .i64) 3 wc w.heap.size (fun k_ => some k_ ≠ ((.slice (some ad380) t371.length co29) : Value).ownBlock ∧ some k_ ≠ (v375 : Value).ownBlock ∧ some k_ ≠ ((.slice Ao13 t363.length co13) : Value).ownBlock) (.slice Ao14 t366.length co14) t366) ∧ Aside0 (wc.heap[gb370]? = some (.cells #[.string t362, (.slice Ao13 t363.length co13), (.slice Ao14 t366.length co14)] 24 (0, 0))) ∧ Aside0 (Below w.heap.size w wc))
              case first =>
               have H := HC28.out
               clear HC28
               by_cases c30 : (rd t371 x13_2) < 0
               ·rw [if_pos c30] at H
                have c30b0 : decide ((rd t371 x13_2) < 0) = true := decide_eq_true c30
                clear c30
                (first | rw [c30b0] | (simp only [i64_w, i32_w]; rw [c30b0]) | skip)
                have H' := Aside0.mk H
                clear H
                try go_wp2
                replace HO_7 := Aside0.mk (Kd.R_drew HO_7.out)
                replace HO_8 := Aside0.mk (Kd.R_drew HO_8.out)
                replace HO_9 := Aside0.mk (Kd.R_drew HO_9.out)
                replace HO_371001 := Aside0.mk (Kd.R_drew HO_371001.out)
                replace HO_371002 := Aside0.mk (Kd.R_drew HO_371002.out)
                replace BK370 := Aside0.mk (kD BK370.out)
                replace HB := Aside0.mk (lD HB.out)
                refine start_ (n := 31) (S := fun w' => True) (ds := []) (Bs 0 31) (by kernel_rfl) rfl rfl trivial (fun hHeld => ?_); refine with_tabW silversidelaw07_FindSides.tab12 silversidelaw07_FindSides.bits12 (fun HT_ HW_ => ?_)
                generalize wr.drew = w31 at HO_7 HO_8 HO_9 HO_371001 HO_371002 BK370 HB hHeld ⊢
                refine pu 0 54 (Bs 1 31) HT_ ?_
                refine pu 1 55 (Bs 2 31) HT_ ?_
                refine pu 2 56 (Bs 3 31) HT_ ?_
                refine po 3 57 (Bs 4 31) HT_ ?_
                refine po 4 58 (Bs 5 31) HT_ ?_
                refine po 5 59 (Bs 6 31) HT_ ?_
                refine po 6 60 (Bs 7 31) HT_ ?_
                refine pu 7 61 (Bs 8 31) HT_ ?_
                refine pu 8 62 (Bs 9 31) HT_ ?_
                refine po 9 63 (Bs 10 31) HT_ ?_
                refine po 10 64 (Bs 11 31) HT_ ?_
                refine po 11 65 (Bs 12 31) HT_ ?_
                refine po 12 66 (Bs 13 31) HT_ ?_
                refine pu 13 67 (Bs 14 31) HT_ ?_
                refine pu 14 68 (Bs 15 31) HT_ ?_
                refine po 15 69 (Bs 16 31) HT_ ?_
                refine po 16 70 (Bs 17 31) HT_ ?_
                refine po 17 71 (Bs 18 31) HT_ ?_
                refine po 18 72 (Bs 19 31) HT_ ?_
                refine po 19 73 (Bs 20 31) HT_ ?_
                refine po 20 74 (Bs 21 31) HT_ ?_
                refine po 21 75 (Bs 22 31) HT_ ?_
                refine po 22 76 (Bs 23 31) HT_ ?_
                refine po 23 77 (Bs 24 31) HT_ ?_
                refine po 24 78 (Bs 25 31) HT_ ?_
                refine po 25 79 (Bs 26 31) HT_ ?_
                refine po 26 80 (Bs 27 31) HT_ ?_
                refine po 27 81 (Bs 28 31) HT_ ?_
                refine po 28 82 (Bs 29 31) HT_ ?_
                refine po 29 83 (Bs 30 31) HT_ ?_
                refine pu 30 84 (Bs 31 31) HT_ ?_
                refine done_ (done_of HT_.out (by kernel_rfl)) ?_
                try go_wp2
                go_meet
                case rel => exact ⟨_, (true), (by first | rfl | (simp; done) | (simp [*]; done)), H', ⟨by have := HJ8.out; have := HK2.out; first | omega | exact Nat.le_refl _⟩, ⟨by (with_reducible repeat (first | apply Kd.R_alloc | apply Kd.R_drewN | apply Kd.R_drew)); exact HO_7.out⟩, ⟨by (with_reducible repeat (first | apply Kd.R_alloc | apply Kd.R_drewN | apply Kd.R_drew)); exact HO_8.out⟩, ⟨by (with_reducible repeat (first | apply Kd.R_alloc | apply Kd.R_drewN | apply Kd.R_drew)); exact HO_9.out⟩, ⟨by (with_reducible repeat (first | apply Kd.R_alloc | apply Kd.R_drewN | apply Kd.R_drew)); exact HO_371001.out⟩, ⟨by (with_reducible repeat (first | apply Kd.R_alloc | apply Kd.R_drewN | apply Kd.R_drew)); exact HO_371002.out⟩, ⟨by (with_reducible repeat (first | refine kN ?_ _ | refine kD ?_ | refine kA ?_ _)); exact BK370.out⟩, ⟨by repeat (first | (with_reducible first | exact HB.out | apply lA | apply lN | apply lD | refine lS ?_ GE370.out) | exact HB.out)⟩⟩
               ·rw [if_neg c30] at H
                have c30b0 : decide ((rd t371 x13_2) < 0) = false := decide_eq_false c30
                clear c30
                (first | rw [c30b0] | (simp only [i64_w, i32_w]; rw [c30b0]) | skip)
                by_cases c32 : (rd t371 x13_2) ≥ (sa0_.size : Int)
                ·rw [if_pos c32] at H
                 have c32b0 : decide ((sa0_.size : Int) ≤ (rd t371 x13_2)) = true := decide_eq_true c32
                 clear c32
                 have H' := Aside0.mk H
                 clear H
                 try go_wp2
                 replace HO_7 := Aside0.mk (Kd.R_drew HO_7.out)
                 replace HO_8 := Aside0.mk (Kd.R_drew HO_8.out)
                 replace HO_9 := Aside0.mk (Kd.R_drew HO_9.out)
                 replace HO_371001 := Aside0.mk (Kd.R_drew HO_371001.out)
                 replace HO_371002 := Aside0.mk (Kd.R_drew HO_371002.out)
                 replace BK370 := Aside0.mk (kD BK370.out)
                 replace HB := Aside0.mk (lD HB.out)
                 refine start_ (n := 31) (S := fun w' => True) (ds := []) (Bs 0 31) (by kernel_rfl) rfl rfl trivial (fun hHeld => ?_); refine with_tabW silversidelaw07_FindSides.tab12 silversidelaw07_FindSides.bits12 (fun HT_ HW_ => ?_)
                 generalize wr.drew = w33 at HO_7 HO_8 HO_9 HO_371001 HO_371002 BK370 HB hHeld ⊢
                 refine pu 0 54 (Bs 1 31) HT_ ?_
                 refine pu 1 55 (Bs 2 31) HT_ ?_
                 refine pu 2 56 (Bs 3 31) HT_ ?_
                 refine pu 3 57 (Bs 4 31) HT_ ?_
                 refine pu 4 58 (Bs 5 31) HT_ ?_
                 refine pu 5 59 (Bs 6 31) HT_ ?_
                 refine pu 6 60 (Bs 7 31) HT_ ?_
                 refine pu 7 61 (Bs 8 31) HT_ ?_
                 refine pu 8 62 (Bs 9 31) HT_ ?_
                 refine po 9 63 (Bs 10 31) HT_ ?_
                 refine po 10 64 (Bs 11 31) HT_ ?_
                 refine po 11 65 (Bs 12 31) HT_ ?_
                 refine po 12 66 (Bs 13 31) HT_ ?_
                 refine pu 13 67 (Bs 14 31) HT_ ?_
                 refine pu 14 68 (Bs 15 31) HT_ ?_
                 refine po 15 69 (Bs 16 31) HT_ ?_
                 refine po 16 70 (Bs 17 31) HT_ ?_
                 refine po 17 71 (Bs 18 31) HT_ ?_
                 refine po 18 72 (Bs 19 31) HT_ ?_
                 refine po 19 73 (Bs 20 31) HT_ ?_
                 refine po 20 74 (Bs 21 31) HT_ ?_
                 refine po 21 75 (Bs 22 31) HT_ ?_
                 refine po 22 76 (Bs 23 31) HT_ ?_
                 refine po 23 77 (Bs 24 31) HT_ ?_
                 refine po 24 78 (Bs 25 31) HT_ ?_
                 refine po 25 79 (Bs 26 31) HT_ ?_
                 refine po 26 80 (Bs 27 31) HT_ ?_
                 refine po 27 81 (Bs 28 31) HT_ ?_
                 refine po 28 82 (Bs 29 31) HT_ ?_
                 refine po 29 83 (Bs 30 31) HT_ ?_
                 refine pu 30 84 (Bs 31 31) HT_ ?_
                 refine done_ (done_of HT_.out (by kernel_rfl)) ?_
                 try go_wp2
                 go_meet
                 case rel => exact ⟨_, (true), (by first | rfl | (simp; done) | (simp [*]; done)), H', ⟨by have := HJ8.out; have := HK2.out; first | omega | exact Nat.le_refl _⟩, ⟨by (with_reducible repeat (first | apply Kd.R_alloc | apply Kd.R_drewN | apply Kd.R_drew)); exact HO_7.out⟩, ⟨by (with_reducible repeat (first | apply Kd.R_alloc | apply Kd.R_drewN | apply Kd.R_drew)); exact HO_8.out⟩, ⟨by (with_reducible repeat (first | apply Kd.R_alloc | apply Kd.R_drewN | apply Kd.R_drew)); exact HO_9.out⟩, ⟨by (with_reducible repeat (first | apply Kd.R_alloc | apply Kd.R_drewN | apply Kd.R_drew)); exact HO_371001.out⟩, ⟨by (with_reducible repeat (first | apply Kd.R_alloc | apply Kd.R_drewN | apply Kd.R_drew)); exact HO_371002.out⟩, ⟨by (with_reducible repeat (first | refine kN ?_ _ | refine kD ?_ | refine kA ?_ _)); exact BK370.out⟩, ⟨by repeat (first | (with_reducible first | exact HB.out | apply lA | apply lN | apply lD | refine lS ?_ GE370.out) | exact HB.out)⟩⟩
                ·rw [if_neg c32] at H
                 have c32b0 : decide ((sa0_.size : Int) ≤ (rd t371 x13_2)) = false := decide_eq_false c32
                 clear c32
                 by_cases c34 : 0 ≤ (rd t371 x13_2)
                 ·rw [if_pos c34] at H
                  have c34b0 : decide (0 ≤ (rd t371 x13_2)) = true := decide_eq_true c34
                  clear c34
                  by_cases c35 : (rd t371 x13_2) < (x9_2.length : Int)
                  ·rw [if_pos c35] at H
                   have c35b0 : decide ((rd t371 x13_2) < (x9_2.length : Int)) = true := decide_eq_true c35
                   clear c35
                   obtain ⟨bq36, hbq36⟩ : ∃ b_ : Bool, b_ = (rdOf false x9_2 (rd t371 x13_2)) := ⟨_, rfl⟩
                   replace H : (if bq36 = true then (silversidelaw07_FindSides.j2 k2 sa0_ a1 t371 t374 x9_2 x10_2 x11_2 x12_2 x13_2 (rd t371 x13_2) true t362 t363 t366) else (if x13_2 > 0 then (if 0 ≤ (wrap64 (x13_2 - 1)) then (if (wrap64 (x13_2 - 1)) < (t371.length : Int) then (if 0 ≤ (rd t371 (wrap64 (x13_2 - 1))) then (if (rd t371 (wrap64 (x13_2 - 1))) ≤ (sa0_.size : Int) then (if (rd t371 x13_2) ≤ (sa0_.size : Int) then (silversidelaw07_FindSides.j2 k2 sa0_ a1 t371 t374 x9_2 x10_2 x11_2 x12_2 x13_2 (rd t371 x13_2) (!(Op.bytesLess ((sa0_.extract ((rd t371 (wrap64 (x13_2 - 1))) : Int).toNat sa0_.size).toList) ((sa0_.extract ((rd t371 x13_2) : Int).toNat sa0_.size).toList))) t362 t363 t366) else (none)) else (none)) else (none)) else (none)) else (none)) else (silversidelaw07_FindSides.j2 k2 sa0_ a1 t371 t374 x9_2 x10_2 x11_2 x12_2 x13_2 (rd t371 x13_2) false t362 t363 t366))) = some r := by rw [← hbq36] at H; exact H
                   have Nbq36 := Aside0.mk hbq36
                   clear hbq36
                   by_cases c37 : bq36 = true
                   ·subst c37
                    have H1 : (silversidelaw07_FindSides.j2 k2 sa0_ a1 t371 t374 x9_2 x10_2 x11_2 x12_2 x13_2 (rd t371 x13_2) true t362 t363 t366) = some r := by rw [if_pos rfl] at H; exact H
                    clear H
                    have H := H1
                    clear H1
                    have H' := Aside0.mk H
                    clear H
                    try go_wp2
                    replace HO_7 := Aside0.mk (Kd.R_drew HO_7.out)
                    replace HO_8 := Aside0.mk (Kd.R_drew HO_8.out)
                    replace HO_9 := Aside0.mk (Kd.R_drew HO_9.out)
                    replace HO_371001 := Aside0.mk (Kd.R_drew HO_371001.out)
                    replace HO_371002 := Aside0.mk (Kd.R_drew HO_371002.out)
                    replace BK370 := Aside0.mk (kD BK370.out)
                    replace HB := Aside0.mk (lD HB.out)
                    obtain ⟨Ao39, co39, eo39⟩ := Kd.R_slice HO_9.out
                    (first | subst eo39 | (injection eo39 with f1_ f2_ f3_; have f4_ := f1_.symm; have f5_ := f3_.symm; clear f1_ f2_ f3_; subst f4_; subst f5_))
                    have p381 : 0 ≤ ((rd t371 x13_2) : Int) := of_decide_eq_true (by first | (with_reducible assumption) | assumption)
                    have q381 : (rd t371 x13_2) < (x9_2.length : Int) := of_decide_eq_true (by first | (with_reducible assumption) | assumption)
                    obtain ⟨ad381, e381, hx381_0⟩ := Kd.at_bool (Kd.R_reads' HO_9.out).2.2 (rd t371 x13_2) p381 q381
                    (try rw [← Nbq36.out] at hx381_0)
                    cases e381
                    replace p381 := eq_true p381
                    replace q381 := eq_true q381
                    refine start_ (n := 31) (S := fun w' => w'.cell? (ad381.add ((rd t371 x13_2)).toNat) = some (.bool true)) (ds := []) (Bs 0 31) (by kernel_rfl) rfl rfl (hx381_0) (fun hHeld => ?_); refine with_tabW silversidelaw07_FindSides.tab12 silversidelaw07_FindSides.bits12 (fun HT_ HW_ => ?_)
                    generalize wr.drew = w38 at HO_7 HO_8 HO_9 HO_371001 HO_371002 BK370 HB hx381_0 hHeld ⊢
                    refine pu 0 54 (Bs 1 31) HT_ ?_
                    refine pu 1 55 (Bs 2 31) HT_ ?_
                    refine pu 2 56 (Bs 3 31) HT_ ?_
                    refine pu 3 57 (Bs 4 31) HT_ ?_
                    refine pu 4 58 (Bs 5 31) HT_ ?_
                    refine pu 5 59 (Bs 6 31) HT_ ?_
                    refine pu 6 60 (Bs 7 31) HT_ ?_
                    refine pu 7 61 (Bs 8 31) HT_ ?_
                    refine pu 8 62 (Bs 9 31) HT_ ?_
                    refine pu 9 63 (Bs 10 31) HT_ ?_
                    refine pu 10 64 (Bs 11 31) HT_ ?_
                    refine pu 11 65 (Bs 12 31) HT_ ?_
                    refine take_ (i := 12) (N := some 66) (v := ?_) (a' := ?_) (Bs 13 31) rfl rfl (take_ofW HT_.out HW_.out (by kernel_rfl)) (fun _ _ _ h => h) (Or.inl ⟨by rfl, ?_⟩) hHeld ?_ ?_; rotate_left
                    ·intro w' s0
                     go_simp
                     with_reducible rfl
                    rotate_left
                    ·simp only [Act.put, sA, sB, sC, i64_w, i32_w]; rfl
                    refine pu 13 67 (Bs 14 31) HT_ ?_
                    refine pu 14 68 (Bs 15 31) HT_ ?_
                    refine po 15 69 (Bs 16 31) HT_ ?_
                    refine po 16 70 (Bs 17 31) HT_ ?_
                    refine po 17 71 (Bs 18 31) HT_ ?_
                    refine po 18 72 (Bs 19 31) HT_ ?_
                    refine po 19 73 (Bs 20 31) HT_ ?_
                    refine po 20 74 (Bs 21 31) HT_ ?_
                    refine po 21 75 (Bs 22 31) HT_ ?_
                    refine po 22 76 (Bs 23 31) HT_ ?_
                    refine po 23 77 (Bs 24 31) HT_ ?_
                    refine po 24 78 (Bs 25 31) HT_ ?_
                    refine po 25 79 (Bs 26 31) HT_ ?_
                    refine po 26 80 (Bs 27 31) HT_ ?_
                    refine po 27 81 (Bs 28 31) HT_ ?_
                    refine po 28 82 (Bs 29 31) HT_ ?_
                    refine po 29 83 (Bs 30 31) HT_ ?_
                    refine pu 30 84 (Bs 31 31) HT_ ?_
                    refine done_ (done_of HT_.out (by kernel_rfl)) ?_
                    try go_wp2
                    go_meet
                    case rel => exact ⟨_, (true), (by first | rfl | (simp; done) | (simp [*]; done)), H', ⟨by have := HJ8.out; have := HK2.out; first | omega | exact Nat.le_refl _⟩, ⟨by (with_reducible repeat (first | apply Kd.R_alloc | apply Kd.R_drewN | apply Kd.R_drew)); exact HO_7.out⟩, ⟨by (with_reducible repeat (first | apply Kd.R_alloc | apply Kd.R_drewN | apply Kd.R_drew)); exact HO_8.out⟩, ⟨by (with_reducible repeat (first | apply Kd.R_alloc | apply Kd.R_drewN | apply Kd.R_drew)); exact HO_9.out⟩, ⟨by (with_reducible repeat (first | apply Kd.R_alloc | apply Kd.R_drewN | apply Kd.R_drew)); exact HO_371001.out⟩, ⟨by (with_reducible repeat (first | apply Kd.R_alloc | apply Kd.R_drewN | apply Kd.R_drew)); exact HO_371002.out⟩, ⟨by (with_reducible repeat (first | refine kN ?_ _ | refine kD ?_ | refine kA ?_ _)); exact BK370.out⟩, ⟨by repeat (first | (with_reducible first | exact HB.out | apply lA | apply lN | apply lD | refine lS ?_ GE370.out) | exact HB.out)⟩⟩
                   ·replace c37 := Bool.eq_false_iff.mpr c37
                    subst c37
                    have H1 : (if x13_2 > 0 then (if 0 ≤ (wrap64 (x13_2 - 1)) then (if (wrap64 (x13_2 - 1)) < (t371.length : Int) then (if 0 ≤ (rd t371 (wrap64 (x13_2 - 1))) then (if (rd t371 (wrap64 (x13_2 - 1))) ≤ (sa0_.size : Int) then (if (rd t371 x13_2) ≤ (sa0_.size : Int) then (silversidelaw07_FindSides.j2 k2 sa0_ a1 t371 t374 x9_2 x10_2 x11_2 x12_2 x13_2 (rd t371 x13_2) (!(Op.bytesLess ((sa0_.extract ((rd t371 (wrap64 (x13_2 - 1))) : Int).toNat sa0_.size).toList) ((sa0_.extract ((rd t371 x13_2) : Int).toNat sa0_.size).toList))) t362 t363 t366) else (none)) else (none)) else (none)) else (none)) else (none)) else (silversidelaw07_FindSides.j2 k2 sa0_ a1 t371 t374 x9_2 x10_2 x11_2 x12_2 x13_2 (rd t371 x13_2) false t362 t363 t366)) = some r := by rw [if_neg (show ¬ (false = true) by decide)] at H; exact H
                    clear H
                    have H := H1
                    clear H1
                    by_cases c40 : x13_2 > 0
                    ·rw [if_pos c40] at H
                     have c40b0 : decide (0 < x13_2) = true := decide_eq_true c40
                     clear c40
                     obtain ⟨ji41, hji41⟩ : ∃ j_ : Int, (wrap64 (x13_2 - 1)) = j_ := ⟨_, rfl⟩
                     replace H : (if 0 ≤ (ji41) then (if (ji41) < (t371.length : Int) then (if 0 ≤ (rd t371 (ji41)) then (if (rd t371 (ji41)) ≤ (sa0_.size : Int) then (if (rd t371 x13_2) ≤ (sa0_.size : Int) then (silversidelaw07_FindSides.j2 k2 sa0_ a1 t371 t374 x9_2 x10_2 x11_2 x12_2 x13_2 (rd t371 x13_2) (!(Op.bytesLess ((sa0_.extract ((rd t371 (ji41)) : Int).toNat sa0_.size).toList) ((sa0_.extract ((rd t371 x13_2) : Int).toNat sa0_.size).toList))) t362 t363 t366) else (none)) else (none)) else (none)) else (none)) else (none)) = some r := by first | (rw [hji41] at H; exact H) | (simp only [hji41] at H ⊢; exact H)
                     have hji41w : (IntKind.i64.wrap (x13_2 - 1)) = ji41 := (i64_w _).trans hji41
                     by_cases c42 : 0 ≤ (ji41)
                     ·rw [if_pos c42] at H
                      have c42b0 : decide (0 ≤ (ji41)) = true := decide_eq_true c42
                      clear c42
                      by_cases c43 : (ji41) < (t371.length : Int)
                      ·rw [if_pos c43] at H
                       have c43b0 : decide ((ji41) < (t371.length : Int)) = true := decide_eq_true c43
                       clear c43
                       by_cases c44 : 0 ≤ (rd t371 (ji41))
                       ·rw [if_pos c44] at H
                        have c44b0 := eq_true c44
                        have c44b1 : decide (0 ≤ (rd t371 (ji41))) = true := decide_eq_true c44
                        clear c44
                        by_cases c45 : (rd t371 (ji41)) ≤ (sa0_.size : Int)
                        ·rw [if_pos c45] at H
                         have c45b0 := eq_true c45
                         have c45b1 : decide ((rd t371 (ji41)) ≤ (sa0_.size : Int)) = true := decide_eq_true c45
                         clear c45
                         have c46b0 := eq_true (of_decide_eq_true (by first | (with_reducible assumption) | assumption) : 0 ≤ (rd t371 x13_2))
                         by_cases c47 : (rd t371 x13_2) ≤ (sa0_.size : Int)
                         ·rw [if_pos c47] at H
                          have c47b0 := eq_true c47
                          have c47b1 : decide ((rd t371 x13_2) ≤ (sa0_.size : Int)) = true := decide_eq_true c47
                          clear c47
                          have H' := Aside0.mk H
                          clear H
                          try go_wp2
                          replace HO_7 := Aside0.mk (Kd.R_drew HO_7.out)
                          replace HO_8 := Aside0.mk (Kd.R_drew HO_8.out)
                          replace HO_9 := Aside0.mk (Kd.R_drew HO_9.out)
                          replace HO_371001 := Aside0.mk (Kd.R_drew HO_371001.out)
                          replace HO_371002 := Aside0.mk (Kd.R_drew HO_371002.out)
                          replace BK370 := Aside0.mk (kD BK370.out)
                          replace HB := Aside0.mk (lD HB.out)
                          obtain ⟨Ao49, co49, eo49⟩ := Kd.R_slice HO_9.out
                          (first | subst eo49 | (injection eo49 with f1_ f2_ f3_; have f4_ := f1_.symm; have f5_ := f3_.symm; clear f1_ f2_ f3_; subst f4_; subst f5_))
                          have p381 : 0 ≤ ((rd t371 x13_2) : Int) := of_decide_eq_true (by first | (with_reducible assumption) | assumption)
                          have q381 : (rd t371 x13_2) < (x9_2.length : Int) := of_decide_eq_true (by first | (with_reducible assumption) | assumption)
                          obtain ⟨ad381, e381, hx381_0⟩ := Kd.at_bool (Kd.R_reads' HO_9.out).2.2 (rd t371 x13_2) p381 q381
                          (try rw [← Nbq36.out] at hx381_0)
                          cases e381
                          replace p381 := eq_true p381
                          replace q381 := eq_true q381
                          have p382 : 0 ≤ ((ji41) : Int) := of_decide_eq_true (by first | (with_reducible assumption) | assumption)
                          have q382 : (ji41) < (t371.length : Int) := of_decide_eq_true (by first | (with_reducible assumption) | assumption)
                          obtain ⟨ad382, e382, hx382_0⟩ := Kd.at_int (Kd.R_reads' HO_7.out).2.2 (ji41) p382 q382
                          obtain rfl : ad380 = ad382 := (by injection e382)
                          replace p382 := eq_true p382
                          replace q382 := eq_true q382
                          refine start_ (n := 31) (S := fun w' => w'.cell? (ad381.add ((rd t371 x13_2)).toNat) = some (.bool false) ∧ w'.cell? (ad380.add ((ji41)).toNat) = some (.int .i64 (rd t371 (ji41)))) (ds := []) (Bs 0 31) (by kernel_rfl) rfl rfl ⟨hx381_0, hx382_0⟩ (fun hHeld => ?_); refine with_tabW silversidelaw07_FindSides.tab12 silversidelaw07_FindSides.bits12 (fun HT_ HW_ => ?_)
                          generalize wr.drew = w48 at HO_7 HO_8 HO_9 HO_371001 HO_371002 BK370 HB hx381_0 hx382_0 hHeld ⊢
                          refine pu 0 54 (Bs 1 31) HT_ ?_
                          refine pu 1 55 (Bs 2 31) HT_ ?_
                          refine pu 2 56 (Bs 3 31) HT_ ?_
                          refine pu 3 57 (Bs 4 31) HT_ ?_
                          refine pu 4 58 (Bs 5 31) HT_ ?_
                          refine pu 5 59 (Bs 6 31) HT_ ?_
                          refine pu 6 60 (Bs 7 31) HT_ ?_
                          refine pu 7 61 (Bs 8 31) HT_ ?_
                          refine pu 8 62 (Bs 9 31) HT_ ?_
                          refine pu 9 63 (Bs 10 31) HT_ ?_
                          refine pu 10 64 (Bs 11 31) HT_ ?_
                          refine pu 11 65 (Bs 12 31) HT_ ?_
                          refine ta 12 66 (Bs 13 31) HT_ HW_ hHeld ?_
                          refine pu 13 67 (Bs 14 31) HT_ ?_
                          refine pu 14 68 (Bs 15 31) HT_ ?_
                          refine pu 15 69 (Bs 16 31) HT_ ?_
                          refine pu 16 70 (Bs 17 31) HT_ ?_
                          refine pu 17 71 (Bs 18 31) HT_ ?_
                          refine pu 18 72 (Bs 19 31) HT_ ?_
                          refine pu 19 73 (Bs 20 31) HT_ ?_
                          refine pu 20 74 (Bs 21 31) HT_ ?_
                          refine pu 21 75 (Bs 22 31) HT_ ?_
                          refine pu 22 76 (Bs 23 31) HT_ ?_
                          refine pu 25 79 (Br [23,2,1,5]) HT_ ?_
                          refine pu 26 80 (Br [23,2,2,4]) HT_ ?_
                          refine pu 27 81 (Br [23,2,3,3]) HT_ ?_
                          refine ta 23 77 (Br [24,1,3,3]) HT_ HW_ hHeld ?_
                          refine pu 24 78 (Bs 28 31) HT_ ?_
                          refine pu 28 82 (Bs 29 31) HT_ ?_
                          refine pu 29 83 (Bs 30 31) HT_ ?_
                          refine pu 30 84 (Bs 31 31) HT_ ?_
                          refine done_ (done_of HT_.out (by kernel_rfl)) ?_
                          try go_wp2
                          go_meet
                          case rel => exact ⟨_, (!(Op.bytesLess ((sa0_.extract ((rd t371 (ji41)) : Int).toNat sa0_.size).toList) ((sa0_.extract ((rd t371 x13_2) : Int).toNat sa0_.size).toList))), (by first | rfl | (simp; done) | (simp only [← hji3, ← hji41] <;> (first | rfl | simp)) | (simp [*]; done)), H', ⟨by have := HJ8.out; have := HK2.out; first | omega | exact Nat.le_refl _⟩, ⟨by (with_reducible repeat (first | apply Kd.R_alloc | apply Kd.R_drewN | apply Kd.R_drew)); exact HO_7.out⟩, ⟨by (with_reducible repeat (first | apply Kd.R_alloc | apply Kd.R_drewN | apply Kd.R_drew)); exact HO_8.out⟩, ⟨by (with_reducible repeat (first | apply Kd.R_alloc | apply Kd.R_drewN | apply Kd.R_drew)); exact HO_9.out⟩, ⟨by (with_reducible repeat (first | apply Kd.R_alloc | apply Kd.R_drewN | apply Kd.R_drew)); exact HO_371001.out⟩, ⟨by (with_reducible repeat (first | apply Kd.R_alloc | apply Kd.R_drewN | apply Kd.R_drew)); exact HO_371002.out⟩, ⟨by (with_reducible repeat (first | refine kN ?_ _ | refine kD ?_ | refine kA ?_ _)); exact BK370.out⟩, ⟨by repeat (first | (with_reducible first | exact HB.out | apply lA | apply lN | apply lD | refine lS ?_ GE370.out) | exact HB.out)⟩⟩
                         ·rw [if_neg c47] at H
                          exact absurd H (by simp)
                        ·rw [if_neg c45] at H
                         exact absurd H (by simp)
                       ·rw [if_neg c44] at H
                        exact absurd H (by simp)
                      ·rw [if_neg c43] at H
                       exact absurd H (by simp)
                     ·rw [if_neg c42] at H
                      exact absurd H (by simp)
                    ·rw [if_neg c40] at H
                     have c40b0 : decide (0 < x13_2) = false := decide_eq_false c40
                     clear c40
                     have H' := Aside0.mk H
                     clear H
                     try go_wp2
                     replace HO_7 := Aside0.mk (Kd.R_drew HO_7.out)
                     replace HO_8 := Aside0.mk (Kd.R_drew HO_8.out)
                     replace HO_9 := Aside0.mk (Kd.R_drew HO_9.out)
                     replace HO_371001 := Aside0.mk (Kd.R_drew HO_371001.out)
                     replace HO_371002 := Aside0.mk (Kd.R_drew HO_371002.out)
                     replace BK370 := Aside0.mk (kD BK370.out)
                     replace HB := Aside0.mk (lD HB.out)
                     obtain ⟨Ao51, co51, eo51⟩ := Kd.R_slice HO_9.out
                     (first | subst eo51 | (injection eo51 with f1_ f2_ f3_; have f4_ := f1_.symm; have f5_ := f3_.symm; clear f1_ f2_ f3_; subst f4_; subst f5_))
                     have p381 : 0 ≤ ((rd t371 x13_2) : Int) := of_decide_eq_true (by first | (with_reducible assumption) | assumption)
                     have q381 : (rd t371 x13_2) < (x9_2.length : Int) := of_decide_eq_true (by first | (with_reducible assumption) | assumption)
                     obtain ⟨ad381, e381, hx381_0⟩ := Kd.at_bool (Kd.R_reads' HO_9.out).2.2 (rd t371 x13_2) p381 q381
                     (try rw [← Nbq36.out] at hx381_0)
                     cases e381
                     replace p381 := eq_true p381
                     replace q381 := eq_true q381
                     refine start_ (n := 31) (S := fun w' => w'.cell? (ad381.add ((rd t371 x13_2)).toNat) = some (.bool false)) (ds := []) (Bs 0 31) (by kernel_rfl) rfl rfl (hx381_0) (fun hHeld => ?_); refine with_tabW silversidelaw07_FindSides.tab12 silversidelaw07_FindSides.bits12 (fun HT_ HW_ => ?_)
                     generalize wr.drew = w50 at HO_7 HO_8 HO_9 HO_371001 HO_371002 BK370 HB hx381_0 hHeld ⊢
                     refine pu 0 54 (Bs 1 31) HT_ ?_
                     refine pu 1 55 (Bs 2 31) HT_ ?_
                     refine pu 2 56 (Bs 3 31) HT_ ?_
                     refine pu 3 57 (Bs 4 31) HT_ ?_
                     refine pu 4 58 (Bs 5 31) HT_ ?_
                     refine pu 5 59 (Bs 6 31) HT_ ?_
                     refine pu 6 60 (Bs 7 31) HT_ ?_
                     refine pu 7 61 (Bs 8 31) HT_ ?_
                     refine pu 8 62 (Bs 9 31) HT_ ?_
                     refine pu 9 63 (Bs 10 31) HT_ ?_
                     refine pu 10 64 (Bs 11 31) HT_ ?_
                     refine pu 11 65 (Bs 12 31) HT_ ?_
                     refine take_ (i := 12) (N := some 66) (v := ?_) (a' := ?_) (Bs 13 31) rfl rfl (take_ofW HT_.out HW_.out (by kernel_rfl)) (fun _ _ _ h => h) (Or.inl ⟨by rfl, ?_⟩) hHeld ?_ ?_; rotate_left
                     ·intro w' s0
                      go_simp
                      with_reducible rfl
                     rotate_left
                     ·simp only [Act.put, sA, sB, sC, i64_w, i32_w]; rfl
                     refine pu 13 67 (Bs 14 31) HT_ ?_
                     refine pu 14 68 (Bs 15 31) HT_ ?_
                     refine pu 15 69 (Bs 16 31) HT_ ?_
                     refine pu 16 70 (Bs 17 31) HT_ ?_
                     refine pu 17 71 (Bs 18 31) HT_ ?_
                     refine po 18 72 (Bs 19 31) HT_ ?_
                     refine po 19 73 (Bs 20 31) HT_ ?_
                     refine po 20 74 (Bs 21 31) HT_ ?_
                     refine po 21 75 (Bs 22 31) HT_ ?_
                     refine po 22 76 (Bs 23 31) HT_ ?_
                     refine po 23 77 (Bs 24 31) HT_ ?_
                     refine po 24 78 (Bs 25 31) HT_ ?_
                     refine po 25 79 (Bs 26 31) HT_ ?_
                     refine po 26 80 (Bs 27 31) HT_ ?_
                     refine po 27 81 (Bs 28 31) HT_ ?_
                     refine po 28 82 (Bs 29 31) HT_ ?_
                     refine pu 29 83 (Bs 30 31) HT_ ?_
                     refine pu 30 84 (Bs 31 31) HT_ ?_
                     refine done_ (done_of HT_.out (by kernel_rfl)) ?_
                     try go_wp2
                     go_meet
                     case rel => exact ⟨_, (false), (by first | rfl | (simp; done) | (simp [*]; done)), H', ⟨by have := HJ8.out; have := HK2.out; first | omega | exact Nat.le_refl _⟩, ⟨by (with_reducible repeat (first | apply Kd.R_alloc | apply Kd.R_drewN | apply Kd.R_drew)); exact HO_7.out⟩, ⟨by (with_reducible repeat (first | apply Kd.R_alloc | apply Kd.R_drewN | apply Kd.R_drew)); exact HO_8.out⟩, ⟨by (with_reducible repeat (first | apply Kd.R_alloc | apply Kd.R_drewN | apply Kd.R_drew)); exact HO_9.out⟩, ⟨by (with_reducible repeat (first | apply Kd.R_alloc | apply Kd.R_drewN | apply Kd.R_drew)); exact HO_371001.out⟩, ⟨by (with_reducible repeat (first | apply Kd.R_alloc | apply Kd.R_drewN | apply Kd.R_drew)); exact HO_371002.out⟩, ⟨by (with_reducible repeat (first | refine kN ?_ _ | refine kD ?_ | refine kA ?_ _)); exact BK370.out⟩, ⟨by repeat (first | (with_reducible first | exact HB.out | apply lA | apply lN | apply lD | refine lS ?_ GE370.out) | exact HB.out)⟩⟩
                  ·rw [if_neg c35] at H
                   exact absurd H (by simp)
                 ·rw [if_neg c34] at H
                  exact absurd H (by simp)
              case rest =>
               clear HC28
               try clear p2
               try clear c3
               try clear p3
               try clear q3
               try clear hx3
               try clear c4
               try clear p6
               try clear c34
               try clear c35
               try clear q36
               try clear c37
               try clear p38
               try clear q38
               try clear hx38
               try clear c40
               try clear c40b0
               try clear c42
               try clear c42b0
               try clear c43
               try clear c43b0
               try clear c44
               try clear c44b0
               try clear c44b1
               try clear c45
               try clear c45b0
               try clear c45b1
               try clear c46
               try clear c46b0
               try clear c47
               try clear c47b0
               try clear c47b1
               try clear hx381_0
               try clear hx382_0
               try clear p381
               try clear p382
               try clear q381
               try clear q382
               obtain ⟨kq, x84_27, rfl, HA, HJ27, HO_7, HO_8, HO_9, HO_371001, HO_371002, BK370, HB⟩ := hcut
               as_aux_lemma =>
                cases kq with
                | zero => exact absurd HA.out (by simp [silversidelaw07_FindSides.j2])
                | succ kj27 =>
                 have H := HA.out
                 clear HA
                 simp only [silversidelaw07_FindSides.j2] at H
                 by_cases c52 : x84_27 = true
                 ·subst c52
                  exact absurd ((Option.some.inj (show (some false : Option Bool) = some r from by rw [if_pos rfl] at H; exact H)).trans hr_.out) (by decide)
                 ·replace c52 := Bool.eq_false_iff.mpr c52
                  subst c52
                  have H1 : (if 0 ≤ (rd t371 x13_2) then (if (rd t371 x13_2) < (x9_2.length : Int) then ((some (x9_2.set ((rd t371 x13_2) : Int).toNat true : List Bool)).bind fun y383 => (if (wrap64 ((sa0_.size : Int) - (rd t371 x13_2))) ≥ (a1.size : Int) then (if (rd t371 x13_2) ≤ (wrap64 ((rd t371 x13_2) + (a1.size : Int))) then (if (wrap64 ((rd t371 x13_2) + (a1.size : Int))) ≤ (sa0_.size : Int) then (silversidelaw07_FindSides.j3 kj27 sa0_ a1 t371 t374 y383 x10_2 x11_2 x12_2 x13_2 ((sa0_.extract ((rd t371 x13_2) : Int).toNat ((wrap64 ((rd t371 x13_2) + (a1.size : Int))) : Int).toNat).toList == a1.toList) t362 t363 t366) else (none)) else (none)) else (silversidelaw07_FindSides.j3 kj27 sa0_ a1 t371 t374 y383 x10_2 x11_2 x12_2 x13_2 false t362 t363 t366))) else (none)) else (none)) = some r := by rw [if_neg (show ¬ (false = true) by decide)] at H; exact H
                  clear H
                  have H := H1
                  clear H1
                  by_cases c53 : 0 ≤ (rd t371 x13_2)
                  ·rw [if_pos c53] at H
                   have c53b0 : decide (0 ≤ (rd t371 x13_2)) = true := decide_eq_true c53
                   clear c53
                   by_cases c54 : (rd t371 x13_2) < (x9_2.length : Int)
                   ·rw [if_pos c54] at H
                    have c54b0 : decide ((rd t371 x13_2) < (x9_2.length : Int)) = true := decide_eq_true c54
                    clear c54
                    obtain ⟨y383, hy383⟩ : ∃ y_ : List Bool, y_ = (x9_2.set ((rd t371 x13_2) : Int).toNat true) := ⟨_, rfl⟩
                    replace H : (if (wrap64 ((sa0_.size : Int) - (rd t371 x13_2))) ≥ (a1.size : Int) then (if (rd t371 x13_2) ≤ (wrap64 ((rd t371 x13_2) + (a1.size : Int))) then (if (wrap64 ((rd t371 x13_2) + (a1.size : Int))) ≤ (sa0_.size : Int) then (silversidelaw07_FindSides.j3 kj27 sa0_ a1 t371 t374 y383 x10_2 x11_2 x12_2 x13_2 ((sa0_.extract ((rd t371 x13_2) : Int).toNat ((wrap64 ((rd t371 x13_2) + (a1.size : Int))) : Int).toNat).toList == a1.toList) t362 t363 t366) else (none)) else (none)) else (silversidelaw07_FindSides.j3 kj27 sa0_ a1 t371 t374 y383 x10_2 x11_2 x12_2 x13_2 false t362 t363 t366)) = some r := by first | (rw [hy383]; with_reducible exact H) | (have H2_ := (Option.bind_some _ _).symm.trans H; rw [hy383]; with_reducible exact H2_) | (have H2_ := (Option.bind_some _ _).symm.trans H; with_reducible exact H2_) | with_reducible exact H | (rw [hy383]; exact H) | exact H
                    have Ny383 := Aside0.mk hy383
                    clear hy383
                    have HC56 := Aside0.mk H
                    clear H
                    have p55 : 0 ≤ ((rd t371 x13_2) : Int) := of_decide_eq_true (by first | (with_reducible assumption) | assumption)
                    have q55 : ((rd t371 x13_2) : Int) < ((x9_2.length : Int) : Int) := of_decide_eq_true (by first | (with_reducible assumption) | assumption)
                    obtain ⟨go55, co55, eo55, gb55, gl55, cl55, HG55⟩ := Kd.R_form HO_9.out (by omega)
                    (first | cases eo55 | (injection eo55 with ea_ en_ ec_; (first | subst ea_ | (injection ea_ with ea_; subst ea_)); subst ec_; clear en_))
                    have GB55 := Aside0.mk gb55
                    have GG55 := Aside0.mk HG55
                    clear gb55 gl55 HG55
                    obtain ⟨hx55_0, hf55_0⟩ := Kd.R_celln false HO_9.out ((rd t371 x13_2) : Int) p55 q55
                    replace p55 := eq_true p55
                    replace q55 := eq_true q55
                    have HP57 := Kd.R_putg HO_9.out ((rd t371 x13_2) : Int) true
                    go_upto_region 15 with (first | ((with_reducible refine gate_store (t := 4) (p := 87) rfl ?_); refine store_event (t := 4) (p := 87) (v := ?vo_w58) (w1 := (wc.setCell ⟨go55, ((rd t371 x13_2) : Int).toNat, none⟩ (.bool true))) ?hg ?ho ?hn ?hr ?_; (case ho => rfl); (case hg => rfl); (case hn => rfl); (case hr => first | (go_simp; done) | (go_simp; rfl)); intro w58 hw; have hg : wc.grownBy w58 (some go55) := (by rw [hw]; exact HP57.2); have hp_ : Kd.R Kd.bool 4 w58 w.heap.size (fun _ => True) (.slice (some ⟨go55, 0, none⟩) x9_2.length co55) y383 := (by rw [hw, Ny383.out]; exact HP57.1); clear HP57; have n0_ := Aside0.mk (Kd.R_over' (v := (.slice (some ⟨go55, 0, none⟩) x9_2.length co55)) (by (with_reducible repeat (first | apply Kd.R_alloc | apply Kd.R_drewN | apply Kd.R_drew)); exact HO_7.out) (Kd.R_typed HO_9.out) (by decide) hg); have n1_ := Aside0.mk (Kd.R_over' (v := (.slice (some ⟨go55, 0, none⟩) x9_2.length co55)) (by (with_reducible repeat (first | apply Kd.R_alloc | apply Kd.R_drewN | apply Kd.R_drew)); exact HO_8.out) (Kd.R_typed HO_9.out) (by decide) hg); have n2_ := Aside0.mk (hp_); have n3_ := Aside0.mk (Kd.R_over' (v := (.slice (some ⟨go55, 0, none⟩) x9_2.length co55)) (by (with_reducible repeat (first | apply Kd.R_alloc | apply Kd.R_drewN | apply Kd.R_drew)); exact HO_371001.out) (Kd.R_typed HO_9.out) (by decide) hg); have n4_ := Aside0.mk (Kd.R_over' (v := (.slice (some ⟨go55, 0, none⟩) x9_2.length co55)) (by (with_reducible repeat (first | apply Kd.R_alloc | apply Kd.R_drewN | apply Kd.R_drew)); exact HO_371002.out) (Kd.R_typed HO_9.out) (by decide) hg); have n5_ := Aside0.mk (blk_grown (g := gb370) (o := .cells #[.string t362, .slice Ao13 t363.length co13, .slice Ao14 t366.length co14] 24 (0, 0)) (kX BK370.out) hg (Kd.R_ne HO_9.out BK370.out (by decide))); have n6_ := Aside0.mk ((by rw [hw]; exact lS (HB.out) GB55.out : Below w.heap.size w w58)); clear HO_7; clear HO_8; clear HO_9; clear HO_371001; clear HO_371002; clear BK370; clear HB; have HO_7 := n0_; have HO_8 := n1_; have HO_9 := n2_; have HO_371001 := n3_; have HO_371002 := n4_; have BK370 := n5_; have HB := n6_; clear n0_ n1_ n2_ n3_ n4_ n5_ n6_; clear hg hw hp_))
                    (try simp only [Act.put, sA, sB, sC])
                    go_cut [15] (fun v15 wc => ∃ (kq : Nat) (x15_55 : Bool), v15 = .bool x15_55 ∧ Aside0 (silversidelaw07_FindSides.j3 kq sa0_ a1 t371 t374 y383 x10_2 x11_2 x12_2 x13_2 x15_55 t362 t363 t366 = some r) ∧ Aside0 (kq ≤ kj27) ∧ Aside0 (Kd.R (Kd.int .i64) 3 wc w.heap.size (fun k_ => some k_ ≠ (v375 : Value).ownBlock ∧ some k_ ≠ ((.slice Ao13 t363.length co13) : Value).ownBlock ∧ some k_ ≠ ((.slice Ao14 t366.length co14) : Value).ownBlock) (.slice (some ad380) t371.length co29) t371) ∧ Aside0 (Kd.R (Kd.int .i64) 3 wc w.heap.size (fun k_ => some k_ ≠ ((.slice (some ad380) t371.length co29) : Value).ownBlock ∧ some k_ ≠ ((.slice Ao13 t363.length co13) : Value).ownBlock ∧ some k_ ≠ ((.slice Ao14 t366.length co14) : Value).ownBlock) v375 t374) ∧ Aside0 (Kd.R Kd.bool 4 wc w.heap.size (fun _ => True) (.slice (some ⟨go55, 0, none⟩) x9_2.length co55) y383) ∧ Aside0 (Kd.R (Kd.int .i64) 3 wc w.heap.size (fun k_ => some k_ ≠ ((.slice (some ad380) t371.length co29) : Value).ownBlock ∧ some k_ ≠ (v375 : Value).ownBlock ∧ some k_ ≠ ((.slice Ao14 t366.length co14) : Value).ownBlock) (.slice Ao13 t363.length co13) t363) ∧ Aside0 (Kd.R (Kd.int .i64) 3 wc w.heap.size (fun k_ => some k_ ≠ ((.slice (some ad380) t371.length co29) : Value).ownBlock ∧ some k_ ≠ (v375 : Value).ownBlock ∧ some k_ ≠ ((.slice Ao13 t363.length co13) : Value).ownBlock) (.slice Ao14 t366.length co14) t366) ∧ Aside0 (wc.heap[gb370]? = some (.cells #[.string t362, (.slice Ao13 t363.length co13), (.slice Ao14 t366.length co14)] 24 (0, 0))) ∧ Aside0 (Below w.heap.size w wc))
                    case first =>
                     have H := HC56.out
                     clear HC56
                     by_cases c59 : (wrap64 ((sa0_.size : Int) - (rd t371 x13_2))) ≥ (a1.size : Int)
                     ·rw [if_pos c59] at H
                      have c59b0 : decide ((a1.size : Int) ≤ (wrap64 ((sa0_.size : Int) - (rd t371 x13_2)))) = true := decide_eq_true c59
                      clear c59
                      (first | rw [c59b0] | (simp only [i64_w, i32_w]; rw [c59b0]) | skip)
                      have c60b0 := eq_true (of_decide_eq_true (by first | (with_reducible assumption) | assumption) : 0 ≤ (rd t371 x13_2))
                      by_cases c61 : (rd t371 x13_2) ≤ (wrap64 ((rd t371 x13_2) + (a1.size : Int)))
                      ·rw [if_pos c61] at H
                       have c61b0 := eq_true c61
                       have c61b1 : decide ((rd t371 x13_2) ≤ (wrap64 ((rd t371 x13_2) + (a1.size : Int)))) = true := decide_eq_true c61
                       by_cases c62 : (wrap64 ((rd t371 x13_2) + (a1.size : Int))) ≤ (sa0_.size : Int)
                       ·rw [if_pos c62] at H
                        have c62b0 := eq_true c62
                        have c62b1 : decide ((wrap64 ((rd t371 x13_2) + (a1.size : Int))) ≤ (sa0_.size : Int)) = true := decide_eq_true c62
                        have H' := Aside0.mk H
                        clear H
                        go_wp2
                        go_meet
                        case rel => exact ⟨_, (((sa0_.extract ((rd t371 x13_2) : Int).toNat ((wrap64 ((rd t371 x13_2) + (a1.size : Int))) : Int).toNat).toList == a1.toList)), (by first | rfl | (simp; done) | (simp only [← hji3] <;> (first | rfl | simp)) | (simp [*]; done)), H', ⟨by have := HJ8.out; have := HK2.out; have := HJ27.out; first | omega | exact Nat.le_refl _⟩, ⟨by (with_reducible repeat (first | apply Kd.R_alloc | apply Kd.R_drewN | apply Kd.R_drew)); exact HO_7.out⟩, ⟨by (with_reducible repeat (first | apply Kd.R_alloc | apply Kd.R_drewN | apply Kd.R_drew)); exact HO_8.out⟩, ⟨by (with_reducible repeat (first | apply Kd.R_alloc | apply Kd.R_drewN | apply Kd.R_drew)); exact HO_9.out⟩, ⟨by (with_reducible repeat (first | apply Kd.R_alloc | apply Kd.R_drewN | apply Kd.R_drew)); exact HO_371001.out⟩, ⟨by (with_reducible repeat (first | apply Kd.R_alloc | apply Kd.R_drewN | apply Kd.R_drew)); exact HO_371002.out⟩, ⟨by (with_reducible repeat (first | refine kN ?_ _ | refine kD ?_ | refine kA ?_ _)); exact BK370.out⟩, ⟨by repeat (first | (with_reducible first | exact HB.out | apply lA | apply lN | apply lD | refine lS ?_ GE370.out) | exact HB.out)⟩⟩
                       ·rw [if_neg c62] at H
                        exact absurd H (by simp)
                      ·rw [if_neg c61] at H
                       exact absurd H (by simp)
                     ·rw [if_neg c59] at H
                      have c59b0 : decide ((a1.size : Int) ≤ (wrap64 ((sa0_.size : Int) - (rd t371 x13_2)))) = false := decide_eq_false c59
                      clear c59
                      (first | rw [c59b0] | (simp only [i64_w, i32_w]; rw [c59b0]) | skip)
                      have H' := Aside0.mk H
                      clear H
                      go_wp2
                      go_meet
                      case rel => exact ⟨_, (false), (by first | rfl | (simp; done) | (simp [*]; done)), H', ⟨by have := HJ8.out; have := HK2.out; have := HJ27.out; first | omega | exact Nat.le_refl _⟩, ⟨by (with_reducible repeat (first | apply Kd.R_alloc | apply Kd.R_drewN | apply Kd.R_drew)); exact HO_7.out⟩, ⟨by (with_reducible repeat (first | apply Kd.R_alloc | apply Kd.R_drewN | apply Kd.R_drew)); exact HO_8.out⟩, ⟨by (with_reducible repeat (first | apply Kd.R_alloc | apply Kd.R_drewN | apply Kd.R_drew)); exact HO_9.out⟩, ⟨by (with_reducible repeat (first | apply Kd.R_alloc | apply Kd.R_drewN | apply Kd.R_drew)); exact HO_371001.out⟩, ⟨by (with_reducible repeat (first | apply Kd.R_alloc | apply Kd.R_drewN | apply Kd.R_drew)); exact HO_371002.out⟩, ⟨by (with_reducible repeat (first | refine kN ?_ _ | refine kD ?_ | refine kA ?_ _)); exact BK370.out⟩, ⟨by repeat (first | (with_reducible first | exact HB.out | apply lA | apply lN | apply lD | refine lS ?_ GE370.out) | exact HB.out)⟩⟩
                    case rest =>
                     clear HC56
                     try clear p2
                     try clear c3
                     try clear p3
                     try clear q3
                     try clear hx3
                     try clear c4
                     try clear c5
                     try clear p5
                     try clear q5
                     try clear hx5
                     try clear hf5
                     try clear c6
                     try clear p6
                     try clear c34
                     try clear c35
                     try clear q36
                     try clear c37
                     try clear p38
                     try clear q38
                     try clear hx38
                     try clear c40
                     try clear c40b0
                     try clear c42
                     try clear c42b0
                     try clear c43
                     try clear c43b0
                     try clear c44
                     try clear c44b0
                     try clear c44b1
                     try clear c45
                     try clear c45b0
                     try clear c45b1
                     try clear c46
                     try clear c46b0
                     try clear c47
                     try clear c47b0
                     try clear c47b1
                     try clear c52
                     try clear c53
                     try clear c53b0
                     try clear c54
                     try clear c54b0
                     try clear p55
                     try clear q55
                     try clear hx55
                     try clear hf55
                     try clear c59
                     try clear c59b0
                     try clear c60
                     try clear c60b0
                     try clear c61
                     try clear c61b0
                     try clear c61b1
                     try clear c62
                     try clear c62b0
                     try clear c62b1
                     try clear hx381_0
                     try clear hx382_0
                     try clear hx55_0
                     try clear p2
                     try clear p3
                     try clear p38
                     try clear p381
                     try clear p382
                     try clear p55
                     try clear p6
                     try clear q3
                     try clear q36
                     try clear q38
                     try clear q381
                     try clear q382
                     try clear q55
                     obtain ⟨kq, x15_55, rfl, HA, HJ55, HO_7, HO_8, HO_9, HO_371001, HO_371002, BK370, HB⟩ := hcut
                     as_aux_lemma =>
                      have hl9_55 := (Kd.R_reads' HO_9.out).1
                      rw [hl9_55] at HO_9
                      (try simp only [hl9_55])
                      (try simp only [hl9_55] at BK370)
                      (try simp only [hl9_55] at HO_7)
                      (try simp only [hl9_55] at HO_8)
                      (try simp only [hl9_55] at HO_371001)
                      (try simp only [hl9_55] at HO_371002)
                      cases kq with
                      | zero => exact absurd HA.out (by simp [silversidelaw07_FindSides.j3])
                      | succ kj55 =>
                       have H := HA.out
                       clear HA
                       simp only [silversidelaw07_FindSides.j3] at H
                       have HC63 := Aside0.mk H
                       clear H
                       go_upto_region 16 with (fail)
                       go_cut [110] (fun v110 wc => ∃ (kq : Nat) (x110_62 : Bool), v110 = .bool x110_62 ∧ Aside0 (silversidelaw07_FindSides.j4 kq sa0_ a1 t371 t374 y383 x10_2 x11_2 x13_2 x15_55 x110_62 t362 t363 t366 = some r) ∧ Aside0 (kq ≤ kj55) ∧ Aside0 (Kd.R (Kd.int .i64) 3 wc w.heap.size (fun k_ => some k_ ≠ (v375 : Value).ownBlock ∧ some k_ ≠ ((.slice Ao13 t363.length co13) : Value).ownBlock ∧ some k_ ≠ ((.slice Ao14 t366.length co14) : Value).ownBlock) (.slice (some ad380) t371.length co29) t371) ∧ Aside0 (Kd.R (Kd.int .i64) 3 wc w.heap.size (fun k_ => some k_ ≠ ((.slice (some ad380) t371.length co29) : Value).ownBlock ∧ some k_ ≠ ((.slice Ao13 t363.length co13) : Value).ownBlock ∧ some k_ ≠ ((.slice Ao14 t366.length co14) : Value).ownBlock) v375 t374) ∧ Aside0 (Kd.R Kd.bool 4 wc w.heap.size (fun _ => True) (.slice (some ⟨go55, 0, none⟩) y383.length co55) y383) ∧ Aside0 (Kd.R (Kd.int .i64) 3 wc w.heap.size (fun k_ => some k_ ≠ ((.slice (some ad380) t371.length co29) : Value).ownBlock ∧ some k_ ≠ (v375 : Value).ownBlock ∧ some k_ ≠ ((.slice Ao14 t366.length co14) : Value).ownBlock) (.slice Ao13 t363.length co13) t363) ∧ Aside0 (Kd.R (Kd.int .i64) 3 wc w.heap.size (fun k_ => some k_ ≠ ((.slice (some ad380) t371.length co29) : Value).ownBlock ∧ some k_ ≠ (v375 : Value).ownBlock ∧ some k_ ≠ ((.slice Ao13 t363.length co13) : Value).ownBlock) (.slice Ao14 t366.length co14) t366) ∧ Aside0 (wc.heap[gb370]? = some (.cells #[.string t362, (.slice Ao13 t363.length co13), (.slice Ao14 t366.length co14)] 24 (0, 0))) ∧ Aside0 (Below w.heap.size w wc))
                       case first =>
                        have H := HC63.out
                        clear HC63
                        by_cases c64 : x15_55 = true
                        ·subst c64
                         have H1 : (silversidelaw07_FindSides.j4 kj55 sa0_ a1 t371 t374 y383 x10_2 x11_2 x13_2 true (!x12_2) t362 t363 t366) = some r := by rw [if_pos rfl] at H; exact H
                         clear H
                         have H := H1
                         clear H1
                         have H' := Aside0.mk H
                         clear H
                         go_wp2
                         go_meet
                         case rel => exact ⟨_, (!x12_2), (by first | rfl | (simp; done) | (simp [*]; done)), H', ⟨by have := HJ8.out; have := HK2.out; have := HJ27.out; have := HJ55.out; first | omega | exact Nat.le_refl _⟩, ⟨by (try simp only [hl9_55]); (with_reducible repeat (first | apply Kd.R_alloc | apply Kd.R_drewN | apply Kd.R_drew)); exact HO_7.out⟩, ⟨by (try simp only [hl9_55]); (with_reducible repeat (first | apply Kd.R_alloc | apply Kd.R_drewN | apply Kd.R_drew)); exact HO_8.out⟩, ⟨by (try simp only [hl9_55]); (with_reducible repeat (first | apply Kd.R_alloc | apply Kd.R_drewN | apply Kd.R_drew)); exact HO_9.out⟩, ⟨by (try simp only [hl9_55]); (with_reducible repeat (first | apply Kd.R_alloc | apply Kd.R_drewN | apply Kd.R_drew)); exact HO_371001.out⟩, ⟨by (try simp only [hl9_55]); (with_reducible repeat (first | apply Kd.R_alloc | apply Kd.R_drewN | apply Kd.R_drew)); exact HO_371002.out⟩, ⟨by (try simp only [hl9_55]); (with_reducible repeat (first | refine kN ?_ _ | refine kD ?_ | refine kA ?_ _)); exact BK370.out⟩, ⟨by repeat (first | (with_reducible first | exact HB.out | apply lA | apply lN | apply lD | refine lS ?_ GE370.out) | exact HB.out)⟩⟩
                        ·replace c64 := Bool.eq_false_iff.mpr c64
                         subst c64
                         have H1 : (silversidelaw07_FindSides.j4 kj55 sa0_ a1 t371 t374 y383 x10_2 x11_2 x13_2 false false t362 t363 t366) = some r := by rw [if_neg (show ¬ (false = true) by decide)] at H; exact H
                         clear H
                         have H := H1
                         clear H1
                         have H' := Aside0.mk H
                         clear H
                         go_wp2
                         go_meet
                         case rel => exact ⟨_, (false), (by first | rfl | (simp; done) | (simp [*]; done)), H', ⟨by have := HJ8.out; have := HK2.out; have := HJ27.out; have := HJ55.out; first | omega | exact Nat.le_refl _⟩, ⟨by (try simp only [hl9_55]); (with_reducible repeat (first | apply Kd.R_alloc | apply Kd.R_drewN | apply Kd.R_drew)); exact HO_7.out⟩, ⟨by (try simp only [hl9_55]); (with_reducible repeat (first | apply Kd.R_alloc | apply Kd.R_drewN | apply Kd.R_drew)); exact HO_8.out⟩, ⟨by (try simp only [hl9_55]); (with_reducible repeat (first | apply Kd.R_alloc | apply Kd.R_drewN | apply Kd.R_drew)); exact HO_9.out⟩, ⟨by (try simp only [hl9_55]); (with_reducible repeat (first | apply Kd.R_alloc | apply Kd.R_drewN | apply Kd.R_drew)); exact HO_371001.out⟩, ⟨by (try simp only [hl9_55]); (with_reducible repeat (first | apply Kd.R_alloc | apply Kd.R_drewN | apply Kd.R_drew)); exact HO_371002.out⟩, ⟨by (try simp only [hl9_55]); (with_reducible repeat (first | refine kN ?_ _ | refine kD ?_ | refine kA ?_ _)); exact BK370.out⟩, ⟨by repeat (first | (with_reducible first | exact HB.out | apply lA | apply lN | apply lD | refine lS ?_ GE370.out) | exact HB.out)⟩⟩
                       case rest =>
                        clear HC63
                        try clear p2
                        try clear c3
                        try clear p3
                        try clear q3
                        try clear hx3
                        try clear c4
                        try clear c5
                        try clear p5
                        try clear q5
                        try clear hx5
                        try clear hf5
                        try clear c6
                        try clear p6
                        try clear c34
                        try clear c35
                        try clear q36
                        try clear c37
                        try clear p38
                        try clear q38
                        try clear hx38
                        try clear c40
                        try clear c40b0
                        try clear c42
                        try clear c42b0
                        try clear c43
                        try clear c43b0
                        try clear c44
                        try clear c44b0
                        try clear c44b1
                        try clear c45
                        try clear c45b0
                        try clear c45b1
                        try clear c46
                        try clear c46b0
                        try clear c47
                        try clear c47b0
                        try clear c47b1
                        try clear c52
                        try clear c53
                        try clear c53b0
                        try clear c54
                        try clear c54b0
                        try clear p55
                        try clear q55
                        try clear hx55
                        try clear hf55
                        try clear c59
                        try clear c59b0
                        try clear c60
                        try clear c60b0
                        try clear c61
                        try clear c61b0
                        try clear c61b1
                        try clear c62
                        try clear c62b0
                        try clear c62b1
                        try clear c64
                        try clear p64
                        try clear hx381_0
                        try clear hx382_0
                        try clear hx55_0
                        try clear p2
                        try clear p3
                        try clear p38
                        try clear p381
                        try clear p382
                        try clear p5
                        try clear p55
                        try clear p6
                        try clear q3
                        try clear q36
                        try clear q38
                        try clear q381
                        try clear q382
                        try clear q5
                        try clear q55
                        obtain ⟨kq, x110_62, rfl, HA, HJ62, HO_7, HO_8, HO_9, HO_371001, HO_371002, BK370, HB⟩ := hcut
                        as_aux_lemma =>
                         cases kq with
                         | zero => exact absurd HA.out (by simp [silversidelaw07_FindSides.j4])
                         | succ kj62 =>
                          have H := HA.out
                          clear HA
                          simp only [silversidelaw07_FindSides.j4] at H
                          by_cases c65 : x110_62 = true
                          ·subst c65
                           have H1 : (if x15_55 = true then (silversidelaw07_FindSides.l0 kj62 sa0_ a1 t371 t374 y383 (wrap64 (x10_2 + 1)) (wrap64 (x11_2 + 1)) x15_55 (wrap64 (x13_2 + 1)) t362 t363 t366) else (silversidelaw07_FindSides.l0 kj62 sa0_ a1 t371 t374 y383 (wrap64 (x10_2 + 1)) x11_2 x15_55 (wrap64 (x13_2 + 1)) t362 t363 t366)) = some r := by rw [if_pos rfl] at H; exact H
                           clear H
                           have H := H1
                           clear H1
                           by_cases c66 : x15_55 = true
                           ·subst c66
                            have H1 : (silversidelaw07_FindSides.l0 kj62 sa0_ a1 t371 t374 y383 (wrap64 (x10_2 + 1)) (wrap64 (x11_2 + 1)) true (wrap64 (x13_2 + 1)) t362 t363 t366) = some r := by rw [if_pos rfl] at H; exact H
                            clear H
                            have H := H1
                            clear H1
                            have H' := Aside0.mk H
                            clear H
                            go_wp2
                            (try simp only [← hl9_55])
                            go_roundg kj62
                            case measure => have := HJ8.out; have := HK2.out; have := HJ27.out; have := HJ55.out; have := HJ62.out; omega
                            case rel => exact ⟨(y383), (wrap64 (x10_2 + 1)), (wrap64 (x11_2 + 1)), (true), (wrap64 (x13_2 + 1)), (by first | rfl | (simp; done) | (simp [*]; done)), (by first | rfl | (simp; done) | (simp [*]; done)), (by first | rfl | (simp; done) | (simp [*]; done)), (by first | rfl | (simp; done) | (simp [*]; done)), H', ⟨by have := HJ8.out; have := HK2.out; have := HJ27.out; have := HJ55.out; have := HJ62.out; omega⟩, ⟨by (try simp only [hl9_55]); (with_reducible repeat (first | apply Kd.R_alloc | apply Kd.R_drewN | apply Kd.R_drew)); exact HO_7.out⟩, ⟨by (try simp only [hl9_55]); (with_reducible repeat (first | apply Kd.R_alloc | apply Kd.R_drewN | apply Kd.R_drew)); exact HO_8.out⟩, ⟨by (try simp only [hl9_55]); (with_reducible repeat (first | apply Kd.R_alloc | apply Kd.R_drewN | apply Kd.R_drew)); exact HO_9.out⟩, ⟨by (try simp only [hl9_55]); (with_reducible repeat (first | apply Kd.R_alloc | apply Kd.R_drewN | apply Kd.R_drew)); exact HO_371001.out⟩, ⟨by (try simp only [hl9_55]); (with_reducible repeat (first | apply Kd.R_alloc | apply Kd.R_drewN | apply Kd.R_drew)); exact HO_371002.out⟩, ⟨by (try simp only [hl9_55]); (with_reducible repeat (first | refine kN ?_ _ | refine kD ?_ | refine kA ?_ _)); exact BK370.out⟩, ⟨by repeat (first | (with_reducible first | exact HB.out | apply lA | apply lN | apply lD | refine lS ?_ GE370.out) | exact HB.out)⟩⟩
                           ·replace c66 := Bool.eq_false_iff.mpr c66
                            subst c66
                            have H1 : (silversidelaw07_FindSides.l0 kj62 sa0_ a1 t371 t374 y383 (wrap64 (x10_2 + 1)) x11_2 false (wrap64 (x13_2 + 1)) t362 t363 t366) = some r := by rw [if_neg (show ¬ (false = true) by decide)] at H; exact H
                            clear H
                            have H := H1
                            clear H1
                            have H' := Aside0.mk H
                            clear H
                            go_wp2
                            (try simp only [← hl9_55])
                            go_roundg kj62
                            case measure => have := HJ8.out; have := HK2.out; have := HJ27.out; have := HJ55.out; have := HJ62.out; omega
                            case rel => exact ⟨(y383), (wrap64 (x10_2 + 1)), (x11_2), (false), (wrap64 (x13_2 + 1)), (by first | rfl | (simp; done) | (simp [*]; done)), (by first | rfl | (simp; done) | (simp [*]; done)), (by first | rfl | (simp; done) | (simp [*]; done)), (by first | rfl | (simp; done) | (simp [*]; done)), H', ⟨by have := HJ8.out; have := HK2.out; have := HJ27.out; have := HJ55.out; have := HJ62.out; omega⟩, ⟨by (try simp only [hl9_55]); (with_reducible repeat (first | apply Kd.R_alloc | apply Kd.R_drewN | apply Kd.R_drew)); exact HO_7.out⟩, ⟨by (try simp only [hl9_55]); (with_reducible repeat (first | apply Kd.R_alloc | apply Kd.R_drewN | apply Kd.R_drew)); exact HO_8.out⟩, ⟨by (try simp only [hl9_55]); (with_reducible repeat (first | apply Kd.R_alloc | apply Kd.R_drewN | apply Kd.R_drew)); exact HO_9.out⟩, ⟨by (try simp only [hl9_55]); (with_reducible repeat (first | apply Kd.R_alloc | apply Kd.R_drewN | apply Kd.R_drew)); exact HO_371001.out⟩, ⟨by (try simp only [hl9_55]); (with_reducible repeat (first | apply Kd.R_alloc | apply Kd.R_drewN | apply Kd.R_drew)); exact HO_371002.out⟩, ⟨by (try simp only [hl9_55]); (with_reducible repeat (first | refine kN ?_ _ | refine kD ?_ | refine kA ?_ _)); exact BK370.out⟩, ⟨by repeat (first | (with_reducible first | exact HB.out | apply lA | apply lN | apply lD | refine lS ?_ GE370.out) | exact HB.out)⟩⟩
                          ·replace c65 := Bool.eq_false_iff.mpr c65
                           subst c65
                           have H1 : (if x15_55 = true then (silversidelaw07_FindSides.l0 kj62 sa0_ a1 t371 t374 y383 x10_2 (wrap64 (x11_2 + 1)) x15_55 (wrap64 (x13_2 + 1)) t362 t363 t366) else (silversidelaw07_FindSides.l0 kj62 sa0_ a1 t371 t374 y383 x10_2 x11_2 x15_55 (wrap64 (x13_2 + 1)) t362 t363 t366)) = some r := by rw [if_neg (show ¬ (false = true) by decide)] at H; exact H
                           clear H
                           have H := H1
                           clear H1
                           by_cases c67 : x15_55 = true
                           ·subst c67
                            have H1 : (silversidelaw07_FindSides.l0 kj62 sa0_ a1 t371 t374 y383 x10_2 (wrap64 (x11_2 + 1)) true (wrap64 (x13_2 + 1)) t362 t363 t366) = some r := by rw [if_pos rfl] at H; exact H
                            clear H
                            have H := H1
                            clear H1
                            have H' := Aside0.mk H
                            clear H
                            go_wp2
                            (try simp only [← hl9_55])
                            go_roundg kj62
                            case measure => have := HJ8.out; have := HK2.out; have := HJ27.out; have := HJ55.out; have := HJ62.out; omega
                            case rel => exact ⟨(y383), (x10_2), (wrap64 (x11_2 + 1)), (true), (wrap64 (x13_2 + 1)), (by first | rfl | (simp; done) | (simp [*]; done)), (by first | rfl | (simp; done) | (simp [*]; done)), (by first | rfl | (simp; done) | (simp [*]; done)), (by first | rfl | (simp; done) | (simp [*]; done)), H', ⟨by have := HJ8.out; have := HK2.out; have := HJ27.out; have := HJ55.out; have := HJ62.out; omega⟩, ⟨by (try simp only [hl9_55]); (with_reducible repeat (first | apply Kd.R_alloc | apply Kd.R_drewN | apply Kd.R_drew)); exact HO_7.out⟩, ⟨by (try simp only [hl9_55]); (with_reducible repeat (first | apply Kd.R_alloc | apply Kd.R_drewN | apply Kd.R_drew)); exact HO_8.out⟩, ⟨by (try simp only [hl9_55]); (with_reducible repeat (first | apply Kd.R_alloc | apply Kd.R_drewN | apply Kd.R_drew)); exact HO_9.out⟩, ⟨by (try simp only [hl9_55]); (with_reducible repeat (first | apply Kd.R_alloc | apply Kd.R_drewN | apply Kd.R_drew)); exact HO_371001.out⟩, ⟨by (try simp only [hl9_55]); (with_reducible repeat (first | apply Kd.R_alloc | apply Kd.R_drewN | apply Kd.R_drew)); exact HO_371002.out⟩, ⟨by (try simp only [hl9_55]); (with_reducible repeat (first | refine kN ?_ _ | refine kD ?_ | refine kA ?_ _)); exact BK370.out⟩, ⟨by repeat (first | (with_reducible first | exact HB.out | apply lA | apply lN | apply lD | refine lS ?_ GE370.out) | exact HB.out)⟩⟩
                           ·replace c67 := Bool.eq_false_iff.mpr c67
                            subst c67
                            have H1 : (silversidelaw07_FindSides.l0 kj62 sa0_ a1 t371 t374 y383 x10_2 x11_2 false (wrap64 (x13_2 + 1)) t362 t363 t366) = some r := by rw [if_neg (show ¬ (false = true) by decide)] at H; exact H
                            clear H
                            have H := H1
                            clear H1
                            have H' := Aside0.mk H
                            clear H
                            go_wp2
                            (try simp only [← hl9_55])
                            go_roundg kj62
                            case measure => have := HJ8.out; have := HK2.out; have := HJ27.out; have := HJ55.out; have := HJ62.out; omega
                            case rel => exact ⟨(y383), (x10_2), (x11_2), (false), (wrap64 (x13_2 + 1)), (by first | rfl | (simp; done) | (simp [*]; done)), (by first | rfl | (simp; done) | (simp [*]; done)), (by first | rfl | (simp; done) | (simp [*]; done)), (by first | rfl | (simp; done) | (simp [*]; done)), H', ⟨by have := HJ8.out; have := HK2.out; have := HJ27.out; have := HJ55.out; have := HJ62.out; omega⟩, ⟨by (try simp only [hl9_55]); (with_reducible repeat (first | apply Kd.R_alloc | apply Kd.R_drewN | apply Kd.R_drew)); exact HO_7.out⟩, ⟨by (try simp only [hl9_55]); (with_reducible repeat (first | apply Kd.R_alloc | apply Kd.R_drewN | apply Kd.R_drew)); exact HO_8.out⟩, ⟨by (try simp only [hl9_55]); (with_reducible repeat (first | apply Kd.R_alloc | apply Kd.R_drewN | apply Kd.R_drew)); exact HO_9.out⟩, ⟨by (try simp only [hl9_55]); (with_reducible repeat (first | apply Kd.R_alloc | apply Kd.R_drewN | apply Kd.R_drew)); exact HO_371001.out⟩, ⟨by (try simp only [hl9_55]); (with_reducible repeat (first | apply Kd.R_alloc | apply Kd.R_drewN | apply Kd.R_drew)); exact HO_371002.out⟩, ⟨by (try simp only [hl9_55]); (with_reducible repeat (first | refine kN ?_ _ | refine kD ?_ | refine kA ?_ _)); exact BK370.out⟩, ⟨by repeat (first | (with_reducible first | exact HB.out | apply lA | apply lN | apply lD | refine lS ?_ GE370.out) | exact HB.out)⟩⟩
                   ·rw [if_neg c54] at H
                    exact absurd H (by simp)
                  ·rw [if_neg c53] at H
                   exact absurd H (by simp)
             ·rw [if_neg c27] at H
              exact absurd H (by simp)
            ·rw [if_neg c26] at H
             have c26b0 : decide (x13_2 < (t371.length : Int)) = false := decide_eq_false c26
             clear c26
             have HC68 := Aside0.mk H
             clear H
             obtain ⟨Ao69, co69, eo69⟩ := Kd.R_slice HO_7.out
             subst eo69
             go_upto_region 21 with (fail)
             go_cut [131] (fun v131 wc => ∃ (kq : Nat) (x131_67 : Bool), v131 = .bool x131_67 ∧ Aside0 (silversidelaw07_FindSides.j5 kq sa0_ a1 t374 x131_67 = some r) ∧ Aside0 (kq ≤ k2) ∧ Aside0 (Kd.R (Kd.int .i64) 3 wc w.heap.size (fun k_ => some k_ ≠ ((.slice Ao13 t363.length co13) : Value).ownBlock ∧ some k_ ≠ ((.slice Ao14 t366.length co14) : Value).ownBlock) v375 t374) ∧ Aside0 (Kd.R (Kd.int .i64) 3 wc w.heap.size (fun k_ => some k_ ≠ (v375 : Value).ownBlock ∧ some k_ ≠ ((.slice Ao14 t366.length co14) : Value).ownBlock) (.slice Ao13 t363.length co13) t363) ∧ Aside0 (Kd.R (Kd.int .i64) 3 wc w.heap.size (fun k_ => some k_ ≠ (v375 : Value).ownBlock ∧ some k_ ≠ ((.slice Ao13 t363.length co13) : Value).ownBlock) (.slice Ao14 t366.length co14) t366) ∧ Aside0 (wc.heap[gb370]? = some (.cells #[.string t362, (.slice Ao13 t363.length co13), (.slice Ao14 t366.length co14)] 24 (0, 0))) ∧ Aside0 (Below w.heap.size w wc))
             case first =>
              have H := HC68.out
              clear HC68
              by_cases c70 : x10_2 > 1
              ·rw [if_pos c70] at H
               have c70b0 : decide (1 < x10_2) = true := decide_eq_true c70
               clear c70
               (first | rw [c70b0] | (simp only [i64_w, i32_w]; rw [c70b0]) | skip)
               have H' := Aside0.mk H
               clear H
               go_wp2
               go_meet
               case rel => exact ⟨_, (true), (by first | rfl | (simp; done) | (simp [*]; done)), H', ⟨by have := HJ8.out; have := HK2.out; first | omega | exact Nat.le_refl _⟩, ⟨by (with_reducible repeat (first | apply Kd.R_alloc | apply Kd.R_drewN | apply Kd.R_drew)); exact Kd.R_mono HO_8.out (fun _ hk => ⟨hk.2.1, hk.2.2⟩)⟩, ⟨by (with_reducible repeat (first | apply Kd.R_alloc | apply Kd.R_drewN | apply Kd.R_drew)); exact Kd.R_mono HO_371001.out (fun _ hk => ⟨hk.2.1, hk.2.2⟩)⟩, ⟨by (with_reducible repeat (first | apply Kd.R_alloc | apply Kd.R_drewN | apply Kd.R_drew)); exact Kd.R_mono HO_371002.out (fun _ hk => ⟨hk.2.1, hk.2.2⟩)⟩, ⟨by (with_reducible repeat (first | refine kN ?_ _ | refine kD ?_ | refine kA ?_ _)); exact BK370.out⟩, ⟨by repeat (first | (with_reducible first | exact HB.out | apply lA | apply lN | apply lD | refine lS ?_ GE370.out) | exact HB.out)⟩⟩
              ·rw [if_neg c70] at H
               have c70b0 : decide (1 < x10_2) = false := decide_eq_false c70
               clear c70
               (first | rw [c70b0] | (simp only [i64_w, i32_w]; rw [c70b0]) | skip)
               replace H := Option.bind_eq_some_iff.mp H
               obtain ⟨t384, A710, H⟩ := H
               replace H : (if x11_2 = t384 then (silversidelaw07_FindSides.j5 k2 sa0_ a1 t374 ((t374.length : Int) != x11_2)) else (silversidelaw07_FindSides.j5 k2 sa0_ a1 t374 true)) = some r := H
               have A71 := Aside0.mk A710
               clear A710
               by_cases c72 : x11_2 = t384
               ·rw [if_pos c72] at H
                have c72b0 : (x11_2 == t384) = true := beq_iff_eq.mpr c72
                have c72b1 : (x11_2 != t384) = false := bne_eq_false_iff_eq.mpr c72
                clear c72
                have H' := Aside0.mk H
                clear H
                have hcz73_0 : wr.cell? ⟨gb370, 0, none⟩ = some (.string t362) := (blk_cell BK370.out 0).trans rfl
                have hcz73_1 : wr.cell? ⟨gb370, 1, none⟩ = some (.slice Ao13 t363.length co13) := (blk_cell BK370.out 1).trans rfl
                have hcz73_2 : wr.cell? ⟨gb370, 2, none⟩ = some (.slice Ao14 t366.length co14) := (blk_cell BK370.out 2).trans rfl
                have hfz73_0 := blk_frozen BK370.out 0
                have hfz73_1 := blk_frozen BK370.out 1
                have hfz73_2 := blk_frozen BK370.out 2
                go_wp2_with (first | (go_at_call 29; (with_reducible refine (find_Index_Count.calls t362 _ _ t363 _ _ t366 a1 t384 _ ?side1 ?side2 ?side3 ?side4 A71.out).mono ?_); (case side1 => repeat (first | exact (Kd.R_reads' HO_371001.out).2.2 | (with_reducible refine Kd.C_alloc ?_ _) | (with_reducible refine Kd.C_drewN ?_ _) | (with_reducible refine Kd.C_drew ?_))); (case side2 => exact (Kd.R_reads' HO_371001.out).2.1); (case side3 => repeat (first | exact (Kd.R_reads' HO_371002.out).2.2 | (with_reducible refine Kd.C_alloc ?_ _) | (with_reducible refine Kd.C_drewN ?_ _) | (with_reducible refine Kd.C_drew ?_))); (case side4 => exact (Kd.R_reads' HO_371002.out).2.1); rintro e w74 ⟨rfl, hb⟩; have n0_ := Aside0.mk (Kd.R_below (by (with_reducible repeat (first | apply Kd.R_alloc | apply Kd.R_drewN | apply Kd.R_drew)); exact HO_7.out) hb); have n1_ := Aside0.mk (Kd.R_below (by (with_reducible repeat (first | apply Kd.R_alloc | apply Kd.R_drewN | apply Kd.R_drew)); exact HO_8.out) hb); have n2_ := Aside0.mk (Kd.R_below (by (with_reducible repeat (first | apply Kd.R_alloc | apply Kd.R_drewN | apply Kd.R_drew)); exact HO_9.out) hb); have n3_ := Aside0.mk (Kd.R_below (by (with_reducible repeat (first | apply Kd.R_alloc | apply Kd.R_drewN | apply Kd.R_drew)); exact HO_371001.out) hb); have n4_ := Aside0.mk (Kd.R_below (by (with_reducible repeat (first | apply Kd.R_alloc | apply Kd.R_drewN | apply Kd.R_drew)); exact HO_371002.out) hb); have n5_ := Aside0.mk (blk_below (g := gb370) (o := .cells #[.string t362, .slice Ao13 t363.length co13, .slice Ao14 t366.length co14] 24 (0, 0)) (kX BK370.out) hb); have n6_ := Aside0.mk (below_step (by repeat (first | (with_reducible first | exact HB.out | apply lA | apply lN | apply lD | refine lS ?_ GE370.out) | exact HB.out)) hb); clear HO_7; clear HO_8; clear HO_9; clear HO_371001; clear HO_371002; clear BK370; clear HB; have HO_7 := n0_; have HO_8 := n1_; have HO_9 := n2_; have HO_371001 := n3_; have HO_371002 := n4_; have BK370 := n5_; have HB := n6_; clear n0_ n1_ n2_ n3_ n4_ n5_ n6_; (try clear hb); (try clear hb2); (try clear hk); (try clear hi); obtain ⟨Ao75, co75, eo75⟩ := Kd.R_slice HO_8.out; subst eo75))
                go_meet
                case rel => exact ⟨_, (((t374.length : Int) != x11_2)), (by first | rfl | (simp; done) | (simp [*]; done)), H', ⟨by have := HJ8.out; have := HK2.out; first | omega | exact Nat.le_refl _⟩, ⟨by (with_reducible repeat (first | apply Kd.R_alloc | apply Kd.R_drewN | apply Kd.R_drew)); exact Kd.R_mono HO_8.out (fun _ hk => ⟨hk.2.1, hk.2.2⟩)⟩, ⟨by (with_reducible repeat (first | apply Kd.R_alloc | apply Kd.R_drewN | apply Kd.R_drew)); exact Kd.R_mono HO_371001.out (fun _ hk => ⟨hk.2.1, hk.2.2⟩)⟩, ⟨by (with_reducible repeat (first | apply Kd.R_alloc | apply Kd.R_drewN | apply Kd.R_drew)); exact Kd.R_mono HO_371002.out (fun _ hk => ⟨hk.2.1, hk.2.2⟩)⟩, ⟨by (with_reducible repeat (first | refine kN ?_ _ | refine kD ?_ | refine kA ?_ _)); exact BK370.out⟩, ⟨by repeat (first | (with_reducible first | exact HB.out | apply lA | apply lN | apply lD | refine lS ?_ GE370.out) | exact HB.out)⟩⟩
               ·rw [if_neg c72] at H
                have c72b0 : (x11_2 == t384) = false := beq_eq_false_iff_ne.mpr c72
                have c72b1 : (x11_2 != t384) = true := bne_iff_ne.mpr c72
                have H' := Aside0.mk H
                clear H
                have hcz76_0 : wr.cell? ⟨gb370, 0, none⟩ = some (.string t362) := (blk_cell BK370.out 0).trans rfl
                have hcz76_1 : wr.cell? ⟨gb370, 1, none⟩ = some (.slice Ao13 t363.length co13) := (blk_cell BK370.out 1).trans rfl
                have hcz76_2 : wr.cell? ⟨gb370, 2, none⟩ = some (.slice Ao14 t366.length co14) := (blk_cell BK370.out 2).trans rfl
                have hfz76_0 := blk_frozen BK370.out 0
                have hfz76_1 := blk_frozen BK370.out 1
                have hfz76_2 := blk_frozen BK370.out 2
                go_wp2_with (first | (go_at_call 29; (with_reducible refine (find_Index_Count.calls t362 _ _ t363 _ _ t366 a1 t384 _ ?side1 ?side2 ?side3 ?side4 A71.out).mono ?_); (case side1 => repeat (first | exact (Kd.R_reads' HO_371001.out).2.2 | (with_reducible refine Kd.C_alloc ?_ _) | (with_reducible refine Kd.C_drewN ?_ _) | (with_reducible refine Kd.C_drew ?_))); (case side2 => exact (Kd.R_reads' HO_371001.out).2.1); (case side3 => repeat (first | exact (Kd.R_reads' HO_371002.out).2.2 | (with_reducible refine Kd.C_alloc ?_ _) | (with_reducible refine Kd.C_drewN ?_ _) | (with_reducible refine Kd.C_drew ?_))); (case side4 => exact (Kd.R_reads' HO_371002.out).2.1); rintro e w77 ⟨rfl, hb⟩; have n0_ := Aside0.mk (Kd.R_below (by (with_reducible repeat (first | apply Kd.R_alloc | apply Kd.R_drewN | apply Kd.R_drew)); exact HO_7.out) hb); have n1_ := Aside0.mk (Kd.R_below (by (with_reducible repeat (first | apply Kd.R_alloc | apply Kd.R_drewN | apply Kd.R_drew)); exact HO_8.out) hb); have n2_ := Aside0.mk (Kd.R_below (by (with_reducible repeat (first | apply Kd.R_alloc | apply Kd.R_drewN | apply Kd.R_drew)); exact HO_9.out) hb); have n3_ := Aside0.mk (Kd.R_below (by (with_reducible repeat (first | apply Kd.R_alloc | apply Kd.R_drewN | apply Kd.R_drew)); exact HO_371001.out) hb); have n4_ := Aside0.mk (Kd.R_below (by (with_reducible repeat (first | apply Kd.R_alloc | apply Kd.R_drewN | apply Kd.R_drew)); exact HO_371002.out) hb); have n5_ := Aside0.mk (blk_below (g := gb370) (o := .cells #[.string t362, .slice Ao13 t363.length co13, .slice Ao14 t366.length co14] 24 (0, 0)) (kX BK370.out) hb); have n6_ := Aside0.mk (below_step (by repeat (first | (with_reducible first | exact HB.out | apply lA | apply lN | apply lD | refine lS ?_ GE370.out) | exact HB.out)) hb); clear HO_7; clear HO_8; clear HO_9; clear HO_371001; clear HO_371002; clear BK370; clear HB; have HO_7 := n0_; have HO_8 := n1_; have HO_9 := n2_; have HO_371001 := n3_; have HO_371002 := n4_; have BK370 := n5_; have HB := n6_; clear n0_ n1_ n2_ n3_ n4_ n5_ n6_; (try clear hb); (try clear hb2); (try clear hk); (try clear hi)))
                go_meet
                case rel => exact ⟨_, (true), (by first | rfl | (simp; done) | (simp [*]; done)), H', ⟨by have := HJ8.out; have := HK2.out; first | omega | exact Nat.le_refl _⟩, ⟨by (with_reducible repeat (first | apply Kd.R_alloc | apply Kd.R_drewN | apply Kd.R_drew)); exact Kd.R_mono HO_8.out (fun _ hk => ⟨hk.2.1, hk.2.2⟩)⟩, ⟨by (with_reducible repeat (first | apply Kd.R_alloc | apply Kd.R_drewN | apply Kd.R_drew)); exact Kd.R_mono HO_371001.out (fun _ hk => ⟨hk.2.1, hk.2.2⟩)⟩, ⟨by (with_reducible repeat (first | apply Kd.R_alloc | apply Kd.R_drewN | apply Kd.R_drew)); exact Kd.R_mono HO_371002.out (fun _ hk => ⟨hk.2.1, hk.2.2⟩)⟩, ⟨by (with_reducible repeat (first | refine kN ?_ _ | refine kD ?_ | refine kA ?_ _)); exact BK370.out⟩, ⟨by repeat (first | (with_reducible first | exact HB.out | apply lA | apply lN | apply lD | refine lS ?_ GE370.out) | exact HB.out)⟩⟩
             case rest =>
              clear HC68
              try clear c2
              try clear p2
              try clear c3
              try clear p3
              try clear q3
              try clear hx3
              try clear c4
              try clear c5
              try clear p5
              try clear q5
              try clear hx5
              try clear hf5
              try clear c6
              try clear p6
              try clear c7
              try clear c26
              try clear c26b0
              try clear c27
              try clear c34
              try clear c35
              try clear q36
              try clear c37
              try clear p38
              try clear q38
              try clear hx38
              try clear c40
              try clear c40b0
              try clear c42
              try clear c42b0
              try clear c43
              try clear c43b0
              try clear c44
              try clear c44b0
              try clear c44b1
              try clear c45
              try clear c45b0
              try clear c45b1
              try clear c46
              try clear c46b0
              try clear c47
              try clear c47b0
              try clear c47b1
              try clear c52
              try clear c53
              try clear c53b0
              try clear c54
              try clear c54b0
              try clear p55
              try clear q55
              try clear hx55
              try clear hf55
              try clear c59
              try clear c59b0
              try clear c60
              try clear c60b0
              try clear c61
              try clear c61b0
              try clear c61b1
              try clear c62
              try clear c62b0
              try clear c62b1
              try clear c64
              try clear p64
              try clear c65
              try clear c66
              try clear c67
              try clear c70
              try clear c70b0
              try clear c72
              try clear c72b0
              try clear c72b1
              try clear hcz73_0
              try clear hcz73_1
              try clear hcz73_2
              try clear hcz76_0
              try clear hcz76_1
              try clear hcz76_2
              try clear hfz73_0
              try clear hfz73_1
              try clear hfz73_2
              try clear hfz76_0
              try clear hfz76_1
              try clear hfz76_2
              try clear hx381_0
              try clear hx382_0
              try clear hx55_0
              try clear p2
              try clear p3
              try clear p38
              try clear p381
              try clear p382
              try clear p5
              try clear p55
              try clear p6
              try clear p64
              try clear q3
              try clear q36
              try clear q38
              try clear q381
              try clear q382
              try clear q5
              try clear q55
              obtain ⟨kq, x131_67, rfl, HA, HJ67, HO_8, HO_371001, HO_371002, BK370, HB⟩ := hcut
              as_aux_lemma =>
               cases kq with
               | zero => exact absurd HA.out (by simp [silversidelaw07_FindSides.j5])
               | succ kj67 =>
                have H := HA.out
                clear HA
                simp only [silversidelaw07_FindSides.j5] at H
                by_cases c78 : x131_67 = true
                ·subst c78
                 exact absurd ((Option.some.inj (show (some false : Option Bool) = some r from by rw [if_pos rfl] at H; exact H)).trans hr_.out) (by decide)
                ·replace c78 := Bool.eq_false_iff.mpr c78
                 subst c78
                 have H1 : (silversidelaw07_FindSides.l1 kj67 sa0_ a1 t374 0) = some r := by rw [if_neg (show ¬ (false = true) by decide)] at H; exact H
                 clear H
                 have H := H1
                 clear H1
                 have H' := Aside0.mk H
                 clear H
                 go_wp2
                 go_loopg [16] kj67 (fun kq v16 w' => ∃ (x16_4 : Int), v16 = .int .i64 x16_4 ∧ Aside0 (silversidelaw07_FindSides.l1 kq sa0_ a1 t374 x16_4 = some r) ∧ Aside0 (kq ≤ kj67) ∧ Aside0 (Kd.R (Kd.int .i64) 3 w' w.heap.size (fun k_ => some k_ ≠ ((.slice Ao13 t363.length co13) : Value).ownBlock ∧ some k_ ≠ ((.slice Ao14 t366.length co14) : Value).ownBlock) v375 t374) ∧ Aside0 (Kd.R (Kd.int .i64) 3 w' w.heap.size (fun k_ => some k_ ≠ (v375 : Value).ownBlock ∧ some k_ ≠ ((.slice Ao14 t366.length co14) : Value).ownBlock) (.slice Ao13 t363.length co13) t363) ∧ Aside0 (Kd.R (Kd.int .i64) 3 w' w.heap.size (fun k_ => some k_ ≠ (v375 : Value).ownBlock ∧ some k_ ≠ ((.slice Ao13 t363.length co13) : Value).ownBlock) (.slice Ao14 t366.length co14) t366) ∧ Aside0 (w'.heap[gb370]? = some (.cells #[.string t362, (.slice Ao13 t363.length co13), (.slice Ao14 t366.length co14)] 24 (0, 0))) ∧ Aside0 (Below w.heap.size w w'))
                 case atStart => exact ⟨(0), (by first | rfl | (simp; done) | (simp [*]; done)), H', ⟨Nat.le_refl _⟩, ⟨by (with_reducible repeat (first | apply Kd.R_alloc | apply Kd.R_drewN | apply Kd.R_drew)); exact HO_8.out⟩, ⟨by (with_reducible repeat (first | apply Kd.R_alloc | apply Kd.R_drewN | apply Kd.R_drew)); exact HO_371001.out⟩, ⟨by (with_reducible repeat (first | apply Kd.R_alloc | apply Kd.R_drewN | apply Kd.R_drew)); exact HO_371002.out⟩, ⟨by (with_reducible repeat (first | refine kN ?_ _ | refine kD ?_ | refine kA ?_ _)); exact BK370.out⟩, ⟨by repeat (first | (with_reducible first | exact HB.out | apply lA | apply lN | apply lD | refine lS ?_ GE370.out) | exact HB.out)⟩⟩
                 case round =>
                  as_aux_lemma =>
                   clear H'
                   try clear c2
                   try clear p2
                   try clear c3
                   try clear p3
                   try clear q3
                   try clear hx3
                   try clear c4
                   try clear c5
                   try clear p5
                   try clear q5
                   try clear hx5
                   try clear hf5
                   try clear c6
                   try clear p6
                   try clear c7
                   try clear c26
                   try clear c26b0
                   try clear c27
                   try clear c34
                   try clear c35
                   try clear q36
                   try clear c37
                   try clear p38
                   try clear q38
                   try clear hx38
                   try clear c40
                   try clear c40b0
                   try clear c42
                   try clear c42b0
                   try clear c43
                   try clear c43b0
                   try clear c44
                   try clear c44b0
                   try clear c44b1
                   try clear c45
                   try clear c45b0
                   try clear c45b1
                   try clear c46
                   try clear c46b0
                   try clear c47
                   try clear c47b0
                   try clear c47b1
                   try clear c52
                   try clear c53
                   try clear c53b0
                   try clear c54
                   try clear c54b0
                   try clear p55
                   try clear q55
                   try clear hx55
                   try clear hf55
                   try clear c59
                   try clear c59b0
                   try clear c60
                   try clear c60b0
                   try clear c61
                   try clear c61b0
                   try clear c61b1
                   try clear c62
                   try clear c62b0
                   try clear c62b1
                   try clear c64
                   try clear p64
                   try clear c65
                   try clear c66
                   try clear c67
                   try clear c70
                   try clear c70b0
                   try clear c72
                   try clear c72b0
                   try clear c72b1
                   try clear c78
                   try clear hcz73_0
                   try clear hcz73_1
                   try clear hcz73_2
                   try clear hcz76_0
                   try clear hcz76_1
                   try clear hcz76_2
                   try clear hfz73_0
                   try clear hfz73_1
                   try clear hfz73_2
                   try clear hfz76_0
                   try clear hfz76_1
                   try clear hfz76_2
                   try clear hx381_0
                   try clear hx382_0
                   try clear hx55_0
                   try clear p2
                   try clear p3
                   try clear p38
                   try clear p381
                   try clear p382
                   try clear p5
                   try clear p55
                   try clear p6
                   try clear p64
                   try clear q3
                   try clear q36
                   try clear q38
                   try clear q381
                   try clear q382
                   try clear q5
                   try clear q55
                   obtain ⟨x16_4, rfl, HA, HK4, HO_8, HO_371001, HO_371002, BK370, HB⟩ := hrel
                   cases gk with
                   | zero => exact absurd HA.out (by simp [silversidelaw07_FindSides.l1])
                   | succ k4 =>
                    have H := HA.out
                    clear HA
                    simp only [silversidelaw07_FindSides.l1] at H
                    by_cases c79 : x16_4 < (t374.length : Int)
                    ·rw [if_pos c79] at H
                     have c79b0 : decide (x16_4 < (t374.length : Int)) = true := decide_eq_true c79
                     clear c79
                     by_cases c80 : 0 ≤ x16_4
                     ·rw [if_pos c80] at H
                      have c80b0 : decide (0 ≤ x16_4) = true := decide_eq_true c80
                      clear c80
                      by_cases c81 : (rd t374 x16_4) < 0
                      ·rw [if_pos c81] at H
                       exact absurd ((Option.some.inj H).trans hr_.out) (by decide)
                      ·rw [if_neg c81] at H
                       have c81b0 : decide ((rd t374 x16_4) < 0) = false := decide_eq_false c81
                       clear c81
                       by_cases c84 : (wrap64 ((rd t374 x16_4) + (a1.size : Int))) > (sa0_.size : Int)
                       ·rw [if_pos c84] at H
                        exact absurd ((Option.some.inj H).trans hr_.out) (by decide)
                       ·rw [if_neg c84] at H
                        have c84b0 : decide ((sa0_.size : Int) < (wrap64 ((rd t374 x16_4) + (a1.size : Int)))) = false := decide_eq_false c84
                        clear c84
                        by_cases c87 : 0 ≤ (rd t374 x16_4)
                        ·rw [if_pos c87] at H
                         have c87b0 := eq_true c87
                         have c87b1 : decide (0 ≤ (rd t374 x16_4)) = true := decide_eq_true c87
                         clear c87
                         by_cases c88 : (rd t374 x16_4) ≤ (wrap64 ((rd t374 x16_4) + (a1.size : Int)))
                         ·rw [if_pos c88] at H
                          have c88b0 := eq_true c88
                          have c88b1 : decide ((rd t374 x16_4) ≤ (wrap64 ((rd t374 x16_4) + (a1.size : Int)))) = true := decide_eq_true c88
                          by_cases c89 : (wrap64 ((rd t374 x16_4) + (a1.size : Int))) ≤ (sa0_.size : Int)
                          ·rw [if_pos c89] at H
                           have c89b0 := eq_true c89
                           have c89b1 : decide ((wrap64 ((rd t374 x16_4) + (a1.size : Int))) ≤ (sa0_.size : Int)) = true := decide_eq_true c89
                           by_cases c90 : (sa0_.extract ((rd t374 x16_4) : Int).toNat ((wrap64 ((rd t374 x16_4) + (a1.size : Int))) : Int).toNat).toList = a1.toList
                           ·rw [if_pos c90] at H
                            have c90b0 : ((sa0_.extract ((rd t374 x16_4) : Int).toNat ((wrap64 ((rd t374 x16_4) + (a1.size : Int))) : Int).toNat).toList == a1.toList) = true := beq_iff_eq.mpr c90
                            have c90b1 : ((sa0_.extract ((rd t374 x16_4) : Int).toNat ((wrap64 ((rd t374 x16_4) + (a1.size : Int))) : Int).toNat).toList != a1.toList) = false := bne_eq_false_iff_eq.mpr c90
                            clear c90
                            by_cases c91 : x16_4 > 0
                            ·rw [if_pos c91] at H
                             have c91b0 : decide (0 < x16_4) = true := decide_eq_true c91
                             clear c91
                             obtain ⟨ji92, hji92⟩ : ∃ j_ : Int, (wrap64 (x16_4 - 1)) = j_ := ⟨_, rfl⟩
                             replace H : (if 0 ≤ (ji92) then (if (ji92) < (t374.length : Int) then (if (rd t374 (ji92)) ≥ (rd t374 x16_4) then (some false) else (silversidelaw07_FindSides.l1 k4 sa0_ a1 t374 (wrap64 (x16_4 + 1)))) else (none)) else (none)) = some r := by first | (rw [hji92] at H; exact H) | (simp only [hji92] at H ⊢; exact H)
                             have hji92w : (IntKind.i64.wrap (x16_4 - 1)) = ji92 := (i64_w _).trans hji92
                             by_cases c93 : 0 ≤ (ji92)
                             ·rw [if_pos c93] at H
                              have c93b0 : decide (0 ≤ (ji92)) = true := decide_eq_true c93
                              clear c93
                              by_cases c94 : (ji92) < (t374.length : Int)
                              ·rw [if_pos c94] at H
                               have c94b0 : decide ((ji92) < (t374.length : Int)) = true := decide_eq_true c94
                               clear c94
                               by_cases c95 : (rd t374 (ji92)) ≥ (rd t374 x16_4)
                               ·rw [if_pos c95] at H
                                exact absurd ((Option.some.inj H).trans hr_.out) (by decide)
                               ·rw [if_neg c95] at H
                                have c95b0 : decide ((rd t374 x16_4) ≤ (rd t374 (ji92))) = false := decide_eq_false c95
                                clear c95
                                have H' := Aside0.mk H
                                clear H
                                obtain ⟨Ao98, co98, eo98⟩ := Kd.R_slice HO_8.out
                                subst eo98
                                try go_wp2
                                replace HO_8 := Aside0.mk (Kd.R_drew HO_8.out)
                                replace HO_371001 := Aside0.mk (Kd.R_drew HO_371001.out)
                                replace HO_371002 := Aside0.mk (Kd.R_drew HO_371002.out)
                                replace BK370 := Aside0.mk (kD BK370.out)
                                replace HB := Aside0.mk (lD HB.out)
                                have p385 : 0 ≤ (x16_4 : Int) := of_decide_eq_true (by first | (with_reducible assumption) | assumption)
                                have q385 : x16_4 < (t374.length : Int) := of_decide_eq_true (by first | (with_reducible assumption) | assumption)
                                obtain ⟨ad385, e385, hx385_0⟩ := Kd.at_int (Kd.R_reads' HO_8.out).2.2 x16_4 p385 q385
                                cases e385
                                replace p385 := eq_true p385
                                replace q385 := eq_true q385
                                have p386 : 0 ≤ (x16_4 : Int) := of_decide_eq_true (by first | (with_reducible assumption) | assumption)
                                have q386 : x16_4 < (t374.length : Int) := of_decide_eq_true (by first | (with_reducible assumption) | assumption)
                                obtain ⟨ad386, e386, hx386_0⟩ := Kd.at_int (Kd.R_reads' HO_8.out).2.2 x16_4 p386 q386
                                obtain rfl : ad385 = ad386 := (by injection e386)
                                replace p386 := eq_true p386
                                replace q386 := eq_true q386
                                have p387 : 0 ≤ (x16_4 : Int) := of_decide_eq_true (by first | (with_reducible assumption) | assumption)
                                have q387 : x16_4 < (t374.length : Int) := of_decide_eq_true (by first | (with_reducible assumption) | assumption)
                                obtain ⟨ad387, e387, hx387_0⟩ := Kd.at_int (Kd.R_reads' HO_8.out).2.2 x16_4 p387 q387
                                obtain rfl : ad385 = ad387 := (by injection e387)
                                replace p387 := eq_true p387
                                replace q387 := eq_true q387
                                have p388 : 0 ≤ (x16_4 : Int) := of_decide_eq_true (by first | (with_reducible assumption) | assumption)
                                have q388 : x16_4 < (t374.length : Int) := of_decide_eq_true (by first | (with_reducible assumption) | assumption)
                                obtain ⟨ad388, e388, hx388_0⟩ := Kd.at_int (Kd.R_reads' HO_8.out).2.2 x16_4 p388 q388
                                obtain rfl : ad385 = ad388 := (by injection e388)
                                replace p388 := eq_true p388
                                replace q388 := eq_true q388
                                have p389 : 0 ≤ ((ji92) : Int) := of_decide_eq_true (by first | (with_reducible assumption) | assumption)
                                have q389 : (ji92) < (t374.length : Int) := of_decide_eq_true (by first | (with_reducible assumption) | assumption)
                                obtain ⟨ad389, e389, hx389_0⟩ := Kd.at_int (Kd.R_reads' HO_8.out).2.2 (ji92) p389 q389
                                obtain rfl : ad385 = ad389 := (by injection e389)
                                replace p389 := eq_true p389
                                replace q389 := eq_true q389
                                have p390 : 0 ≤ (x16_4 : Int) := of_decide_eq_true (by first | (with_reducible assumption) | assumption)
                                have q390 : x16_4 < (t374.length : Int) := of_decide_eq_true (by first | (with_reducible assumption) | assumption)
                                obtain ⟨ad390, e390, hx390_0⟩ := Kd.at_int (Kd.R_reads' HO_8.out).2.2 x16_4 p390 q390
                                obtain rfl : ad385 = ad390 := (by injection e390)
                                replace p390 := eq_true p390
                                replace q390 := eq_true q390
                                refine start_ (n := 50) (S := fun w' => w'.cell? (ad385.add (x16_4).toNat) = some (.int .i64 (rd t374 x16_4)) ∧ w'.cell? (ad385.add (x16_4).toNat) = some (.int .i64 (rd t374 x16_4)) ∧ w'.cell? (ad385.add (x16_4).toNat) = some (.int .i64 (rd t374 x16_4)) ∧ w'.cell? (ad385.add (x16_4).toNat) = some (.int .i64 (rd t374 x16_4)) ∧ w'.cell? (ad385.add ((ji92)).toNat) = some (.int .i64 (rd t374 (ji92))) ∧ w'.cell? (ad385.add (x16_4).toNat) = some (.int .i64 (rd t374 x16_4))) (ds := []) (Bs 0 50) (by kernel_rfl) rfl rfl ⟨hx385_0, hx386_0, hx387_0, hx388_0, hx389_0, hx390_0⟩ (fun hHeld => ?_); refine with_tabW silversidelaw07_FindSides.tab26 silversidelaw07_FindSides.bits26 (fun HT_ HW_ => ?_)
                                generalize wr.drew = w99 at HO_8 HO_371001 HO_371002 BK370 HB hx385_0 hx386_0 hx387_0 hx388_0 hx389_0 hx390_0 hHeld ⊢
                                refine pu 0 138 (Bs 1 50) HT_ ?_
                                refine pu 1 139 (Bs 2 50) HT_ ?_
                                refine pu 2 140 (Bs 3 50) HT_ ?_
                                refine ta 3 141 (Bs 4 50) HT_ HW_ hHeld ?_
                                refine pu 4 142 (Bs 5 50) HT_ ?_
                                refine pu 5 143 (Bs 6 50) HT_ ?_
                                refine pu 6 144 (Bs 7 50) HT_ ?_
                                refine pu 7 145 (Bs 8 50) HT_ ?_
                                refine pu 8 146 (Bs 9 50) HT_ ?_
                                refine pu 10 148 (Br [9,1,1,39]) HT_ ?_
                                refine pu 11 149 (Br [9,1,2,38]) HT_ ?_
                                refine pu 13 151 (Br [9,1,2,1,1,36]) HT_ ?_
                                refine pu 14 152 (Br [9,1,2,1,2,35]) HT_ ?_
                                refine ta 9 147 (Br [12,1,2,35]) HT_ HW_ hHeld ?_
                                refine pu 12 150 (Bs 15 50) HT_ ?_
                                refine pu 15 153 (Bs 16 50) HT_ ?_
                                refine pu 16 154 (Bs 17 50) HT_ ?_
                                refine pu 17 155 (Bs 18 50) HT_ ?_
                                refine pu 18 156 (Bs 19 50) HT_ ?_
                                refine pu 19 157 (Bs 20 50) HT_ ?_
                                refine pu 20 158 (Bs 21 50) HT_ ?_
                                refine pu 21 159 (Bs 22 50) HT_ ?_
                                refine pu 23 161 (Br [22,1,1,26]) HT_ ?_
                                refine pu 24 162 (Br [22,1,2,25]) HT_ ?_
                                refine pu 25 163 (Br [22,1,3,24]) HT_ ?_
                                refine pu 27 165 (Br [22,1,3,1,1,22]) HT_ ?_
                                refine pu 28 166 (Br [22,1,3,1,2,21]) HT_ ?_
                                refine pu 31 169 (Br [22,1,3,1,2,2,1,18]) HT_ ?_
                                refine ta 22 160 (Br [26,1,2,2,1,18]) HT_ HW_ hHeld ?_
                                refine ta 26 164 (Br [29,2,1,18]) HT_ HW_ hHeld ?_
                                refine pu 29 167 (Br [30,1,1,18]) HT_ ?_
                                refine pu 30 168 (Bs 32 50) HT_ ?_
                                refine pu 32 170 (Bs 33 50) HT_ ?_
                                refine pu 33 171 (Bs 34 50) HT_ ?_
                                refine pu 34 172 (Bs 35 50) HT_ ?_
                                refine pu 35 173 (Bs 36 50) HT_ ?_
                                refine pu 36 174 (Bs 37 50) HT_ ?_
                                refine pu 37 175 (Bs 38 50) HT_ ?_
                                refine pu 38 176 (Bs 39 50) HT_ ?_
                                refine pu 39 177 (Bs 40 50) HT_ ?_
                                refine pu 40 178 (Bs 41 50) HT_ ?_
                                refine pu 41 179 (Bs 42 50) HT_ ?_
                                refine pu 43 181 (Br [42,1,1,6]) HT_ ?_
                                refine pu 44 182 (Br [42,1,2,5]) HT_ ?_
                                refine pu 45 183 (Br [42,1,3,4]) HT_ ?_
                                refine ta 42 180 (Bs 46 50) HT_ HW_ hHeld ?_
                                refine ta 46 184 (Bs 47 50) HT_ HW_ hHeld ?_
                                refine pu 47 185 (Bs 48 50) HT_ ?_
                                refine pu 48 186 (Bs 49 50) HT_ ?_
                                refine pu 49 187 (Bs 50 50) HT_ ?_
                                refine done_ (done_of HT_.out (by kernel_rfl)) ?_
                                try go_wp2
                                go_roundg k4
                                case measure => have := HJ8.out; have := HK2.out; have := HJ67.out; have := HK4.out; omega
                                case rel => exact ⟨(wrap64 (x16_4 + 1)), (by first | rfl | (simp; done) | (simp [*]; done)), H', ⟨by have := HJ8.out; have := HK2.out; have := HJ67.out; have := HK4.out; omega⟩, ⟨by (with_reducible repeat (first | apply Kd.R_alloc | apply Kd.R_drewN | apply Kd.R_drew)); exact HO_8.out⟩, ⟨by (with_reducible repeat (first | apply Kd.R_alloc | apply Kd.R_drewN | apply Kd.R_drew)); exact HO_371001.out⟩, ⟨by (with_reducible repeat (first | apply Kd.R_alloc | apply Kd.R_drewN | apply Kd.R_drew)); exact HO_371002.out⟩, ⟨by (with_reducible repeat (first | refine kN ?_ _ | refine kD ?_ | refine kA ?_ _)); exact BK370.out⟩, ⟨by repeat (first | (with_reducible first | exact HB.out | apply lA | apply lN | apply lD | refine lS ?_ GE370.out) | exact HB.out)⟩⟩
                              ·rw [if_neg c94] at H
                               exact absurd H (by simp)
                             ·rw [if_neg c93] at H
                              exact absurd H (by simp)
                            ·rw [if_neg c91] at H
                             have c91b0 : decide (0 < x16_4) = false := decide_eq_false c91
                             clear c91
                             have H' := Aside0.mk H
                             clear H
                             obtain ⟨Ao100, co100, eo100⟩ := Kd.R_slice HO_8.out
                             subst eo100
                             try go_wp2
                             replace HO_8 := Aside0.mk (Kd.R_drew HO_8.out)
                             replace HO_371001 := Aside0.mk (Kd.R_drew HO_371001.out)
                             replace HO_371002 := Aside0.mk (Kd.R_drew HO_371002.out)
                             replace BK370 := Aside0.mk (kD BK370.out)
                             replace HB := Aside0.mk (lD HB.out)
                             have p385 : 0 ≤ (x16_4 : Int) := of_decide_eq_true (by first | (with_reducible assumption) | assumption)
                             have q385 : x16_4 < (t374.length : Int) := of_decide_eq_true (by first | (with_reducible assumption) | assumption)
                             obtain ⟨ad385, e385, hx385_0⟩ := Kd.at_int (Kd.R_reads' HO_8.out).2.2 x16_4 p385 q385
                             cases e385
                             replace p385 := eq_true p385
                             replace q385 := eq_true q385
                             have p386 : 0 ≤ (x16_4 : Int) := of_decide_eq_true (by first | (with_reducible assumption) | assumption)
                             have q386 : x16_4 < (t374.length : Int) := of_decide_eq_true (by first | (with_reducible assumption) | assumption)
                             obtain ⟨ad386, e386, hx386_0⟩ := Kd.at_int (Kd.R_reads' HO_8.out).2.2 x16_4 p386 q386
                             obtain rfl : ad385 = ad386 := (by injection e386)
                             replace p386 := eq_true p386
                             replace q386 := eq_true q386
                             have p387 : 0 ≤ (x16_4 : Int) := of_decide_eq_true (by first | (with_reducible assumption) | assumption)
                             have q387 : x16_4 < (t374.length : Int) := of_decide_eq_true (by first | (with_reducible assumption) | assumption)
                             obtain ⟨ad387, e387, hx387_0⟩ := Kd.at_int (Kd.R_reads' HO_8.out).2.2 x16_4 p387 q387
                             obtain rfl : ad385 = ad387 := (by injection e387)
                             replace p387 := eq_true p387
                             replace q387 := eq_true q387
                             have p388 : 0 ≤ (x16_4 : Int) := of_decide_eq_true (by first | (with_reducible assumption) | assumption)
                             have q388 : x16_4 < (t374.length : Int) := of_decide_eq_true (by first | (with_reducible assumption) | assumption)
                             obtain ⟨ad388, e388, hx388_0⟩ := Kd.at_int (Kd.R_reads' HO_8.out).2.2 x16_4 p388 q388
                             obtain rfl : ad385 = ad388 := (by injection e388)
                             replace p388 := eq_true p388
                             replace q388 := eq_true q388
                             refine start_ (n := 50) (S := fun w' => w'.cell? (ad385.add (x16_4).toNat) = some (.int .i64 (rd t374 x16_4)) ∧ w'.cell? (ad385.add (x16_4).toNat) = some (.int .i64 (rd t374 x16_4)) ∧ w'.cell? (ad385.add (x16_4).toNat) = some (.int .i64 (rd t374 x16_4)) ∧ w'.cell? (ad385.add (x16_4).toNat) = some (.int .i64 (rd t374 x16_4))) (ds := []) (Bs 0 50) (by kernel_rfl) rfl rfl ⟨hx385_0, hx386_0, hx387_0, hx388_0⟩ (fun hHeld => ?_); refine with_tabW silversidelaw07_FindSides.tab26 silversidelaw07_FindSides.bits26 (fun HT_ HW_ => ?_)
                             generalize wr.drew = w101 at HO_8 HO_371001 HO_371002 BK370 HB hx385_0 hx386_0 hx387_0 hx388_0 hHeld ⊢
                             refine pu 0 138 (Bs 1 50) HT_ ?_
                             refine pu 1 139 (Bs 2 50) HT_ ?_
                             refine pu 2 140 (Bs 3 50) HT_ ?_
                             refine ta 3 141 (Bs 4 50) HT_ HW_ hHeld ?_
                             refine pu 4 142 (Bs 5 50) HT_ ?_
                             refine pu 5 143 (Bs 6 50) HT_ ?_
                             refine pu 6 144 (Bs 7 50) HT_ ?_
                             refine pu 7 145 (Bs 8 50) HT_ ?_
                             refine pu 8 146 (Bs 9 50) HT_ ?_
                             refine pu 10 148 (Br [9,1,1,39]) HT_ ?_
                             refine pu 11 149 (Br [9,1,2,38]) HT_ ?_
                             refine pu 13 151 (Br [9,1,2,1,1,36]) HT_ ?_
                             refine pu 14 152 (Br [9,1,2,1,2,35]) HT_ ?_
                             refine ta 9 147 (Br [12,1,2,35]) HT_ HW_ hHeld ?_
                             refine pu 12 150 (Bs 15 50) HT_ ?_
                             refine pu 15 153 (Bs 16 50) HT_ ?_
                             refine pu 16 154 (Bs 17 50) HT_ ?_
                             refine pu 17 155 (Bs 18 50) HT_ ?_
                             refine pu 18 156 (Bs 19 50) HT_ ?_
                             refine pu 19 157 (Bs 20 50) HT_ ?_
                             refine pu 20 158 (Bs 21 50) HT_ ?_
                             refine pu 21 159 (Bs 22 50) HT_ ?_
                             refine pu 23 161 (Br [22,1,1,26]) HT_ ?_
                             refine pu 24 162 (Br [22,1,2,25]) HT_ ?_
                             refine pu 25 163 (Br [22,1,3,24]) HT_ ?_
                             refine pu 27 165 (Br [22,1,3,1,1,22]) HT_ ?_
                             refine pu 28 166 (Br [22,1,3,1,2,21]) HT_ ?_
                             refine pu 31 169 (Br [22,1,3,1,2,2,1,18]) HT_ ?_
                             refine ta 22 160 (Br [26,1,2,2,1,18]) HT_ HW_ hHeld ?_
                             refine ta 26 164 (Br [29,2,1,18]) HT_ HW_ hHeld ?_
                             refine pu 29 167 (Br [30,1,1,18]) HT_ ?_
                             refine pu 30 168 (Bs 32 50) HT_ ?_
                             refine pu 32 170 (Bs 33 50) HT_ ?_
                             refine pu 33 171 (Bs 34 50) HT_ ?_
                             refine pu 34 172 (Bs 35 50) HT_ ?_
                             refine pu 35 173 (Bs 36 50) HT_ ?_
                             refine pu 36 174 (Bs 37 50) HT_ ?_
                             refine pu 37 175 (Bs 38 50) HT_ ?_
                             refine po 38 176 (Bs 39 50) HT_ ?_
                             refine po 39 177 (Bs 40 50) HT_ ?_
                             refine po 40 178 (Bs 41 50) HT_ ?_
                             refine po 41 179 (Bs 42 50) HT_ ?_
                             refine po 42 180 (Bs 43 50) HT_ ?_
                             refine po 43 181 (Bs 44 50) HT_ ?_
                             refine po 44 182 (Bs 45 50) HT_ ?_
                             refine po 45 183 (Bs 46 50) HT_ ?_
                             refine po 46 184 (Bs 47 50) HT_ ?_
                             refine po 47 185 (Bs 48 50) HT_ ?_
                             refine pu 48 186 (Bs 49 50) HT_ ?_
                             refine pu 49 187 (Bs 50 50) HT_ ?_
                             refine done_ (done_of HT_.out (by kernel_rfl)) ?_
                             try go_wp2
                             go_roundg k4
                             case measure => have := HJ8.out; have := HK2.out; have := HJ67.out; have := HK4.out; omega
                             case rel => exact ⟨(wrap64 (x16_4 + 1)), (by first | rfl | (simp; done) | (simp [*]; done)), H', ⟨by have := HJ8.out; have := HK2.out; have := HJ67.out; have := HK4.out; omega⟩, ⟨by (with_reducible repeat (first | apply Kd.R_alloc | apply Kd.R_drewN | apply Kd.R_drew)); exact HO_8.out⟩, ⟨by (with_reducible repeat (first | apply Kd.R_alloc | apply Kd.R_drewN | apply Kd.R_drew)); exact HO_371001.out⟩, ⟨by (with_reducible repeat (first | apply Kd.R_alloc | apply Kd.R_drewN | apply Kd.R_drew)); exact HO_371002.out⟩, ⟨by (with_reducible repeat (first | refine kN ?_ _ | refine kD ?_ | refine kA ?_ _)); exact BK370.out⟩, ⟨by repeat (first | (with_reducible first | exact HB.out | apply lA | apply lN | apply lD | refine lS ?_ GE370.out) | exact HB.out)⟩⟩
                           ·rw [if_neg c90] at H
                            exact absurd ((Option.some.inj H).trans hr_.out) (by decide)
                          ·rw [if_neg c89] at H
                           exact absurd H (by simp)
                         ·rw [if_neg c88] at H
                          exact absurd H (by simp)
                        ·rw [if_neg c87] at H
                         exact absurd H (by simp)
                     ·rw [if_neg c80] at H
                      exact absurd H (by simp)
                    ·rw [if_neg c79] at H
                     have c79b0 : decide (x16_4 < (t374.length : Int)) = false := decide_eq_false c79
                     clear c79
                     replace H := Option.bind_eq_some_iff.mp H
                     obtain ⟨t391, A1040, H⟩ := H
                     replace H : (some t391) = some r := H
                     have A104 := Aside0.mk A1040
                     clear A1040
                     obtain rfl := Option.some.inj H
                     obtain ⟨Ao105, co105, eo105⟩ := Kd.R_slice HO_8.out
                     subst eo105
                     go_wp2_with (first | ((with_reducible refine gate_callee (f := 21) rfl ?_); refine goesL_ (some 188) rfl rfl Try.func21 (by kernel_rfl) rfl #[] rfl (by (try simp only [List.map_toArray, List.map_cons, List.map_nil]); first | done | rfl | (simp only [List.length_drop, List.length_take]; rfl)) ?_; (with_reducible refine (silversidelaw07_awake.calls k4  t391 _ A104.out).mono ?_); rintro e w106 ⟨rfl, hb⟩; refine ⟨_, rfl, ?_⟩; have n0_ := Aside0.mk (Kd.R_below (by (with_reducible repeat (first | apply Kd.R_alloc | apply Kd.R_drewN | apply Kd.R_drew)); exact HO_8.out) hb); have n1_ := Aside0.mk (Kd.R_below (by (with_reducible repeat (first | apply Kd.R_alloc | apply Kd.R_drewN | apply Kd.R_drew)); exact HO_371001.out) hb); have n2_ := Aside0.mk (Kd.R_below (by (with_reducible repeat (first | apply Kd.R_alloc | apply Kd.R_drewN | apply Kd.R_drew)); exact HO_371002.out) hb); have n3_ := Aside0.mk (blk_below (g := gb370) (o := .cells #[.string t362, .slice Ao13 t363.length co13, .slice Ao14 t366.length co14] 24 (0, 0)) (kX BK370.out) hb); have n4_ := Aside0.mk (below_step (by repeat (first | (with_reducible first | exact HB.out | apply lA | apply lN | apply lD | refine lS ?_ GE370.out) | exact HB.out)) hb); clear HO_8; clear HO_371001; clear HO_371002; clear BK370; clear HB; have HO_8 := n0_; have HO_371001 := n1_; have HO_371002 := n2_; have BK370 := n3_; have HB := n4_; clear n0_ n1_ n2_ n3_ n4_; (try clear hb); (try clear hb2); (try clear hk); (try clear hi)))
                     go_ret
                     exact ⟨by first | rfl | (simp [errW_none, errW_some] <;> rfl) | (simp only [← hji3]; first | rfl | (simp [errW_none, errW_some] <;> rfl)) | (simp [*, errW_none, errW_some] <;> rfl), by repeat (first | (with_reducible first | exact HB.out | apply lA | apply lN | apply lD | refine lS ?_ GE370.out) | exact HB.out)⟩
        ·rw [if_neg c23] at H
         exact absurd H (by simp)
       ·rw [if_neg c22] at H
        exact absurd H (by simp)
  rw [if_neg c5] at H
  exact absurd H (by simp)
 rw [if_neg c4] at H
 exact absurd H (by simp)

/-- THE ONE PURE STATEMENT of silversidelaw07_FindSides: yours. -/
def silversidelaw07_FindSides.Pure : Prop := ∀ (a0 : ByteArray) (a1 : ByteArray), a0.size ≤ 140737488351232 → a1.size ≤ 140737488351232 → ∃ k, silversidelaw07_FindSides.f k a0 a1 = some true
theorem silversidelaw07_FindSides.walk (P : silversidelaw07_FindSides.Pure) (a0 : ByteArray) (a1 : ByteArray) (w : World) (w0 : a0.size ≤ 140737488351232) (w1 : a1.size ≤ 140737488351232) :
  Calls Try.prog 12 #[.string a0, .string a1] w fun e w' => e = .returned (.bool true) ∧ Below w.heap.size w w' := by
 obtain ⟨k, h⟩ := P a0 a1 w0 w1
 refine (silversidelaw07_FindSides.calls k a0 a1 true ⟨rfl⟩ w h).mono ?_
 rintro e w' ⟨rfl, hd⟩
 exact ⟨rfl, hd⟩

end Go.Proofs.Ytppelnlocfcgfaa.P
namespace Go.Proofs.Ytppelnlocfcgfaa.P
open Go.RowKit Go.Proofs.YtppelnlocfcgfaaW.PrintWords Go.Proofs.YtppelnlocfcgfaaW.PrintLast Go.Proofs.YtppelnlocfcgfaaW.PrintMore
open Go.Proofs.Fnd
theorem lcp_left {s : List UInt8} {x y z l m : Nat} (hx : LtW (s.length + 1) (sq s x) (sq s y)) (hz : LtW (s.length + 1) (sq s y) (sq s z)) (h : IsLcp s x z l) (h' : IsLcp s x y m) : l ≤ m := by
  apply Decidable.byContradiction
  intro q
  have e1 := h.same m (by omega)
  have d1 := h'.diff
  obtain ⟨a, _, a2, a3⟩ := hx
  have ha : a = m := by
    rcases Nat.lt_trichotomy a m with c | c | c
    · have := h'.same a c; omega
    · exact c
    · exact absurd (a2 m c) d1
  subst ha
  obtain ⟨b, _, b2, b3⟩ := hz
  rcases Nat.lt_trichotomy b a with c | c | c
  · have e2 := h.same b (by omega)
    have e3 := h'.same b c
    omega
  · subst c; omega
  · have := b2 a c; omega
theorem lcp_up (s : List UInt8) {a c : Nat} (h : a < c) (hc : c < s.length) : lcp s ((sufOrd s).getD a 0) ((sufOrd s).getD c 0) ≤ (overL s).getD c 0 := by
  rw [overL_at s c hc, if_neg (by omega)]
  by_cases e : a = c - 1
  · subst e; exact Nat.le_refl _
  · have la := ord_lt s a (by omega)
    have lb := ord_lt s (c - 1) (by omega)
    have lc := ord_lt s c hc
    have ne1 : (sufOrd s).getD a 0 ≠ (sufOrd s).getD c 0 := fun q => by have := ord_inj s (by omega) hc q; omega
    have ne2 : (sufOrd s).getD (c - 1) 0 ≠ (sufOrd s).getD c 0 := fun q => by have := ord_inj s (by omega) hc q; omega
    exact lcp_between (fun q => (ord_up s (a := a) (b := c - 1) (by omega) (by omega)).asymm q) (ord_up s (by omega) hc) (lcp_is s _ _ (by omega) (by omega) ne1) (lcp_is s _ _ (by omega) (by omega) ne2)
theorem lcp_dn (s : List UInt8) {a c : Nat} (h : a < c) (hc : c < s.length) : lcp s ((sufOrd s).getD a 0) ((sufOrd s).getD c 0) ≤ (overL s).getD (a + 1) 0 := by
  rw [overL_at s (a + 1) (by omega), if_neg (by omega), Nat.add_sub_cancel]
  by_cases e : c = a + 1
  · subst e; exact Nat.le_refl _
  · have la := ord_lt s a (by omega)
    have lb := ord_lt s (a + 1) (by omega)
    have lc := ord_lt s c hc
    have ne1 : (sufOrd s).getD a 0 ≠ (sufOrd s).getD c 0 := fun q => by have := ord_inj s (by omega) hc q; omega
    have ne2 : (sufOrd s).getD a 0 ≠ (sufOrd s).getD (a + 1) 0 := fun q => by have := ord_inj s (by omega) (by omega) q; omega
    exact lcp_left (ord_up s (by omega) (by omega)) (ord_up s (by omega) hc) (lcp_is s _ _ (by omega) (by omega) ne1) (lcp_is s _ _ (by omega) (by omega) ne2)
/-- the longest that a place shares with another -/
def mxO (s : List UInt8) (i : Nat) : Nat := max ((overL s).getD (rank s i) 0) ((overL s).getD (rank s i + 1) 0)
theorem overL_len (s : List UInt8) : (overL s).length = s.length := by rw [overL, List.length_map, List.length_range]
theorem mxO_most (s : List UInt8) {i j : Nat} (hi : i < s.length) (hj : j < s.length) (h : i ≠ j) : lcp s i j ≤ mxO s i := by
  have ri := rank_lt s i hi
  have rj := rank_lt s j hj
  have ei := ord_rank s i hi
  have ej := ord_rank s j hj
  unfold mxO
  rcases Nat.lt_trichotomy (rank s i) (rank s j) with c | c | c
  · have := lcp_dn s c rj
    rw [ei, ej] at this
    omega
  · rw [c, ej] at ei; exact absurd ei.symm h
  · have := lcp_up s c ri
    rw [ei, ej, lcp_symm s j i (by omega) (by omega) (fun e => h e.symm)] at this
    omega
theorem mxO_some (s : List UInt8) {i : Nat} (hi : i < s.length) : mxO s i = 0 ∨ ∃ j, j < s.length ∧ j ≠ i ∧ lcp s i j = mxO s i := by
  have ri := rank_lt s i hi
  have ei := ord_rank s i hi
  by_cases h0 : mxO s i = 0
  · exact .inl h0
  · refine .inr ?_
    unfold mxO at h0 ⊢
    by_cases h1 : (overL s).getD (rank s i + 1) 0 ≤ (overL s).getD (rank s i) 0
    · have hr : rank s i ≠ 0 := fun e => by
        rw [e] at h1 h0
        rw [overL_at s 0 (by omega), if_pos rfl] at h1 h0
        omega
      refine ⟨(sufOrd s).getD (rank s i - 1) 0, ord_lt s _ (by omega), fun e => ?_, ?_⟩
      · have := ord_inj s (a := rank s i - 1) (b := rank s i) (by omega) ri (by rw [e, ei]); omega
      · have h2 := overL_at s (rank s i) ri
        rw [if_neg hr, ei] at h2
        rw [lcp_symm s i _ (by omega) (by have := ord_lt s (rank s i - 1) (by omega); omega) (fun e => by have := ord_inj s (a := rank s i - 1) (b := rank s i) (by omega) ri (by rw [← e, ei]); omega), ← h2]
        omega
    · have hr : rank s i + 1 < s.length := by
        apply Decidable.byContradiction
        intro q
        have : (overL s).getD (rank s i + 1) 0 = 0 := by rw [List.getD_eq_getElem?_getD, List.getElem?_eq_none (by rw [overL_len]; omega)]; rfl
        omega
      refine ⟨(sufOrd s).getD (rank s i + 1) 0, ord_lt s _ (by omega), fun e => ?_, ?_⟩
      · have := ord_inj s (a := rank s i + 1) (b := rank s i) (by omega) ri (by rw [e, ei]); omega
      · have h2 := overL_at s (rank s i + 1) hr
        rw [if_neg (by omega), Nat.add_sub_cancel, ei] at h2
        rw [← h2]
        omega
theorem mxO_in (s : List UInt8) {i : Nat} (hi : i < s.length) : i + mxO s i ≤ s.length := by
  rcases mxO_some s hi with h | ⟨j, hj, hne, h⟩
  · omega
  · have := (lcp_is s i j (by omega) (by omega) (fun e => hne e.symm)).inside (by omega) (by omega) (fun e => hne e.symm)
    omega
/-- what Shortest answers -/
def shortA (t : ByteArray) (a : Int) : Int × Int :=
  if a < 0 ∨ (t.size : Int) ≤ a then (0, 2) else if t.size ≤ a.toNat + mxO t.data.toList a.toNat then (0, 6) else ((mxO t.data.toList a.toNat : Int) + 1, 0)
theorem mx_nat (a b : Nat) : mx (a : Int) (b : Int) = ((max a b : Nat) : Int) := by unfold mx; split <;> omega
theorem index_l0 (t : ByteArray) (ht : t.size ≤ 4096) (i : Nat) (hi : i < t.size) : ∀ (d k : Nat), k + d = rank t.data.toList i → Ev (fun K => slices_Index_int_int.l0 K (ordI t) (i : Int) (t.size : Int) (k : Int)) (rank t.data.toList i : Int) := by
  have hl := data_length t
  have h4 := ordI_length t
  have hr := rank_lt t.data.toList i (by omega)
  intro d
  induction d with
  | zero =>
    intro k hk
    have hv := rd_ordI t k (by omega)
    refine Ev.step (f := fun _ => some (rank t.data.toList i : Int)) (fun K => ?_) (Ev.now _)
    conv => lhs; unfold slices_Index_int_int.l0
    rw [if_pos (by omega), if_pos (by omega), if_pos (by omega), hv, if_pos]
    · congr 1; omega
    · rw [show k = rank t.data.toList i by omega, ord_rank _ _ (by omega)]
  | succ d ih =>
    intro k hk
    have hv := rd_ordI t k (by omega)
    refine Ev.step (fun K => ?_) (ih (k + 1) (by omega))
    conv => lhs; unfold slices_Index_int_int.l0
    rw [if_pos (by omega), if_pos (by omega), if_pos (by omega), hv, if_neg, w64 (by omega) (by omega)]
    · rfl
    · intro e
      have := rank_ord t.data.toList k (by omega)
      rw [show (sufOrd t.data.toList).getD k 0 = i by omega] at this
      omega
theorem index_ev (t : ByteArray) (ht : t.size ≤ 4096) (i : Nat) (hi : i < t.size) : Ev (fun K => slices_Index_int_int.f K (ordI t) (i : Int)) (rank t.data.toList i : Int) := by
  refine Ev.congr (fun K => ?_) (index_l0 t ht i hi (rank t.data.toList i) 0 (by omega))
  unfold slices_Index_int_int.f
  rw [ordI_length]; rfl
theorem shortest_in (t : ByteArray) (ht : t.size ≤ 4096) (i : Nat) (hi : i < t.size) : Ev (fun K => find_Index_Shortest.j0 K (i : Int) false t (ordI t) (overI t)) (if t.size ≤ i + mxO t.data.toList i then ((0, 6) : Int × Int) else ((mxO t.data.toList i : Int) + 1, 0)) := by
  have hl := data_length t
  have h4 := ordI_length t
  have h5 := overI_length t
  have hr := rank_lt t.data.toList i (by omega)
  have hin := mxO_in t.data.toList (i := i) (by omega)
  have hv := rd_overI t (rank t.data.toList i) (by omega)
  refine Ev.step (fun K => by rw [find_Index_Shortest.j0, if_neg (by simp)]) ?_
  refine Ev.bind (index_ev t ht i hi) ?_
  rw [if_pos (by omega), if_pos (by omega), w64 (x := (rank t.data.toList i : Int) + 1) (by omega) (by omega)]
  have e2 : ((rank t.data.toList i : Nat) : Int) + 1 = ((rank t.data.toList i + 1 : Nat) : Int) := by omega
  by_cases h1 : rank t.data.toList i + 1 < t.size
  · have hv2 := rd_overI t (rank t.data.toList i + 1) h1
    rw [e2, if_pos (by omega), if_pos (by omega), if_pos (by omega), hv, hv2, mx_nat]
    unfold mxO at hin ⊢
    rw [w64 (x := (i : Int) + _) (by omega) (by omega), w64 (by omega) (by omega)]
    by_cases h : t.size ≤ i + max ((overL t.data.toList).getD (rank t.data.toList i) 0) ((overL t.data.toList).getD (rank t.data.toList i + 1) 0)
    · rw [if_pos h, if_pos (by omega)]; exact Ev.now _
    · rw [if_neg h, if_neg (by omega)]; exact Ev.now _
  · have hz : (overL t.data.toList).getD (rank t.data.toList i + 1) 0 = 0 := by rw [List.getD_eq_getElem?_getD, List.getElem?_eq_none (by rw [overL_len]; omega)]; rfl
    rw [e2, if_neg (by omega), hv]
    unfold mxO at hin ⊢
    rw [hz, Nat.max_zero] at hin ⊢
    rw [w64 (x := (i : Int) + _) (by omega) (by omega), w64 (by omega) (by omega)]
    by_cases h : t.size ≤ i + (overL t.data.toList).getD (rank t.data.toList i) 0
    · rw [if_pos h, if_pos (by omega)]; exact Ev.now _
    · rw [if_neg h, if_neg (by omega)]; exact Ev.now _
theorem shortest_ev (t : ByteArray) (ht : t.size ≤ 4096) (a : Int) : Ev (fun K => find_Index_Shortest.f K t (ordI t) (overI t) a) (shortA t a) := by
  unfold find_Index_Shortest.f shortA
  by_cases h1 : a < 0
  · rw [if_pos (.inl h1)]
    refine ev_pos h1 ?_
    refine Ev.step (f := fun _ => some _) (fun K => ?_) (Ev.now _)
    rw [find_Index_Shortest.j0, if_pos rfl]
  · refine ev_neg h1 ?_
    by_cases h2 : (t.size : Int) ≤ a
    · rw [if_pos (.inr h2), decide_eq_true h2]
      refine Ev.step (f := fun _ => some _) (fun K => ?_) (Ev.now _)
      rw [find_Index_Shortest.j0, if_pos rfl]
    · rw [if_neg (by omega), decide_eq_false h2]
      obtain ⟨i, rfl⟩ : ∃ i : Nat, a = (i : Int) := ⟨a.toNat, by omega⟩
      rw [Int.toNat_natCast]
      exact shortest_in t ht i (by omega)
/-- the most that a place shares with the first places -/
structure Most (t : ByteArray) (i k m : Nat) : Prop where
  le : ∀ j, j < k → j ≠ i → lcp t.data.toList i j ≤ m
  is : m = 0 ∨ ∃ j, j < k ∧ j ≠ i ∧ lcp t.data.toList i j = m
theorem Most.all {t : ByteArray} {i m : Nat} (hi : i < t.size) (h : Most t i t.size m) : m = mxO t.data.toList i := by
  have hl := data_length t
  have h1 : m ≤ mxO t.data.toList i := by
    rcases h.is with h | ⟨j, hj, hne, h⟩
    · omega
    · rw [← h]; exact mxO_most _ (by omega) (by omega) (fun e => hne e.symm)
  have h2 : mxO t.data.toList i ≤ m := by
    rcases mxO_some t.data.toList (i := i) (by omega) with h3 | ⟨j, hj, hne, h3⟩
    · omega
    · rw [← h3]; exact h.le j (by omega) hne
  omega
theorem cpl_at (t : ByteArray) {i j : Nat} (hi : i < t.size) (hj : j < t.size) (h : i ≠ j) : cpl (t.data.toList.drop i) (t.data.toList.drop j) = lcp t.data.toList i j := by
  have hl := data_length t
  exact cpl_lcp (lcp_is t.data.toList i j (by omega) (by omega) h)
theorem refshort_l0 (t : ByteArray) (ht : t.size ≤ 4096) (i : Nat) (hi : i < t.size) : ∀ (d k m : Nat), k + d = t.size → Most t i k m → Ev (fun K => silversideref07_Shortest.l0 K t (i : Int) (m : Int) (k : Int)) (if t.size ≤ i + mxO t.data.toList i then ((0, 6) : Int × Int) else ((mxO t.data.toList i : Int) + 1, 0)) := by
  have hl := data_length t
  have hin := mxO_in t.data.toList (i := i) (by omega)
  intro d
  induction d with
  | zero =>
    intro k m hk hm
    obtain rfl : k = t.size := by omega
    have e := hm.all hi
    subst e
    refine Ev.step (f := fun _ => some _) (fun K => ?_) (Ev.now _)
    conv => lhs; unfold silversideref07_Shortest.l0
    rw [if_neg (by omega), w64 (x := (i : Int) + _) (by omega) (by omega), w64 (by omega) (by omega)]
    by_cases h : t.size ≤ i + mxO t.data.toList i
    · rw [if_pos h, if_pos (by omega)]
    · rw [if_neg h, if_neg (by omega)]
  | succ d ih =>
    intro k m hk hm
    by_cases e : k = i
    · subst e
      have h := ih (k + 1) m (by omega) ⟨fun j hj hne => hm.le j (by omega) hne, by
        rcases hm.is with h | ⟨j, hj, hne, h⟩
        · exact .inl h
        · exact .inr ⟨j, by omega, hne, h⟩⟩
      refine Ev.step (fun K => ?_) h
      conv => lhs; unfold silversideref07_Shortest.l0
      rw [if_pos (by omega), if_pos rfl, w64 (by omega) (by omega)]
      rfl
    · have hc := common_ev t t (by omega) (by omega) i k (by omega) (by omega)
      rw [cpl_at t hi (by omega) (fun q => e q.symm)] at hc
      have h := ih (k + 1) (max m (lcp t.data.toList i k)) (by omega) ⟨fun j hj hne => by
        by_cases e2 : j = k
        · subst e2; omega
        · have := hm.le j (by omega) hne; omega, by
        by_cases e2 : m ≤ lcp t.data.toList i k
        · exact .inr ⟨k, by omega, e, by omega⟩
        · rcases hm.is with h | ⟨j, hj, hne, h⟩
          · omega
          · exact .inr ⟨j, by omega, hne, by omega⟩⟩
      rw [← mx_nat] at h
      refine Ev.step (fun K => ?_) (Ev.bind hc h (f := fun K x => silversideref07_Shortest.l0 K t (i : Int) (mx (m : Int) x) ((k + 1 : Nat) : Int)))
      conv => lhs; unfold silversideref07_Shortest.l0
      rw [if_pos (by omega), if_neg (by omega), w64 (by omega) (by omega)]
      rfl
theorem refshort_ev (t : ByteArray) (ht : t.size ≤ 4096) (a : Int) : Ev (fun K => silversideref07_Shortest.f K t a) (shortA t a) := by
  unfold silversideref07_Shortest.f shortA
  by_cases h1 : a < 0
  · rw [if_pos (.inl h1)]
    refine ev_pos h1 ?_
    refine Ev.step (f := fun _ => some _) (fun K => ?_) (Ev.now _)
    rw [silversideref07_Shortest.j0, if_pos rfl]
  · refine ev_neg h1 ?_
    by_cases h2 : (t.size : Int) ≤ a
    · rw [if_pos (.inr h2), decide_eq_true h2]
      refine Ev.step (f := fun _ => some _) (fun K => ?_) (Ev.now _)
      rw [silversideref07_Shortest.j0, if_pos rfl]
    · rw [if_neg (by omega), decide_eq_false h2]
      obtain ⟨i, rfl⟩ : ∃ i : Nat, a = (i : Int) := ⟨a.toNat, by omega⟩
      rw [Int.toNat_natCast]
      refine Ev.step (fun K => ?_) (refshort_l0 t ht i (by omega) t.size 0 0 (by omega) ⟨fun j hj => by omega, .inl rfl⟩)
      rw [silversideref07_Shortest.j0, if_neg (by simp)]
      rfl
theorem txt_asymm {x y : List UInt8} (h : x < y) (h' : y < x) : False := by
  obtain ⟨m, h1, h2⟩ := (lt_iff x y).1 h
  obtain ⟨k, h3, h4⟩ := (lt_iff y x).1 h'
  rcases Nat.lt_trichotomy m k with c | c | c
  · have := h3 m c; omega
  · subst c; omega
  · have := h1 k c; omega
theorem txt_tri (x y : List UInt8) : x < y ∨ x = y ∨ y < x := by
  rcases tri (x.length + y.length + 1) (ch x) (ch y) with ⟨m, _, h2, h3⟩ | h | ⟨m, _, h2, h3⟩
  · exact .inl ((lt_iff x y).2 ⟨m, h2, h3⟩)
  · refine .inr (.inl ((eq_iff_ch x y).2 fun t => ?_))
    by_cases ht : t < x.length + y.length + 1
    · exact h t ht
    · rw [ch_ge x t (by omega), ch_ge y t (by omega)]
  · exact .inr (.inr ((lt_iff y x).2 ⟨m, h2, h3⟩))
theorem txt_irrefl (x : List UInt8) : ¬ x < x := fun h => txt_asymm h h
theorem countP_add {α : Type} (l : List α) (a b c : α → Bool) (h : ∀ i, i ∈ l → (c i = true ↔ (a i = true ∨ b i = true)) ∧ ¬ (a i = true ∧ b i = true)) : l.countP c = l.countP a + l.countP b := by
  induction l with
  | nil => rfl
  | cons x l ih =>
    have := ih (fun i hi => h i (List.mem_cons_of_mem _ hi))
    have hx := h x (List.mem_cons_self ..)
    rw [List.countP_cons, List.countP_cons, List.countP_cons, this]
    cases ha : a x <;> cases hb : b x <;> cases hc : c x <;> simp [ha, hb, hc] at hx ⊢ <;> omega
/-- how often a pattern occurs -/
def occN (s p : List UInt8) : Nat := (List.range s.length).countP fun i => decide (beginning s p.length i = p)
theorem upto_below (s p : List UInt8) : upto s p = below s p + occN s p := by
  unfold upto below occN
  refine countP_add _ _ _ _ fun i _ => ?_
  simp only [Bool.not_eq_true', decide_eq_false_iff_not, decide_eq_true_eq]
  constructor
  · constructor
    · intro h
      rcases txt_tri (beginning s p.length i) p with q | q | q
      · exact .inl q
      · exact .inr q
      · exact absurd q h
    · rintro (h | h)
      · exact fun q => txt_asymm h q
      · rw [h]; exact txt_irrefl p
  · rintro ⟨h1, h2⟩
    rw [h2] at h1
    exact txt_irrefl p h1
theorem count_occ (t p : ByteArray) (ht : t.size ≤ 4096) (hp : p.size ≤ 140737488351232) : find_Index_Count.f t (ordI t) (overI t) p = some (occN t.data.toList p.data.toList : Int) := by
  rw [count_is t p ht hp, upto_below]
  congr 1
  push_cast
  omega
theorem cnt0 (P : Nat → Bool) : ∀ n, (∀ i, i < n → P i = false) → (List.range n).countP P = 0
  | 0, _ => rfl
  | n + 1, h => by rw [List.range_succ, List.countP_append, cnt0 P n (fun i hi => h i (by omega))]; simp [h n (by omega)]
theorem cnt_pos (P : Nat → Bool) : ∀ n, (∃ i, i < n ∧ P i = true) → 1 ≤ (List.range n).countP P
  | 0, ⟨i, h, _⟩ => by omega
  | n + 1, ⟨i, h, hp⟩ => by
    rw [List.range_succ, List.countP_append]
    by_cases e : i = n
    · subst e; simp [hp]
    · have := cnt_pos P n ⟨i, by omega, hp⟩; omega
theorem cnt1 (P : Nat → Bool) : ∀ n a, a < n → P a = true → (∀ i, i < n → i ≠ a → P i = false) → (List.range n).countP P = 1
  | 0, a, h, _, _ => by omega
  | n + 1, a, h, hp, hn => by
    rw [List.range_succ, List.countP_append]
    by_cases e : a = n
    · subst e; rw [cnt0 P a (fun i hi => hn i (by omega) (by omega))]; simp [hp]
    · rw [cnt1 P n a (by omega) hp (fun i hi hne => hn i (by omega) hne)]; simp [hn n (by omega) (fun q => e q.symm)]
theorem cnt2 (P : Nat → Bool) : ∀ n a b, a < b → b < n → P a = true → P b = true → 2 ≤ (List.range n).countP P
  | 0, a, b, _, h, _, _ => by omega
  | n + 1, a, b, hab, h, hp, hq => by
    rw [List.range_succ, List.countP_append]
    by_cases e : b = n
    · subst e; have := cnt_pos P b ⟨a, hab, hp⟩; have e1 : List.countP P [b] = 1 := by simp [hq]
      omega
    · have := cnt2 P n a b hab (by omega) hp hq; omega
theorem extract_list (t : ByteArray) (a b : Nat) : (t.extract a b).data.toList = (t.data.toList.drop a).take (b - a) := by
  rw [ByteArray.data_extract, Array.toList_extract, List.extract_eq_take_drop]
theorem begin_len (s : List UInt8) (a L : Nat) (h : a + L ≤ s.length) : ((s.drop a).take L).length = L := by
  rw [List.length_take, List.length_drop]; omega
theorem ch_begin (s : List UInt8) (L i t : Nat) : ch ((s.drop i).take L) t = if t < L then sq s i t else 0 := by rw [ch_take, ch_drop]
/-- where a piece occurs -/
theorem begin_eq (s : List UInt8) {a i L : Nat} (ha : a < s.length) (hi : i < s.length) (hL : a + L ≤ s.length) : beginning s L i = (s.drop a).take L ↔ i = a ∨ L ≤ lcp s a i := by
  unfold beginning
  constructor
  · intro h
    by_cases e : i = a
    · exact .inl e
    · refine .inr ?_
      apply Decidable.byContradiction
      intro q
      have hl := lcp_is s a i (by omega) (by omega) (fun q => e q.symm)
      have h1 := (eq_iff_ch _ _).1 h (lcp s a i)
      rw [ch_begin, ch_begin, if_pos (by omega), if_pos (by omega)] at h1
      exact hl.diff h1.symm
  · rintro (h | h)
    · rw [h]
    · by_cases e : i = a
      · rw [e]
      · have hl := lcp_is s a i (by omega) (by omega) (fun q => e q.symm)
        refine (eq_iff_ch _ _).2 fun t => ?_
        rw [ch_begin, ch_begin]
        split
        · exact (hl.same t (by omega)).symm
        · rfl
theorem occ_one (s : List UInt8) {a L : Nat} (ha : a < s.length) (hL : a + L ≤ s.length) (h : mxO s a < L) : occN s ((s.drop a).take L) = 1 := by
  unfold occN
  rw [begin_len s a L hL]
  refine cnt1 _ _ a ha ?_ fun i hi hne => ?_
  · rw [decide_eq_true_eq, begin_eq s ha ha hL]; exact .inl rfl
  · rw [decide_eq_false_iff_not, begin_eq s ha hi hL]
    have := mxO_most s ha hi (fun e => hne e.symm)
    omega
theorem occ_two (s : List UInt8) {a L : Nat} (ha : a < s.length) (hL : a + L ≤ s.length) (h0 : 0 < L) (h : L ≤ mxO s a) : 2 ≤ occN s ((s.drop a).take L) := by
  unfold occN
  rw [begin_len s a L hL]
  rcases mxO_some s ha with h1 | ⟨j, hj, hne, h1⟩
  · omega
  · have pa : decide (beginning s L a = (s.drop a).take L) = true := by rw [decide_eq_true_eq, begin_eq s ha ha hL]; exact .inl rfl
    have pj : decide (beginning s L j = (s.drop a).take L) = true := by rw [decide_eq_true_eq, begin_eq s ha hj hL]; exact .inr (by omega)
    rcases Nat.lt_or_gt_of_ne hne with c | c
    · exact cnt2 _ _ j a c ha pj pa
    · exact cnt2 _ _ a j c hj pa pj
theorem mod_is (a : Int) (n : Nat) (h0 : 0 < n) (hn : n ≤ 1000000) : ∃ r : Nat, r < n ∧ silversidelaw07_mod.f a (n : Int) = some (r : Int) := by
  unfold silversidelaw07_mod.f
  have e1 : IntKind.u64.wrap (n : Int) = (n : Int) := by
    unfold IntKind.wrap
    simp [IntKind.bits, IntKind.signed]
    omega
  rw [e1, if_neg (by omega)]
  have h1 : 0 ≤ IntKind.u64.wrap a := by
    unfold IntKind.wrap
    simp [IntKind.bits, IntKind.signed]
    omega
  rw [Int.tmod_eq_emod_of_nonneg h1]
  generalize IntKind.u64.wrap a = x at *
  have h2 := Int.emod_nonneg x (show (n : Int) ≠ 0 by omega)
  have h3 := Int.emod_lt_of_pos x (show (0 : Int) < (n : Int) by omega)
  refine ⟨(x % (n : Int)).toNat, by omega, ?_⟩
  rw [w64 (by omega) (by omega)]
  congr 1
  omega
end Go.Proofs.Ytppelnlocfcgfaa.P
