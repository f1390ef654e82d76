/- Proved here: what functions that the law reaches compute, and plain laws of that. No conditions but those that the theorems state. Put together by a program; a part of it was printed by a program of the session's, by way of the kit's printer (wip/printplus.py, wip/mend*.py). -/
import Derived.Test.YtppelnlocfcgfaaCFindBoth1
import Derived.Test.YtppelnlocfcgfaaB1
import Derived.Test.YtppelnlocfcgfaaB2
import Derived.Test.YtppelnlocfcgfaaB3
import Derived.Test.YtppelnlocfcgfaaCFindBoth2
import Derived.Test.YtppelnlocfcgfaaB4
set_option linter.unusedVariables false
set_option linter.unusedSimpArgs false
namespace Go.Proofs.Ytppelnlocfcgfaa.P
open Go.RowKit Go.Proofs.YtppelnlocfcgfaaW.PrintWords Go.Proofs.YtppelnlocfcgfaaW.PrintLast Go.Proofs.YtppelnlocfcgfaaW.PrintMore
attribute [local go_sem] max2_int min2_int max_two min_two max_three min_three max_four min_four   -- for this text's walks alone

/-! ### silversidelaw07_FindBoth: function 14 -/
mutual
def silversidelaw07_FindBoth.j0 : Nat → ByteArray → Int → Int → Int → Bool → ByteArray → List Int → List Int → ByteArray → List Int → List Int → Option (Bool)
 | 0, _, _, _, _, _, _, _, _, _, _, _ => none
 | k + 1, x0, x5, x6, x7, x104, x448000, x448001, x448002, x457000, x457001, x457002 => if x104 = true then (some false) else (if x5 = 0 then (silversidelaw07_FindBoth.l0 k x0 x6 x7 0 x457000 x457001 x457002) else (if 0 ≤ x6 then (if x6 ≤ (wrap64 (x6 + x5)) then (if (wrap64 (x6 + x5)) ≤ (x0.size : Int) then ((find_Index_Find.f x448000 x448001 x448002 (x0.extract (x6 : Int).toNat ((wrap64 (x6 + x5)) : Int).toNat)).bind fun t459 => ((find_Index_Find.f x457000 x457001 x457002 (x0.extract (x6 : Int).toNat ((wrap64 (x6 + x5)) : Int).toNat)).bind fun t462 => (if (t459.length : Int) = 0 then (silversidelaw07_FindBoth.j2 k x0 x5 x6 true x457000 x457001 x457002) else (if 0 < (t459.length : Int) then (if (rd t459 0) = x6 then (if (t462.length : Int) = 0 then (silversidelaw07_FindBoth.j2 k x0 x5 x6 true x457000 x457001 x457002) else (if 0 < (t462.length : Int) then (silversidelaw07_FindBoth.j2 k x0 x5 x6 ((rd t462 0) != x7) x457000 x457001 x457002) else (none))) else (silversidelaw07_FindBoth.j2 k x0 x5 x6 true x457000 x457001 x457002)) else (none))))) else (none)) else (none)) else (none)))
def silversidelaw07_FindBoth.l0 : Nat → ByteArray → Int → Int → Int → ByteArray → List Int → List Int → Option (Bool)
 | 0, _, _, _, _, _, _, _ => none
 | k + 1, x0, x6, x7, x17, x457000, x457001, x457002 => if x17 < (x0.size : Int) then (if 0 ≤ x17 then (if x17 ≤ (wrap64 (x17 + 1)) then (if (wrap64 (x17 + 1)) ≤ (x0.size : Int) then ((find_Index_Count.f x457000 x457001 x457002 (x0.extract (x17 : Int).toNat ((wrap64 (x17 + 1)) : Int).toNat)).bind fun t457 => (if t457 > 0 then (some false) else (silversidelaw07_FindBoth.l0 k x0 x6 x7 (wrap64 (x17 + 1)) x457000 x457001 x457002))) else (none)) else (none)) else (none)) else (if x6 = 0 then (if x7 = 0 then ((silversidelaw07_awake.f k).bind fun t458 => (some t458)) else (some false)) else (some false))
def silversidelaw07_FindBoth.j2 : Nat → ByteArray → Int → Int → Bool → ByteArray → List Int → List Int → Option (Bool)
 | 0, _, _, _, _, _, _, _ => none
 | k + 1, x0, x5, x6, x163, x457000, x457001, x457002 => if x163 = true then (some false) else (silversidelaw07_FindBoth.l1 k x0 x5 x6 0 x457000 x457001 x457002)
def silversidelaw07_FindBoth.l1 : Nat → ByteArray → Int → Int → Int → ByteArray → List Int → List Int → Option (Bool)
 | 0, _, _, _, _, _, _, _ => none
 | k + 1, x0, x5, x6, x21, x457000, x457001, x457002 => if (wrap64 (x21 + x5)) < (x0.size : Int) then (if 0 ≤ x21 then (if x21 ≤ (wrap64 ((wrap64 (x21 + x5)) + 1)) then (if (wrap64 ((wrap64 (x21 + x5)) + 1)) ≤ (x0.size : Int) then ((find_Index_Count.f x457000 x457001 x457002 (x0.extract (x21 : Int).toNat ((wrap64 ((wrap64 (x21 + x5)) + 1)) : Int).toNat)).bind fun t468 => (if t468 > 0 then (some false) else (if x21 < x6 then (if x21 ≤ (wrap64 (x21 + x5)) then (if (wrap64 (x21 + x5)) ≤ (x0.size : Int) then ((find_Index_Count.f x457000 x457001 x457002 (x0.extract (x21 : Int).toNat ((wrap64 (x21 + x5)) : Int).toNat)).bind fun t469 => (if t469 > 0 then (some false) else (silversidelaw07_FindBoth.l1 k x0 x5 x6 (wrap64 (x21 + 1)) x457000 x457001 x457002))) else (none)) else (none)) else (silversidelaw07_FindBoth.l1 k x0 x5 x6 (wrap64 (x21 + 1)) x457000 x457001 x457002)))) else (none)) else (none)) else (none)) else ((silversidelaw07_awake.f k).bind fun t467 => (some t467))
end
def silversidelaw07_FindBoth.f (k : Nat) (a0 : ByteArray) (a1 : ByteArray) : Option (Bool) := if 0 ≤ (mn (a0.size : Int) 300) then (if (mn (a0.size : Int) 300) ≤ (a0.size : Int) then (if 0 ≤ (mn (a1.size : Int) 300) then (if (mn (a1.size : Int) 300) ≤ (a1.size : Int) then ((find_Common.f k (a0.extract 0 ((mn (a0.size : Int) 300) : Int).toNat) (a1.extract 0 ((mn (a1.size : Int) 300) : Int).toNat)).bind fun bt431 => ((find_Common.f k (a1.extract 0 ((mn (a1.size : Int) 300) : Int).toNat) (a0.extract 0 ((mn (a0.size : Int) 300) : Int).toNat)).bind fun bt435 => ((find_New.f k (a0.extract 0 ((mn (a0.size : Int) 300) : Int).toNat)).bind fun bt439 => ((find_New.f k (a1.extract 0 ((mn (a1.size : Int) 300) : Int).toNat)).bind fun bt448 => (if bt431.2.2.2 = 0 then (if bt435.2.2.2 = 0 then (if bt439.2.2.2 = 0 then (if bt448.2.2.2 = 0 then (if bt431.1 = bt435.1 then (if bt431.1 < 0 then (silversidelaw07_FindBoth.j0 k (a0.extract 0 ((mn (a0.size : Int) 300) : Int).toNat) bt431.1 bt431.2.1 bt431.2.2.1 true bt439.1 bt439.2.1 bt439.2.2.1 bt448.1 bt448.2.1 bt448.2.2.1) else (if bt431.2.1 < 0 then (silversidelaw07_FindBoth.j0 k (a0.extract 0 ((mn (a0.size : Int) 300) : Int).toNat) bt431.1 bt431.2.1 bt431.2.2.1 true bt439.1 bt439.2.1 bt439.2.2.1 bt448.1 bt448.2.1 bt448.2.2.1) else (if bt431.2.2.1 < 0 then (silversidelaw07_FindBoth.j0 k (a0.extract 0 ((mn (a0.size : Int) 300) : Int).toNat) bt431.1 bt431.2.1 bt431.2.2.1 true bt439.1 bt439.2.1 bt439.2.2.1 bt448.1 bt448.2.1 bt448.2.2.1) else (if (wrap64 (bt431.2.1 + bt431.1)) > ((a0.extract 0 ((mn (a0.size : Int) 300) : Int).toNat).size : Int) then (silversidelaw07_FindBoth.j0 k (a0.extract 0 ((mn (a0.size : Int) 300) : Int).toNat) bt431.1 bt431.2.1 bt431.2.2.1 true bt439.1 bt439.2.1 bt439.2.2.1 bt448.1 bt448.2.1 bt448.2.2.1) else (silversidelaw07_FindBoth.j0 k (a0.extract 0 ((mn (a0.size : Int) 300) : Int).toNat) bt431.1 bt431.2.1 bt431.2.2.1 (decide ((wrap64 (bt431.2.2.1 + bt431.1)) > ((a1.extract 0 ((mn (a1.size : Int) 300) : Int).toNat).size : Int))) bt439.1 bt439.2.1 bt439.2.2.1 bt448.1 bt448.2.1 bt448.2.2.1))))) else (silversidelaw07_FindBoth.j0 k (a0.extract 0 ((mn (a0.size : Int) 300) : Int).toNat) bt431.1 bt431.2.1 bt431.2.2.1 true bt439.1 bt439.2.1 bt439.2.2.1 bt448.1 bt448.2.1 bt448.2.2.1)) else (silversidelaw07_FindBoth.j0 k (a0.extract 0 ((mn (a0.size : Int) 300) : Int).toNat) bt431.1 bt431.2.1 bt431.2.2.1 true bt439.1 bt439.2.1 bt439.2.2.1 bt448.1 bt448.2.1 bt448.2.2.1)) else (silversidelaw07_FindBoth.j0 k (a0.extract 0 ((mn (a0.size : Int) 300) : Int).toNat) bt431.1 bt431.2.1 bt431.2.2.1 true bt439.1 bt439.2.1 bt439.2.2.1 bt448.1 bt448.2.1 bt448.2.2.1)) else (silversidelaw07_FindBoth.j0 k (a0.extract 0 ((mn (a0.size : Int) 300) : Int).toNat) bt431.1 bt431.2.1 bt431.2.2.1 true bt439.1 bt439.2.1 bt439.2.2.1 bt448.1 bt448.2.1 bt448.2.2.1)) else (silversidelaw07_FindBoth.j0 k (a0.extract 0 ((mn (a0.size : Int) 300) : Int).toNat) bt431.1 bt431.2.1 bt431.2.2.1 true bt439.1 bt439.2.1 bt439.2.2.1 bt448.1 bt448.2.1 bt448.2.2.1)))))) else (none)) else (none)) else (none)) else (none)
theorem silversidelaw07_FindBoth.mono_l : ∀ k, (∀ y0 y1 y2 y3 y4 y5 y6 y7 y8 y9 y10, LeO (silversidelaw07_FindBoth.j0 k y0 y1 y2 y3 y4 y5 y6 y7 y8 y9 y10) (silversidelaw07_FindBoth.j0 (k + 1) y0 y1 y2 y3 y4 y5 y6 y7 y8 y9 y10)) ∧ (∀ y0 y1 y2 y3 y4 y5 y6, LeO (silversidelaw07_FindBoth.l0 k y0 y1 y2 y3 y4 y5 y6) (silversidelaw07_FindBoth.l0 (k + 1) y0 y1 y2 y3 y4 y5 y6)) ∧ (∀ y0 y1 y2 y3 y4 y5 y6, LeO (silversidelaw07_FindBoth.j2 k y0 y1 y2 y3 y4 y5 y6) (silversidelaw07_FindBoth.j2 (k + 1) y0 y1 y2 y3 y4 y5 y6)) ∧ (∀ y0 y1 y2 y3 y4 y5 y6, LeO (silversidelaw07_FindBoth.l1 k y0 y1 y2 y3 y4 y5 y6) (silversidelaw07_FindBoth.l1 (k + 1) y0 y1 y2 y3 y4 y5 y6))
 | 0 => ⟨fun _ _ _ _ _ _ _ _ _ _ _ r h => by simp [silversidelaw07_FindBoth.j0] at h, fun _ _ _ _ _ _ _ r h => by simp [silversidelaw07_FindBoth.l0] at h, fun _ _ _ _ _ _ _ r h => by simp [silversidelaw07_FindBoth.j2] at h, fun _ _ _ _ _ _ _ r h => by simp [silversidelaw07_FindBoth.l1] at h⟩
 | k + 1 => by
  obtain ⟨ih0, ih1, ih2, ih3⟩ := silversidelaw07_FindBoth.mono_l k
  refine ⟨?_, ?_, ?_, ?_⟩
  ·intro y0 y1 y2 y3 y4 y5 y6 y7 y8 y9 y10
   unfold silversidelaw07_FindBoth.j0
   repeat' first
   | (with_reducible exact ih0 _ _ _ _ _ _ _ _ _ _ _)
   | (with_reducible exact ih1 _ _ _ _ _ _ _)
   | (with_reducible exact ih2 _ _ _ _ _ _ _)
   | (with_reducible exact ih3 _ _ _ _ _ _ _)
   | (with_reducible exact find_Common.mono _ _ _)
   | (with_reducible exact find_New.mono _ _)
   | (with_reducible exact silversidelaw07_awake.mono _)
   | (with_reducible exact LeO.refl _)
   | (with_reducible exact LeO.none _)
   | (with_reducible refine LeO.ite ?_ ?_)
   | (with_reducible refine LeO.bind ?_ (fun _ => ?_))
   | exact ih0 _ _ _ _ _ _ _ _ _ _ _
   | exact ih1 _ _ _ _ _ _ _
   | exact ih2 _ _ _ _ _ _ _
   | exact ih3 _ _ _ _ _ _ _
   | exact find_Common.mono _ _ _
   | exact find_New.mono _ _
   | exact silversidelaw07_awake.mono _
   | exact LeO.none _
   | refine LeO.ite ?_ ?_
   | refine LeO.bind ?_ (fun _ => ?_)
  ·intro y0 y1 y2 y3 y4 y5 y6
   unfold silversidelaw07_FindBoth.l0
   repeat' first
   | (with_reducible exact ih0 _ _ _ _ _ _ _ _ _ _ _)
   | (with_reducible exact ih1 _ _ _ _ _ _ _)
   | (with_reducible exact ih2 _ _ _ _ _ _ _)
   | (with_reducible exact ih3 _ _ _ _ _ _ _)
   | (with_reducible exact find_Common.mono _ _ _)
   | (with_reducible exact find_New.mono _ _)
   | (with_reducible exact silversidelaw07_awake.mono _)
   | (with_reducible exact LeO.refl _)
   | (with_reducible exact LeO.none _)
   | (with_reducible refine LeO.ite ?_ ?_)
   | (with_reducible refine LeO.bind ?_ (fun _ => ?_))
   | exact ih0 _ _ _ _ _ _ _ _ _ _ _
   | exact ih1 _ _ _ _ _ _ _
   | exact ih2 _ _ _ _ _ _ _
   | exact ih3 _ _ _ _ _ _ _
   | exact find_Common.mono _ _ _
   | exact find_New.mono _ _
   | exact silversidelaw07_awake.mono _
   | exact LeO.none _
   | refine LeO.ite ?_ ?_
   | refine LeO.bind ?_ (fun _ => ?_)
  ·intro y0 y1 y2 y3 y4 y5 y6
   unfold silversidelaw07_FindBoth.j2
   repeat' first
   | (with_reducible exact ih0 _ _ _ _ _ _ _ _ _ _ _)
   | (with_reducible exact ih1 _ _ _ _ _ _ _)
   | (with_reducible exact ih2 _ _ _ _ _ _ _)
   | (with_reducible exact ih3 _ _ _ _ _ _ _)
   | (with_reducible exact find_Common.mono _ _ _)
   | (with_reducible exact find_New.mono _ _)
   | (with_reducible exact silversidelaw07_awake.mono _)
   | (with_reducible exact LeO.refl _)
   | (with_reducible exact LeO.none _)
   | (with_reducible refine LeO.ite ?_ ?_)
   | (with_reducible refine LeO.bind ?_ (fun _ => ?_))
   | exact ih0 _ _ _ _ _ _ _ _ _ _ _
   | exact ih1 _ _ _ _ _ _ _
   | exact ih2 _ _ _ _ _ _ _
   | exact ih3 _ _ _ _ _ _ _
   | exact find_Common.mono _ _ _
   | exact find_New.mono _ _
   | exact silversidelaw07_awake.mono _
   | exact LeO.none _
   | refine LeO.ite ?_ ?_
   | refine LeO.bind ?_ (fun _ => ?_)
  ·intro y0 y1 y2 y3 y4 y5 y6
   unfold silversidelaw07_FindBoth.l1
   repeat' first
   | (with_reducible exact ih0 _ _ _ _ _ _ _ _ _ _ _)
   | (with_reducible exact ih1 _ _ _ _ _ _ _)
   | (with_reducible exact ih2 _ _ _ _ _ _ _)
   | (with_reducible exact ih3 _ _ _ _ _ _ _)
   | (with_reducible exact find_Common.mono _ _ _)
   | (with_reducible exact find_New.mono _ _)
   | (with_reducible exact silversidelaw07_awake.mono _)
   | (with_reducible exact LeO.refl _)
   | (with_reducible exact LeO.none _)
   | (with_reducible refine LeO.ite ?_ ?_)
   | (with_reducible refine LeO.bind ?_ (fun _ => ?_))
   | exact ih0 _ _ _ _ _ _ _ _ _ _ _
   | exact ih1 _ _ _ _ _ _ _
   | exact ih2 _ _ _ _ _ _ _
   | exact ih3 _ _ _ _ _ _ _
   | exact find_Common.mono _ _ _
   | exact find_New.mono _ _
   | exact silversidelaw07_awake.mono _
   | exact LeO.none _
   | refine LeO.ite ?_ ?_
   | refine LeO.bind ?_ (fun _ => ?_)
theorem silversidelaw07_FindBoth.mono : ∀ a0 a1 k, LeO (silversidelaw07_FindBoth.f k a0 a1) (silversidelaw07_FindBoth.f (k + 1) a0 a1) := by
 intro a0 a1 k
 obtain ⟨ih0, ih1, ih2, ih3⟩ := silversidelaw07_FindBoth.mono_l k
 unfold silversidelaw07_FindBoth.f
 repeat' first
   | (with_reducible exact ih0 _ _ _ _ _ _ _ _ _ _ _)
   | (with_reducible exact ih1 _ _ _ _ _ _ _)
   | (with_reducible exact ih2 _ _ _ _ _ _ _)
   | (with_reducible exact ih3 _ _ _ _ _ _ _)
   | (with_reducible exact find_Common.mono _ _ _)
   | (with_reducible exact find_New.mono _ _)
   | (with_reducible exact silversidelaw07_awake.mono _)
   | (with_reducible exact LeO.refl _)
   | (with_reducible exact LeO.none _)
   | (with_reducible refine LeO.ite ?_ ?_)
   | (with_reducible refine LeO.bind ?_ (fun _ => ?_))
   | exact ih0 _ _ _ _ _ _ _ _ _ _ _
   | exact ih1 _ _ _ _ _ _ _
   | exact ih2 _ _ _ _ _ _ _
   | exact ih3 _ _ _ _ _ _ _
   | exact find_Common.mono _ _ _
   | exact find_New.mono _ _
   | exact silversidelaw07_awake.mono _
   | exact LeO.none _
   | refine LeO.ite ?_ ?_
   | refine LeO.bind ?_ (fun _ => ?_)
def silversidelaw07_FindBoth.T1 : Bool × List (List Nat × List Nat) := (true, [([], []), ([], []), ([1], [1]), ([2], [2]), ([0, 3], [0, 3]), ([], []), ([], []), ([6], [6]), ([7], [7]), ([5, 8], [5, 8]), ([4, 0, 1, 2, 3, 4], [0, 1, 4]), ([9, 10, 0, 1, 2, 3, 4, 5, 6, 7, 8, 9, 10], [5, 6, 9])])
def silversidelaw07_FindBoth.B1 : List Nat := [0, 0, 2, 6, 15, 0, 0, 64, 192, 480, 31, 2047]
theorem silversidelaw07_FindBoth.tab1 : rtab .any (opsOf Try.f14 1) = silversidelaw07_FindBoth.T1 := by kernel_rfl
theorem silversidelaw07_FindBoth.bits1 : waitsOk silversidelaw07_FindBoth.T1.2 silversidelaw07_FindBoth.B1 = true := by kernel_rfl
def silversidelaw07_FindBoth.T12 : Bool × List (List Nat × List Nat) := (true, [([], []), ([], []), ([], []), ([], []), ([3], [3]), ([1, 2, 4], [1, 2, 4]), ([0, 5], [0, 5]), ([6], [6])])
def silversidelaw07_FindBoth.B12 : List Nat := [0, 0, 0, 0, 8, 30, 63, 127]
theorem silversidelaw07_FindBoth.tab12 : rtab .any (opsOf Try.f14 12) = silversidelaw07_FindBoth.T12 := by kernel_rfl
theorem silversidelaw07_FindBoth.bits12 : waitsOk silversidelaw07_FindBoth.T12.2 silversidelaw07_FindBoth.B12 = true := by kernel_rfl
def silversidelaw07_FindBoth.T16 : Bool × List (List Nat × List Nat) := (true, [([], []), ([], []), ([0, 1], [0, 1]), ([], []), ([], []), ([3, 4, 2], [3, 4]), ([2, 5, 0, 1, 2], [2]), ([5, 6, 0, 1, 2, 3, 4, 5, 6], [5])])
def silversidelaw07_FindBoth.B16 : List Nat := [0, 0, 3, 0, 0, 31, 63, 127]
theorem silversidelaw07_FindBoth.tab16 : rtab .any (opsOf Try.f14 16) = silversidelaw07_FindBoth.T16 := by kernel_rfl
theorem silversidelaw07_FindBoth.bits16 : waitsOk silversidelaw07_FindBoth.T16.2 silversidelaw07_FindBoth.B16 = true := by kernel_rfl
def silversidelaw07_FindBoth.T22 : Bool × List (List Nat × List Nat) := (true, [([], []), ([], []), ([], []), ([], []), ([], []), ([3, 4], [3, 4]), ([5], [5]), ([1, 2, 6], [1, 2, 6]), ([0, 7], [0, 7]), ([8], [8]), ([9, 8], [9]), ([10], [10]), ([10], [10]), ([11, 12, 10], [10, 11, 12]), ([13, 10, 10], [10, 13]), ([14], [14]), ([14], [14]), ([14], [14]), ([14], [14]), ([14], [14]), ([18, 19, 14], [14, 18, 19]), ([16, 17, 20, 14], [14, 16, 17, 20]), ([15, 21, 14, 14], [14, 15, 21]), ([22, 14], [14, 22]), ([14, 23, 10], [10, 14, 23]), ([10, 24], [10, 24])])
def silversidelaw07_FindBoth.B22 : List Nat := [0, 0, 0, 0, 0, 24, 56, 126, 255, 511, 1023, 2047, 2047, 8191, 16383, 32767, 32767, 32767, 32767, 32767, 819199, 2064383, 4194303, 8388607, 16777215, 33554431]
theorem silversidelaw07_FindBoth.tab22 : rtab .any (opsOf Try.f14 22) = silversidelaw07_FindBoth.T22 := by kernel_rfl
theorem silversidelaw07_FindBoth.bits22 : waitsOk silversidelaw07_FindBoth.T22.2 silversidelaw07_FindBoth.B22 = true := by kernel_rfl
set_option maxHeartbeats 8000000 in
set_option maxRecDepth 100000 in
theorem silversidelaw07_FindBoth.calls (k : Nat) (a0 : ByteArray) (a1 : ByteArray) (r : Bool) (hr_ : Aside0 (r = true)) (w : World) (h : silversidelaw07_FindBoth.f k a0 a1 = some r) :
  Calls Try.prog 14 #[.string a0, .string a1] w fun e w' => e = .returned (.bool r) ∧ Below w.heap.size w w' := by
 have hu24 := Try.underlying24
 have HB := Aside0.mk (Below.refl w.heap.size w)
 have H : (if 0 ≤ (mn (a0.size : Int) 300) then (if (mn (a0.size : Int) 300) ≤ (a0.size : Int) then (if 0 ≤ (mn (a1.size : Int) 300) then (if (mn (a1.size : Int) 300) ≤ (a1.size : Int) then ((find_Common.f k (a0.extract 0 ((mn (a0.size : Int) 300) : Int).toNat) (a1.extract 0 ((mn (a1.size : Int) 300) : Int).toNat)).bind fun bt431 => ((find_Common.f k (a1.extract 0 ((mn (a1.size : Int) 300) : Int).toNat) (a0.extract 0 ((mn (a0.size : Int) 300) : Int).toNat)).bind fun bt435 => ((find_New.f k (a0.extract 0 ((mn (a0.size : Int) 300) : Int).toNat)).bind fun bt439 => ((find_New.f k (a1.extract 0 ((mn (a1.size : Int) 300) : Int).toNat)).bind fun bt448 => (if bt431.2.2.2 = 0 then (if bt435.2.2.2 = 0 then (if bt439.2.2.2 = 0 then (if bt448.2.2.2 = 0 then (if bt431.1 = bt435.1 then (if bt431.1 < 0 then (silversidelaw07_FindBoth.j0 k (a0.extract 0 ((mn (a0.size : Int) 300) : Int).toNat) bt431.1 bt431.2.1 bt431.2.2.1 true bt439.1 bt439.2.1 bt439.2.2.1 bt448.1 bt448.2.1 bt448.2.2.1) else (if bt431.2.1 < 0 then (silversidelaw07_FindBoth.j0 k (a0.extract 0 ((mn (a0.size : Int) 300) : Int).toNat) bt431.1 bt431.2.1 bt431.2.2.1 true bt439.1 bt439.2.1 bt439.2.2.1 bt448.1 bt448.2.1 bt448.2.2.1) else (if bt431.2.2.1 < 0 then (silversidelaw07_FindBoth.j0 k (a0.extract 0 ((mn (a0.size : Int) 300) : Int).toNat) bt431.1 bt431.2.1 bt431.2.2.1 true bt439.1 bt439.2.1 bt439.2.2.1 bt448.1 bt448.2.1 bt448.2.2.1) else (if (wrap64 (bt431.2.1 + bt431.1)) > ((a0.extract 0 ((mn (a0.size : Int) 300) : Int).toNat).size : Int) then (silversidelaw07_FindBoth.j0 k (a0.extract 0 ((mn (a0.size : Int) 300) : Int).toNat) bt431.1 bt431.2.1 bt431.2.2.1 true bt439.1 bt439.2.1 bt439.2.2.1 bt448.1 bt448.2.1 bt448.2.2.1) else (silversidelaw07_FindBoth.j0 k (a0.extract 0 ((mn (a0.size : Int) 300) : Int).toNat) bt431.1 bt431.2.1 bt431.2.2.1 (decide ((wrap64 (bt431.2.2.1 + bt431.1)) > ((a1.extract 0 ((mn (a1.size : Int) 300) : Int).toNat).size : Int))) bt439.1 bt439.2.1 bt439.2.2.1 bt448.1 bt448.2.1 bt448.2.2.1))))) else (silversidelaw07_FindBoth.j0 k (a0.extract 0 ((mn (a0.size : Int) 300) : Int).toNat) bt431.1 bt431.2.1 bt431.2.2.1 true bt439.1 bt439.2.1 bt439.2.2.1 bt448.1 bt448.2.1 bt448.2.2.1)) else (silversidelaw07_FindBoth.j0 k (a0.extract 0 ((mn (a0.size : Int) 300) : Int).toNat) bt431.1 bt431.2.1 bt431.2.2.1 true bt439.1 bt439.2.1 bt439.2.2.1 bt448.1 bt448.2.1 bt448.2.2.1)) else (silversidelaw07_FindBoth.j0 k (a0.extract 0 ((mn (a0.size : Int) 300) : Int).toNat) bt431.1 bt431.2.1 bt431.2.2.1 true bt439.1 bt439.2.1 bt439.2.2.1 bt448.1 bt448.2.1 bt448.2.2.1)) else (silversidelaw07_FindBoth.j0 k (a0.extract 0 ((mn (a0.size : Int) 300) : Int).toNat) bt431.1 bt431.2.1 bt431.2.2.1 true bt439.1 bt439.2.1 bt439.2.2.1 bt448.1 bt448.2.1 bt448.2.2.1)) else (silversidelaw07_FindBoth.j0 k (a0.extract 0 ((mn (a0.size : Int) 300) : Int).toNat) bt431.1 bt431.2.1 bt431.2.2.1 true bt439.1 bt439.2.1 bt439.2.2.1 bt448.1 bt448.2.1 bt448.2.2.1)))))) else (none)) else (none)) else (none)) else (none)) = some r := h
 clear h
 obtain ⟨ji3, hji3⟩ : ∃ j_ : Int, (mn (a0.size : Int) 300) = j_ := ⟨_, rfl⟩
 replace H : (if 0 ≤ (ji3) then (if (ji3) ≤ (a0.size : Int) then (if 0 ≤ (mn (a1.size : Int) 300) then (if (mn (a1.size : Int) 300) ≤ (a1.size : Int) then ((find_Common.f k (a0.extract 0 ((ji3) : Int).toNat) (a1.extract 0 ((mn (a1.size : Int) 300) : Int).toNat)).bind fun bt431 => ((find_Common.f k (a1.extract 0 ((mn (a1.size : Int) 300) : Int).toNat) (a0.extract 0 ((ji3) : Int).toNat)).bind fun bt435 => ((find_New.f k (a0.extract 0 ((ji3) : Int).toNat)).bind fun bt439 => ((find_New.f k (a1.extract 0 ((mn (a1.size : Int) 300) : Int).toNat)).bind fun bt448 => (if bt431.2.2.2 = 0 then (if bt435.2.2.2 = 0 then (if bt439.2.2.2 = 0 then (if bt448.2.2.2 = 0 then (if bt431.1 = bt435.1 then (if bt431.1 < 0 then (silversidelaw07_FindBoth.j0 k (a0.extract 0 ((ji3) : Int).toNat) bt431.1 bt431.2.1 bt431.2.2.1 true bt439.1 bt439.2.1 bt439.2.2.1 bt448.1 bt448.2.1 bt448.2.2.1) else (if bt431.2.1 < 0 then (silversidelaw07_FindBoth.j0 k (a0.extract 0 ((ji3) : Int).toNat) bt431.1 bt431.2.1 bt431.2.2.1 true bt439.1 bt439.2.1 bt439.2.2.1 bt448.1 bt448.2.1 bt448.2.2.1) else (if bt431.2.2.1 < 0 then (silversidelaw07_FindBoth.j0 k (a0.extract 0 ((ji3) : Int).toNat) bt431.1 bt431.2.1 bt431.2.2.1 true bt439.1 bt439.2.1 bt439.2.2.1 bt448.1 bt448.2.1 bt448.2.2.1) else (if (wrap64 (bt431.2.1 + bt431.1)) > ((a0.extract 0 ((ji3) : Int).toNat).size : Int) then (silversidelaw07_FindBoth.j0 k (a0.extract 0 ((ji3) : Int).toNat) bt431.1 bt431.2.1 bt431.2.2.1 true bt439.1 bt439.2.1 bt439.2.2.1 bt448.1 bt448.2.1 bt448.2.2.1) else (silversidelaw07_FindBoth.j0 k (a0.extract 0 ((ji3) : Int).toNat) bt431.1 bt431.2.1 bt431.2.2.1 (decide ((wrap64 (bt431.2.2.1 + bt431.1)) > ((a1.extract 0 ((mn (a1.size : Int) 300) : Int).toNat).size : Int))) bt439.1 bt439.2.1 bt439.2.2.1 bt448.1 bt448.2.1 bt448.2.2.1))))) else (silversidelaw07_FindBoth.j0 k (a0.extract 0 ((ji3) : Int).toNat) bt431.1 bt431.2.1 bt431.2.2.1 true bt439.1 bt439.2.1 bt439.2.2.1 bt448.1 bt448.2.1 bt448.2.2.1)) else (silversidelaw07_FindBoth.j0 k (a0.extract 0 ((ji3) : Int).toNat) bt431.1 bt431.2.1 bt431.2.2.1 true bt439.1 bt439.2.1 bt439.2.2.1 bt448.1 bt448.2.1 bt448.2.2.1)) else (silversidelaw07_FindBoth.j0 k (a0.extract 0 ((ji3) : Int).toNat) bt431.1 bt431.2.1 bt431.2.2.1 true bt439.1 bt439.2.1 bt439.2.2.1 bt448.1 bt448.2.1 bt448.2.2.1)) else (silversidelaw07_FindBoth.j0 k (a0.extract 0 ((ji3) : Int).toNat) bt431.1 bt431.2.1 bt431.2.2.1 true bt439.1 bt439.2.1 bt439.2.2.1 bt448.1 bt448.2.1 bt448.2.2.1)) else (silversidelaw07_FindBoth.j0 k (a0.extract 0 ((ji3) : Int).toNat) bt431.1 bt431.2.1 bt431.2.2.1 true bt439.1 bt439.2.1 bt439.2.2.1 bt448.1 bt448.2.1 bt448.2.2.1)))))) else (none)) else (none)) else (none)) else (none)) = some r := by first | (rw [hji3] at H; exact H) | (simp only [hji3] at H ⊢; exact H)
 (try (have hji3h : ji3 ≤ 300 := by (rw [← hji3]; unfold mn; (repeat' split) <;> omega)))
 (try (have hji3g : ji3 ≤ 64 := by omega))
 (try (have hji3l : 0 ≤ ji3 := by (rw [← hji3]; unfold mn; (repeat' split) <;> omega)))
 (try (have hji3m : 0 ≤ ji3 := by omega))
 have hji3_ : (if 300 < (a0.size : Int) then 300 else (a0.size : Int)) = ji3 := hji3
 by_cases c4 : 0 ≤ (ji3)
 ·rw [if_pos c4] at H
  have c4b0 := eq_true c4
  have c4b1 : decide (0 ≤ (ji3)) = true := decide_eq_true c4
  clear c4
  by_cases c5 : (ji3) ≤ (a0.size : Int)
  ·rw [if_pos c5] at H
   have c5b0 := eq_true c5
   have c5b1 : decide ((ji3) ≤ (a0.size : Int)) = true := decide_eq_true c5
   clear c5
   obtain ⟨sa0_, hsa0_⟩ : ∃ s_ : ByteArray, a0.extract 0 ((ji3) : Int).toNat = s_ := ⟨_, rfl⟩
   rw [hsa0_] at H
   have hsa0_z : (a0.extract 0 ((ji3) : Int).toNat).size = min ((ji3) : Int).toNat a0.size - 0 := ByteArray.size_extract
   rw [hsa0_] at hsa0_z
   replace hsa0_z : sa0_.size ≤ 4096 := by omega
   obtain ⟨ji6, hji6⟩ : ∃ j_ : Int, (mn (a1.size : Int) 300) = j_ := ⟨_, rfl⟩
   replace H : (if 0 ≤ (ji6) then (if (ji6) ≤ (a1.size : Int) then ((find_Common.f k sa0_ (a1.extract 0 ((ji6) : Int).toNat)).bind fun bt431 => ((find_Common.f k (a1.extract 0 ((ji6) : Int).toNat) sa0_).bind fun bt435 => ((find_New.f k sa0_).bind fun bt439 => ((find_New.f k (a1.extract 0 ((ji6) : Int).toNat)).bind fun bt448 => (if bt431.2.2.2 = 0 then (if bt435.2.2.2 = 0 then (if bt439.2.2.2 = 0 then (if bt448.2.2.2 = 0 then (if bt431.1 = bt435.1 then (if bt431.1 < 0 then (silversidelaw07_FindBoth.j0 k sa0_ bt431.1 bt431.2.1 bt431.2.2.1 true bt439.1 bt439.2.1 bt439.2.2.1 bt448.1 bt448.2.1 bt448.2.2.1) else (if bt431.2.1 < 0 then (silversidelaw07_FindBoth.j0 k sa0_ bt431.1 bt431.2.1 bt431.2.2.1 true bt439.1 bt439.2.1 bt439.2.2.1 bt448.1 bt448.2.1 bt448.2.2.1) else (if bt431.2.2.1 < 0 then (silversidelaw07_FindBoth.j0 k sa0_ bt431.1 bt431.2.1 bt431.2.2.1 true bt439.1 bt439.2.1 bt439.2.2.1 bt448.1 bt448.2.1 bt448.2.2.1) else (if (wrap64 (bt431.2.1 + bt431.1)) > (sa0_.size : Int) then (silversidelaw07_FindBoth.j0 k sa0_ bt431.1 bt431.2.1 bt431.2.2.1 true bt439.1 bt439.2.1 bt439.2.2.1 bt448.1 bt448.2.1 bt448.2.2.1) else (silversidelaw07_FindBoth.j0 k sa0_ bt431.1 bt431.2.1 bt431.2.2.1 (decide ((wrap64 (bt431.2.2.1 + bt431.1)) > ((a1.extract 0 ((ji6) : Int).toNat).size : Int))) bt439.1 bt439.2.1 bt439.2.2.1 bt448.1 bt448.2.1 bt448.2.2.1))))) else (silversidelaw07_FindBoth.j0 k sa0_ bt431.1 bt431.2.1 bt431.2.2.1 true bt439.1 bt439.2.1 bt439.2.2.1 bt448.1 bt448.2.1 bt448.2.2.1)) else (silversidelaw07_FindBoth.j0 k sa0_ bt431.1 bt431.2.1 bt431.2.2.1 true bt439.1 bt439.2.1 bt439.2.2.1 bt448.1 bt448.2.1 bt448.2.2.1)) else (silversidelaw07_FindBoth.j0 k sa0_ bt431.1 bt431.2.1 bt431.2.2.1 true bt439.1 bt439.2.1 bt439.2.2.1 bt448.1 bt448.2.1 bt448.2.2.1)) else (silversidelaw07_FindBoth.j0 k sa0_ bt431.1 bt431.2.1 bt431.2.2.1 true bt439.1 bt439.2.1 bt439.2.2.1 bt448.1 bt448.2.1 bt448.2.2.1)) else (silversidelaw07_FindBoth.j0 k sa0_ bt431.1 bt431.2.1 bt431.2.2.1 true bt439.1 bt439.2.1 bt439.2.2.1 bt448.1 bt448.2.1 bt448.2.2.1)))))) else (none)) else (none)) = some r := by first | (rw [hji6] at H; exact H) | (simp only [hji6] at H ⊢; exact H)
   (try (have hji6h : ji6 ≤ 300 := by (rw [← hji6]; unfold mn; (repeat' split) <;> omega)))
   (try (have hji6g : ji6 ≤ 64 := by omega))
   (try (have hji6l : 0 ≤ ji6 := by (rw [← hji6]; unfold mn; (repeat' split) <;> omega)))
   (try (have hji6m : 0 ≤ ji6 := by omega))
   have hji6_ : (if 300 < (a1.size : Int) then 300 else (a1.size : Int)) = ji6 := hji6
   by_cases c7 : 0 ≤ (ji6)
   ·rw [if_pos c7] at H
    have c7b0 := eq_true c7
    have c7b1 : decide (0 ≤ (ji6)) = true := decide_eq_true c7
    clear c7
    by_cases c8 : (ji6) ≤ (a1.size : Int)
    ·rw [if_pos c8] at H
     have c8b0 := eq_true c8
     have c8b1 : decide ((ji6) ≤ (a1.size : Int)) = true := decide_eq_true c8
     clear c8
     obtain ⟨sa1_, hsa1_⟩ : ∃ s_ : ByteArray, a1.extract 0 ((ji6) : Int).toNat = s_ := ⟨_, rfl⟩
     rw [hsa1_] at H
     have hsa1_z : (a1.extract 0 ((ji6) : Int).toNat).size = min ((ji6) : Int).toNat a1.size - 0 := ByteArray.size_extract
     rw [hsa1_] at hsa1_z
     replace hsa1_z : sa1_.size ≤ 4096 := by omega
     replace H := Option.bind_eq_some_iff.mp H
     obtain ⟨⟨t431, t432, t433, t434⟩, A90, H⟩ := H
     replace H : ((find_Common.f k sa1_ sa0_).bind fun bt435 => ((find_New.f k sa0_).bind fun bt439 => ((find_New.f k sa1_).bind fun bt448 => (if t434 = 0 then (if bt435.2.2.2 = 0 then (if bt439.2.2.2 = 0 then (if bt448.2.2.2 = 0 then (if t431 = bt435.1 then (if t431 < 0 then (silversidelaw07_FindBoth.j0 k sa0_ t431 t432 t433 true bt439.1 bt439.2.1 bt439.2.2.1 bt448.1 bt448.2.1 bt448.2.2.1) else (if t432 < 0 then (silversidelaw07_FindBoth.j0 k sa0_ t431 t432 t433 true bt439.1 bt439.2.1 bt439.2.2.1 bt448.1 bt448.2.1 bt448.2.2.1) else (if t433 < 0 then (silversidelaw07_FindBoth.j0 k sa0_ t431 t432 t433 true bt439.1 bt439.2.1 bt439.2.2.1 bt448.1 bt448.2.1 bt448.2.2.1) else (if (wrap64 (t432 + t431)) > (sa0_.size : Int) then (silversidelaw07_FindBoth.j0 k sa0_ t431 t432 t433 true bt439.1 bt439.2.1 bt439.2.2.1 bt448.1 bt448.2.1 bt448.2.2.1) else (silversidelaw07_FindBoth.j0 k sa0_ t431 t432 t433 (decide ((wrap64 (t433 + t431)) > (sa1_.size : Int))) bt439.1 bt439.2.1 bt439.2.2.1 bt448.1 bt448.2.1 bt448.2.2.1))))) else (silversidelaw07_FindBoth.j0 k sa0_ t431 t432 t433 true bt439.1 bt439.2.1 bt439.2.2.1 bt448.1 bt448.2.1 bt448.2.2.1)) else (silversidelaw07_FindBoth.j0 k sa0_ t431 t432 t433 true bt439.1 bt439.2.1 bt439.2.2.1 bt448.1 bt448.2.1 bt448.2.2.1)) else (silversidelaw07_FindBoth.j0 k sa0_ t431 t432 t433 true bt439.1 bt439.2.1 bt439.2.2.1 bt448.1 bt448.2.1 bt448.2.2.1)) else (silversidelaw07_FindBoth.j0 k sa0_ t431 t432 t433 true bt439.1 bt439.2.1 bt439.2.2.1 bt448.1 bt448.2.1 bt448.2.2.1)) else (silversidelaw07_FindBoth.j0 k sa0_ t431 t432 t433 true bt439.1 bt439.2.1 bt439.2.2.1 bt448.1 bt448.2.1 bt448.2.2.1))))) = some r := H
     have A9 := Aside0.mk A90
     clear A90
     replace H := Option.bind_eq_some_iff.mp H
     obtain ⟨⟨t435, t436, t437, t438⟩, A100, H⟩ := H
     replace H : ((find_New.f k sa0_).bind fun bt439 => ((find_New.f k sa1_).bind fun bt448 => (if t434 = 0 then (if t438 = 0 then (if bt439.2.2.2 = 0 then (if bt448.2.2.2 = 0 then (if t431 = t435 then (if t431 < 0 then (silversidelaw07_FindBoth.j0 k sa0_ t431 t432 t433 true bt439.1 bt439.2.1 bt439.2.2.1 bt448.1 bt448.2.1 bt448.2.2.1) else (if t432 < 0 then (silversidelaw07_FindBoth.j0 k sa0_ t431 t432 t433 true bt439.1 bt439.2.1 bt439.2.2.1 bt448.1 bt448.2.1 bt448.2.2.1) else (if t433 < 0 then (silversidelaw07_FindBoth.j0 k sa0_ t431 t432 t433 true bt439.1 bt439.2.1 bt439.2.2.1 bt448.1 bt448.2.1 bt448.2.2.1) else (if (wrap64 (t432 + t431)) > (sa0_.size : Int) then (silversidelaw07_FindBoth.j0 k sa0_ t431 t432 t433 true bt439.1 bt439.2.1 bt439.2.2.1 bt448.1 bt448.2.1 bt448.2.2.1) else (silversidelaw07_FindBoth.j0 k sa0_ t431 t432 t433 (decide ((wrap64 (t433 + t431)) > (sa1_.size : Int))) bt439.1 bt439.2.1 bt439.2.2.1 bt448.1 bt448.2.1 bt448.2.2.1))))) else (silversidelaw07_FindBoth.j0 k sa0_ t431 t432 t433 true bt439.1 bt439.2.1 bt439.2.2.1 bt448.1 bt448.2.1 bt448.2.2.1)) else (silversidelaw07_FindBoth.j0 k sa0_ t431 t432 t433 true bt439.1 bt439.2.1 bt439.2.2.1 bt448.1 bt448.2.1 bt448.2.2.1)) else (silversidelaw07_FindBoth.j0 k sa0_ t431 t432 t433 true bt439.1 bt439.2.1 bt439.2.2.1 bt448.1 bt448.2.1 bt448.2.2.1)) else (silversidelaw07_FindBoth.j0 k sa0_ t431 t432 t433 true bt439.1 bt439.2.1 bt439.2.2.1 bt448.1 bt448.2.1 bt448.2.2.1)) else (silversidelaw07_FindBoth.j0 k sa0_ t431 t432 t433 true bt439.1 bt439.2.1 bt439.2.2.1 bt448.1 bt448.2.1 bt448.2.2.1)))) = some r := H
     have A10 := Aside0.mk A100
     clear A100
     replace H := Option.bind_eq_some_iff.mp H
     obtain ⟨⟨t439, t440, t443, t446⟩, A110, H⟩ := H
     replace H : ((find_New.f k sa1_).bind fun bt448 => (if t434 = 0 then (if t438 = 0 then (if t446 = 0 then (if bt448.2.2.2 = 0 then (if t431 = t435 then (if t431 < 0 then (silversidelaw07_FindBoth.j0 k sa0_ t431 t432 t433 true t439 t440 t443 bt448.1 bt448.2.1 bt448.2.2.1) else (if t432 < 0 then (silversidelaw07_FindBoth.j0 k sa0_ t431 t432 t433 true t439 t440 t443 bt448.1 bt448.2.1 bt448.2.2.1) else (if t433 < 0 then (silversidelaw07_FindBoth.j0 k sa0_ t431 t432 t433 true t439 t440 t443 bt448.1 bt448.2.1 bt448.2.2.1) else (if (wrap64 (t432 + t431)) > (sa0_.size : Int) then (silversidelaw07_FindBoth.j0 k sa0_ t431 t432 t433 true t439 t440 t443 bt448.1 bt448.2.1 bt448.2.2.1) else (silversidelaw07_FindBoth.j0 k sa0_ t431 t432 t433 (decide ((wrap64 (t433 + t431)) > (sa1_.size : Int))) t439 t440 t443 bt448.1 bt448.2.1 bt448.2.2.1))))) else (silversidelaw07_FindBoth.j0 k sa0_ t431 t432 t433 true t439 t440 t443 bt448.1 bt448.2.1 bt448.2.2.1)) else (silversidelaw07_FindBoth.j0 k sa0_ t431 t432 t433 true t439 t440 t443 bt448.1 bt448.2.1 bt448.2.2.1)) else (silversidelaw07_FindBoth.j0 k sa0_ t431 t432 t433 true t439 t440 t443 bt448.1 bt448.2.1 bt448.2.2.1)) else (silversidelaw07_FindBoth.j0 k sa0_ t431 t432 t433 true t439 t440 t443 bt448.1 bt448.2.1 bt448.2.2.1)) else (silversidelaw07_FindBoth.j0 k sa0_ t431 t432 t433 true t439 t440 t443 bt448.1 bt448.2.1 bt448.2.2.1))) = some r := H
     have A11 := Aside0.mk A110
     clear A110
     replace H := Option.bind_eq_some_iff.mp H
     obtain ⟨⟨t448, t449, t452, t455⟩, A120, H⟩ := H
     replace H : (if t434 = 0 then (if t438 = 0 then (if t446 = 0 then (if t455 = 0 then (if t431 = t435 then (if t431 < 0 then (silversidelaw07_FindBoth.j0 k sa0_ t431 t432 t433 true t439 t440 t443 t448 t449 t452) else (if t432 < 0 then (silversidelaw07_FindBoth.j0 k sa0_ t431 t432 t433 true t439 t440 t443 t448 t449 t452) else (if t433 < 0 then (silversidelaw07_FindBoth.j0 k sa0_ t431 t432 t433 true t439 t440 t443 t448 t449 t452) else (if (wrap64 (t432 + t431)) > (sa0_.size : Int) then (silversidelaw07_FindBoth.j0 k sa0_ t431 t432 t433 true t439 t440 t443 t448 t449 t452) else (silversidelaw07_FindBoth.j0 k sa0_ t431 t432 t433 (decide ((wrap64 (t433 + t431)) > (sa1_.size : Int))) t439 t440 t443 t448 t449 t452))))) else (silversidelaw07_FindBoth.j0 k sa0_ t431 t432 t433 true t439 t440 t443 t448 t449 t452)) else (silversidelaw07_FindBoth.j0 k sa0_ t431 t432 t433 true t439 t440 t443 t448 t449 t452)) else (silversidelaw07_FindBoth.j0 k sa0_ t431 t432 t433 true t439 t440 t443 t448 t449 t452)) else (silversidelaw07_FindBoth.j0 k sa0_ t431 t432 t433 true t439 t440 t443 t448 t449 t452)) else (silversidelaw07_FindBoth.j0 k sa0_ t431 t432 t433 true t439 t440 t443 t448 t449 t452)) = some r := H
     have A12 := Aside0.mk A120
     clear A120
     have HC13 := Aside0.mk H
     clear H
     go_enter Try.func14, Try.ntmps14
     try go_wp2
     replace HB := Aside0.mk (lD HB.out)
     refine start_ (n := 12) (S := fun w' => True) (ds := []) (Bs 0 12) (by kernel_rfl) rfl rfl trivial (fun hHeld => ?_); refine with_tabW silversidelaw07_FindBoth.tab1 silversidelaw07_FindBoth.bits1 (fun HT_ HW_ => ?_)
     generalize w.drew = w14 at HB hHeld ⊢
     refine pu 0 22 (Bs 1 12) HT_ ?_
     refine pu 1 23 (Bs 2 12) HT_ ?_
     refine pu 2 24 (Bs 3 12) HT_ ?_
     refine pu 3 25 (Bs 4 12) HT_ ?_
     refine pu 4 26 (Bs 5 12) HT_ ?_
     refine pu 5 27 (Bs 6 12) HT_ ?_
     refine pu 6 28 (Bs 7 12) HT_ ?_
     refine pu 7 29 (Bs 8 12) HT_ ?_
     refine pu 8 30 (Bs 9 12) HT_ ?_
     refine pu 9 31 (Bs 10 12) HT_ ?_
     refine pu 10 0 (Bs 11 12) HT_ ?_
     refine pu 11 1 (Bs 12 12) HT_ ?_
     refine done_ (done_of HT_.out (by kernel_rfl)) ?_
     go_upto_region 6 with (first | ((with_reducible refine gate_callee (f := 39) rfl ?_); refine goesL_ (some 35) rfl rfl Try.func39 (by kernel_rfl) rfl #[.string sa0_, .string sa1_] rfl (by (try simp only [List.map_toArray, List.map_cons, List.map_nil]); first | done | (simp only [hji3, hji6]; rfl) | rfl | (simp only [List.length_drop, List.length_take]; rfl)) ?_; (with_reducible refine (find_Common.calls k sa0_ sa1_ t431 t432 t433 t434 _ A9.out).mono ?_); rintro e w15 ⟨rfl, hb⟩; refine ⟨_, rfl, ?_⟩; have n0_ := Aside0.mk (below_step (by repeat (first | (with_reducible first | exact HB.out | apply lA | apply lN | apply lD) | exact HB.out)) hb); clear HB; have HB := n0_; clear n0_; (try clear hb); (try clear hb2); (try clear hk); (try clear hi)) | ((with_reducible refine gate_callee (f := 39) rfl ?_); refine goesL_ (some 43) rfl rfl Try.func39 (by kernel_rfl) rfl #[.string sa1_, .string sa0_] rfl (by (try simp only [List.map_toArray, List.map_cons, List.map_nil]); first | done | (simp only [hji3, hji6]; rfl) | rfl | (simp only [List.length_drop, List.length_take]; rfl)) ?_; (with_reducible refine (find_Common.calls k sa1_ sa0_ t435 t436 t437 t438 _ A10.out).mono ?_); rintro e w16 ⟨rfl, hb⟩; refine ⟨_, rfl, ?_⟩; have n0_ := Aside0.mk (below_step (by repeat (first | (with_reducible first | exact HB.out | apply lA | apply lN | apply lD) | exact HB.out)) hb); clear HB; have HB := n0_; clear n0_; (try clear hb); (try clear hb2); (try clear hk); (try clear hi)) | ((with_reducible refine gate_callee (f := 16) rfl ?_); refine goesL_ (some 50) rfl rfl Try.func16 (by kernel_rfl) rfl #[.string sa0_] rfl (by (try simp only [List.map_toArray, List.map_cons, List.map_nil]); first | done | (simp only [hji3]; rfl) | rfl | (simp only [List.length_drop, List.length_take]; rfl)) ?_; (with_reducible refine (find_New.calls k sa0_ t439 t440 t443 t446 _ A11.out).mono ?_); rintro e w17 ⟨v441, v444, rfl, ho0, ho1, hb⟩; refine ⟨_, rfl, ?_⟩; have n0_ := Aside0.mk (Kd.R_lower ho0 (below_size (by repeat (first | (with_reducible first | exact HB.out | apply lA | apply lN | apply lD) | exact HB.out)))); have n1_ := Aside0.mk (Kd.R_lower ho1 (below_size (by repeat (first | (with_reducible first | exact HB.out | apply lA | apply lN | apply lD) | exact HB.out)))); have n2_ := Aside0.mk (below_step (by repeat (first | (with_reducible first | exact HB.out | apply lA | apply lN | apply lD) | exact HB.out)) hb); clear HB; have HO442 := n0_; have HO445 := n1_; have HB := n2_; clear n0_ n1_ n2_; (try clear hb); (try clear hb2); (try clear hk); (try clear hi); (try clear ho0); (try clear ho1)) | ((with_reducible refine gate_dst (N := 13) rfl ?_); (try (refine gate_guard (by rfl) ?_; dsimp only)); refine box_event ?hg (N := 13) ?hd (cs := #[.string (⟨#[]⟩ : ByteArray), .slice none 0 0, .slice none 0 0]) (t := 24) ?hr ?_; (case hd => rfl); (case hg => rfl); (case hr => first | (go_simp; done) | (go_simp; rfl)); intro gb447 hg w18 hbox hb; have n0_ := Aside0.mk (Kd.R_below (by (with_reducible repeat (first | apply Kd.R_alloc | apply Kd.R_drewN | apply Kd.R_drew)); exact HO442.out) hb); have n1_ := Aside0.mk (Kd.R_below (by (with_reducible repeat (first | apply Kd.R_alloc | apply Kd.R_drewN | apply Kd.R_drew)); exact HO445.out) hb); have n2_ := Aside0.mk (below_step (by repeat (first | (with_reducible first | exact HB.out | apply lA | apply lN | apply lD) | exact HB.out)) hb); have n3_ := Aside0.mk (hbox); have n4_ := Aside0.mk ((by rw [hg]; exact (below_size (by repeat (first | (with_reducible first | exact HB.out | apply lA | apply lN | apply lD) | exact HB.out))) : w.heap.size ≤ gb447)); have n5_ := Aside0.mk ((by rw [hg]; exact (below_size (by repeat (first | (with_reducible first | exact HB.out | apply lA | apply lN | apply lD) | exact HB.out))) : w.heap.size ≤ gb447)); clear HO442; clear HO445; clear HB; have HO442 := n0_; have HO445 := n1_; have HB := n2_; have BK447 := n3_; have GW447 := n4_; have GE447 := n5_; clear n0_ n1_ n2_ n3_ n4_ n5_; clear hb hbox hg; have hcz19_0 : w18.cell? ⟨gb447, 0, none⟩ = some (.string (⟨#[]⟩ : ByteArray)) := (blk_cell BK447.out 0).trans rfl; have hcz19_1 : w18.cell? ⟨gb447, 1, none⟩ = some (.slice none 0 0) := (blk_cell BK447.out 1).trans rfl; have hcz19_2 : w18.cell? ⟨gb447, 2, none⟩ = some (.slice none 0 0) := (blk_cell BK447.out 2).trans rfl; have hfz19_0 := blk_frozen BK447.out 0; have hfz19_1 := blk_frozen BK447.out 1; have hfz19_2 := blk_frozen BK447.out 2; obtain ⟨Ao20, co20, eo20⟩ := Kd.R_slice HO442.out; subst eo20; obtain ⟨Ao21, co21, eo21⟩ := Kd.R_slice HO445.out; subst eo21) | ((with_reducible refine gate_callee (f := 16) rfl ?_); refine goesL_ (some 55) rfl rfl Try.func16 (by kernel_rfl) rfl #[.string sa1_] rfl (by (try simp only [List.map_toArray, List.map_cons, List.map_nil]); first | done | (simp only [hji6]; rfl) | rfl | (simp only [List.length_drop, List.length_take]; rfl)) ?_; (with_reducible refine (find_New.calls k sa1_ t448 t449 t452 t455 _ A12.out).mono ?_); rintro e w22 ⟨v450, v453, rfl, ho0, ho1, hb⟩; refine ⟨_, rfl, ?_⟩; have n0_ := Aside0.mk (Kd.R_mono (Kd.R_told (Kd.R_told (Kd.R_old (by (with_reducible repeat (first | apply Kd.R_alloc | apply Kd.R_drewN | apply Kd.R_drew)); exact (Kd.R_mono (Kd.R_far (p := ⟨gb447, 2, none⟩) (Kd.R_far (p := ⟨gb447, 1, none⟩) (Kd.R_far (p := ⟨gb447, 0, none⟩) (Kd.R_types HO442.out BK447.out (by decide)) (fun _ hk => hk.2) (.string t439)) (fun _ hk => hk.2) (.slice Ao20 t440.length co20)) (fun _ hk => hk.2) (.slice Ao21 t443.length co21)) (fun _ h_ => h_.1))) hb) (Kd.R_base ho0)) (Kd.R_base ho1)) (fun _ h_ => h_.1)); have n1_ := Aside0.mk (Kd.R_mono (Kd.R_told (Kd.R_told (Kd.R_old (by (with_reducible repeat (first | apply Kd.R_alloc | apply Kd.R_drewN | apply Kd.R_drew)); exact (Kd.R_mono (Kd.R_far (p := ⟨gb447, 2, none⟩) (Kd.R_far (p := ⟨gb447, 1, none⟩) (Kd.R_far (p := ⟨gb447, 0, none⟩) (Kd.R_types HO445.out BK447.out (by decide)) (fun _ hk => hk.2) (.string t439)) (fun _ hk => hk.2) (.slice Ao20 t440.length co20)) (fun _ hk => hk.2) (.slice Ao21 t443.length co21)) (fun _ h_ => h_.1))) hb) (Kd.R_base ho0)) (Kd.R_base ho1)) (fun _ h_ => h_.1)); have n2_ := Aside0.mk (Kd.R_lower (Kd.R_new' (Kd.R_new' ho0 (Kd.R_lt (by (with_reducible repeat (first | apply Kd.R_alloc | apply Kd.R_drewN | apply Kd.R_drew)); exact (Kd.R_mono (Kd.R_far (p := ⟨gb447, 2, none⟩) (Kd.R_far (p := ⟨gb447, 1, none⟩) (Kd.R_far (p := ⟨gb447, 0, none⟩) (Kd.R_types HO442.out BK447.out (by decide)) (fun _ hk => hk.2) (.string t439)) (fun _ hk => hk.2) (.slice Ao20 t440.length co20)) (fun _ hk => hk.2) (.slice Ao21 t443.length co21)) (fun _ h_ => h_.1))))) (Kd.R_lt (by (with_reducible repeat (first | apply Kd.R_alloc | apply Kd.R_drewN | apply Kd.R_drew)); exact (Kd.R_mono (Kd.R_far (p := ⟨gb447, 2, none⟩) (Kd.R_far (p := ⟨gb447, 1, none⟩) (Kd.R_far (p := ⟨gb447, 0, none⟩) (Kd.R_types HO445.out BK447.out (by decide)) (fun _ hk => hk.2) (.string t439)) (fun _ hk => hk.2) (.slice Ao20 t440.length co20)) (fun _ hk => hk.2) (.slice Ao21 t443.length co21)) (fun _ h_ => h_.1))))) (below_size (by repeat (first | (with_reducible first | exact HB.out | apply lA | apply lN | apply lD | refine lS ?_ GE447.out) | exact HB.out)))); have n3_ := Aside0.mk (Kd.R_lower (Kd.R_new' (Kd.R_new' ho1 (Kd.R_lt (by (with_reducible repeat (first | apply Kd.R_alloc | apply Kd.R_drewN | apply Kd.R_drew)); exact (Kd.R_mono (Kd.R_far (p := ⟨gb447, 2, none⟩) (Kd.R_far (p := ⟨gb447, 1, none⟩) (Kd.R_far (p := ⟨gb447, 0, none⟩) (Kd.R_types HO442.out BK447.out (by decide)) (fun _ hk => hk.2) (.string t439)) (fun _ hk => hk.2) (.slice Ao20 t440.length co20)) (fun _ hk => hk.2) (.slice Ao21 t443.length co21)) (fun _ h_ => h_.1))))) (Kd.R_lt (by (with_reducible repeat (first | apply Kd.R_alloc | apply Kd.R_drewN | apply Kd.R_drew)); exact (Kd.R_mono (Kd.R_far (p := ⟨gb447, 2, none⟩) (Kd.R_far (p := ⟨gb447, 1, none⟩) (Kd.R_far (p := ⟨gb447, 0, none⟩) (Kd.R_types HO445.out BK447.out (by decide)) (fun _ hk => hk.2) (.string t439)) (fun _ hk => hk.2) (.slice Ao20 t440.length co20)) (fun _ hk => hk.2) (.slice Ao21 t443.length co21)) (fun _ h_ => h_.1))))) (below_size (by repeat (first | (with_reducible first | exact HB.out | apply lA | apply lN | apply lD | refine lS ?_ GE447.out) | exact HB.out)))); have n4_ := Aside0.mk (blk_below (g := gb447) (o := .cells #[.string t439, .slice Ao20 t440.length co20, .slice Ao21 t443.length co21] 24 (0, 0)) (by (with_reducible repeat (first | refine kN ?_ _ | refine kD ?_ | refine kA ?_ _)); refine blk_put (cs := #[.string t439, .slice Ao20 t440.length co20, .slice none 0 0]) ?_ 2 _ rfl; (with_reducible repeat (first | refine kN ?_ _ | refine kD ?_ | refine kA ?_ _)); refine blk_put (cs := #[.string t439, .slice none 0 0, .slice none 0 0]) ?_ 1 _ rfl; (with_reducible repeat (first | refine kN ?_ _ | refine kD ?_ | refine kA ?_ _)); refine blk_put (cs := #[.string (⟨#[]⟩ : ByteArray), .slice none 0 0, .slice none 0 0]) ?_ 0 _ rfl; (with_reducible repeat (first | refine kN ?_ _ | refine kD ?_ | refine kA ?_ _)); exact BK447.out) hb); have n5_ := Aside0.mk (below_step (by repeat (first | (with_reducible first | exact HB.out | apply lA | apply lN | apply lD | refine lS ?_ GE447.out) | exact HB.out)) hb); clear HO442; clear HO445; clear BK447; clear HB; have HO442 := n0_; have HO445 := n1_; have HO451 := n2_; have HO454 := n3_; have BK447 := n4_; have HB := n5_; clear n0_ n1_ n2_ n3_ n4_ n5_; (try clear hb); (try clear hb2); (try clear hk); (try clear hi); (try clear ho0); (try clear ho1)) | ((with_reducible refine gate_dst (N := 15) rfl ?_); (try (refine gate_guard (by rfl) ?_; dsimp only)); refine box_event ?hg (N := 15) ?hd (cs := #[.string (⟨#[]⟩ : ByteArray), .slice none 0 0, .slice none 0 0]) (t := 24) ?hr ?_; (case hd => rfl); (case hg => rfl); (case hr => first | (go_simp; done) | (go_simp; rfl)); intro gb456 hg w23 hbox hb; have n0_ := Aside0.mk (Kd.R_below (by (with_reducible repeat (first | apply Kd.R_alloc | apply Kd.R_drewN | apply Kd.R_drew)); exact HO442.out) hb); have n1_ := Aside0.mk (Kd.R_below (by (with_reducible repeat (first | apply Kd.R_alloc | apply Kd.R_drewN | apply Kd.R_drew)); exact HO445.out) hb); have n2_ := Aside0.mk (Kd.R_below (by (with_reducible repeat (first | apply Kd.R_alloc | apply Kd.R_drewN | apply Kd.R_drew)); exact HO451.out) hb); have n3_ := Aside0.mk (Kd.R_below (by (with_reducible repeat (first | apply Kd.R_alloc | apply Kd.R_drewN | apply Kd.R_drew)); exact HO454.out) hb); have n4_ := Aside0.mk (blk_below (g := gb447) (o := .cells #[.string t439, .slice Ao20 t440.length co20, .slice Ao21 t443.length co21] 24 (0, 0)) (kX BK447.out) hb); have n5_ := Aside0.mk (below_step (by repeat (first | (with_reducible first | exact HB.out | apply lA | apply lN | apply lD | refine lS ?_ GE447.out) | exact HB.out)) hb); have n6_ := Aside0.mk (hbox); have n7_ := Aside0.mk ((by rw [hg]; exact (below_size (by repeat (first | (with_reducible first | exact HB.out | apply lA | apply lN | apply lD | refine lS ?_ GE447.out) | exact HB.out))) : w.heap.size ≤ gb456)); have n8_ := Aside0.mk ((by rw [hg]; exact (below_size (by repeat (first | (with_reducible first | exact HB.out | apply lA | apply lN | apply lD | refine lS ?_ GE447.out) | exact HB.out))) : w.heap.size ≤ gb456)); have n9_ := Aside0.mk ((by rw [hg]; exact Nat.ne_of_lt (blk_lt (g := gb447) (o := .cells #[.string t439, .slice Ao20 t440.length co20, .slice Ao21 t443.length co21] 24 (0, 0)) (kX BK447.out)) : gb447 ≠ gb456)); have n10_ := Aside0.mk ((by rw [hg]; exact Nat.ne_of_gt (blk_lt (g := gb447) (o := .cells #[.string t439, .slice Ao20 t440.length co20, .slice Ao21 t443.length co21] 24 (0, 0)) (kX BK447.out)) : gb456 ≠ gb447)); clear HO442; clear HO445; clear HO451; clear HO454; clear BK447; clear HB; have HO442 := n0_; have HO445 := n1_; have HO451 := n2_; have HO454 := n3_; have BK447 := n4_; have HB := n5_; have BK456 := n6_; have GW456 := n7_; have GE456 := n8_; have NB447_456 := n9_; have NB456_447 := n10_; clear n0_ n1_ n2_ n3_ n4_ n5_ n6_ n7_ n8_ n9_ n10_; clear hb hbox hg; have hnb24 := NB456_447.out; have hnc24 := NB447_456.out; have hcz25_0 : w23.cell? ⟨gb456, 0, none⟩ = some (.string (⟨#[]⟩ : ByteArray)) := (blk_cell BK456.out 0).trans rfl; have hcz25_1 : w23.cell? ⟨gb456, 1, none⟩ = some (.slice none 0 0) := (blk_cell BK456.out 1).trans rfl; have hcz25_2 : w23.cell? ⟨gb456, 2, none⟩ = some (.slice none 0 0) := (blk_cell BK456.out 2).trans rfl; have hfz25_0 := blk_frozen BK456.out 0; have hfz25_1 := blk_frozen BK456.out 1; have hfz25_2 := blk_frozen BK456.out 2; obtain ⟨Ao26, co26, eo26⟩ := Kd.R_slice HO451.out; subst eo26; obtain ⟨Ao27, co27, eo27⟩ := Kd.R_slice HO454.out; subst eo27))
     (try simp only [Act.put, sA, sB, sC])
     go_cut [104] (fun v104 wc => ∃ (kq : Nat) (x104_12 : Bool), v104 = .bool x104_12 ∧ Aside0 (silversidelaw07_FindBoth.j0 kq sa0_ t431 t432 t433 x104_12 t439 t440 t443 t448 t449 t452 = some r) ∧ Aside0 (kq ≤ k) ∧ Aside0 (Kd.R (Kd.int .i64) 3 wc w.heap.size (fun k_ => some k_ ≠ ((.slice Ao21 t443.length co21) : Value).ownBlock ∧ some k_ ≠ ((.slice Ao26 t449.length co26) : Value).ownBlock ∧ some k_ ≠ ((.slice Ao27 t452.length co27) : Value).ownBlock) (.slice Ao20 t440.length co20) t440) ∧ Aside0 (Kd.R (Kd.int .i64) 3 wc w.heap.size (fun k_ => some k_ ≠ ((.slice Ao20 t440.length co20) : Value).ownBlock ∧ some k_ ≠ ((.slice Ao26 t449.length co26) : Value).ownBlock ∧ some k_ ≠ ((.slice Ao27 t452.length co27) : Value).ownBlock) (.slice Ao21 t443.length co21) t443) ∧ Aside0 (Kd.R (Kd.int .i64) 3 wc w.heap.size (fun k_ => some k_ ≠ ((.slice Ao20 t440.length co20) : Value).ownBlock ∧ some k_ ≠ ((.slice Ao21 t443.length co21) : Value).ownBlock ∧ some k_ ≠ ((.slice Ao27 t452.length co27) : Value).ownBlock) (.slice Ao26 t449.length co26) t449) ∧ Aside0 (Kd.R (Kd.int .i64) 3 wc w.heap.size (fun k_ => some k_ ≠ ((.slice Ao20 t440.length co20) : Value).ownBlock ∧ some k_ ≠ ((.slice Ao21 t443.length co21) : Value).ownBlock ∧ some k_ ≠ ((.slice Ao26 t449.length co26) : Value).ownBlock) (.slice Ao27 t452.length co27) t452) ∧ Aside0 (wc.heap[gb447]? = some (.cells #[.string t439, (.slice Ao20 t440.length co20), (.slice Ao21 t443.length co21)] 24 (0, 0))) ∧ Aside0 (wc.heap[gb456]? = some (.cells #[.string t448, (.slice Ao26 t449.length co26), (.slice Ao27 t452.length co27)] 24 (0, 0))) ∧ Aside0 (Below w.heap.size w wc))
     case first =>
      have H := HC13.out
      clear HC13
      by_cases c28 : t434 = 0
      ·rw [if_pos c28] at H
       have c28b0 : (t434 == 0) = true := beq_iff_eq.mpr c28
       have c28b1 : (t434 != 0) = false := bne_eq_false_iff_eq.mpr c28
       clear c28
       (first | rw [c28b0] | (simp only [i64_w, i32_w]; rw [c28b0]) | rw [c28b1] | skip)
       by_cases c29 : t438 = 0
       ·rw [if_pos c29] at H
        have c29b0 : (t438 == 0) = true := beq_iff_eq.mpr c29
        have c29b1 : (t438 != 0) = false := bne_eq_false_iff_eq.mpr c29
        clear c29
        by_cases c30 : t446 = 0
        ·rw [if_pos c30] at H
         have c30b0 : (t446 == 0) = true := beq_iff_eq.mpr c30
         have c30b1 : (t446 != 0) = false := bne_eq_false_iff_eq.mpr c30
         clear c30
         by_cases c31 : t455 = 0
         ·rw [if_pos c31] at H
          have c31b0 : (t455 == 0) = true := beq_iff_eq.mpr c31
          have c31b1 : (t455 != 0) = false := bne_eq_false_iff_eq.mpr c31
          clear c31
          by_cases c32 : t431 = t435
          ·rw [if_pos c32] at H
           have c32b0 : (t431 == t435) = true := beq_iff_eq.mpr c32
           have c32b1 : (t431 != t435) = false := bne_eq_false_iff_eq.mpr c32
           clear c32
           by_cases c33 : t431 < 0
           ·rw [if_pos c33] at H
            have c33b0 : decide (t431 < 0) = true := decide_eq_true c33
            clear c33
            have H' := Aside0.mk H
            clear H
            go_wp2
            go_meet
            case rel => exact ⟨_, (true), (by first | rfl | (simp; done) | (simp [*]; done)), H', ⟨by first | omega | exact Nat.le_refl _⟩, ⟨by (with_reducible repeat (first | apply Kd.R_alloc | apply Kd.R_drewN | apply Kd.R_drew)); exact Kd.R_mono (Kd.R_far (p := ⟨gb456, 2, none⟩) (Kd.R_far (p := ⟨gb456, 1, none⟩) (Kd.R_far (p := ⟨gb456, 0, none⟩) (Kd.R_types HO442.out BK456.out (by decide)) (fun _ hk => hk.2) (.string t448)) (fun _ hk => hk.2) (.slice Ao26 t449.length co26)) (fun _ hk => hk.2) (.slice Ao27 t452.length co27)) (fun _ hk => ⟨hk.1.1.1, ⟨hk.1.1.2, hk.1.2⟩⟩)⟩, ⟨by (with_reducible repeat (first | apply Kd.R_alloc | apply Kd.R_drewN | apply Kd.R_drew)); exact Kd.R_mono (Kd.R_far (p := ⟨gb456, 2, none⟩) (Kd.R_far (p := ⟨gb456, 1, none⟩) (Kd.R_far (p := ⟨gb456, 0, none⟩) (Kd.R_types HO445.out BK456.out (by decide)) (fun _ hk => hk.2) (.string t448)) (fun _ hk => hk.2) (.slice Ao26 t449.length co26)) (fun _ hk => hk.2) (.slice Ao27 t452.length co27)) (fun _ hk => ⟨hk.1.1.1, ⟨hk.1.1.2, hk.1.2⟩⟩)⟩, ⟨by (with_reducible repeat (first | apply Kd.R_alloc | apply Kd.R_drewN | apply Kd.R_drew)); exact Kd.R_mono (Kd.R_far (p := ⟨gb456, 2, none⟩) (Kd.R_far (p := ⟨gb456, 1, none⟩) (Kd.R_far (p := ⟨gb456, 0, none⟩) (Kd.R_types HO451.out BK456.out (by decide)) (fun _ hk => hk.2) (.string t448)) (fun _ hk => hk.2) (.slice Ao26 t449.length co26)) (fun _ hk => hk.2) (.slice Ao27 t452.length co27)) (fun _ hk => ⟨hk.1.1.2, ⟨hk.1.2, hk.1.1.1⟩⟩)⟩, ⟨by (with_reducible repeat (first | apply Kd.R_alloc | apply Kd.R_drewN | apply Kd.R_drew)); exact Kd.R_mono (Kd.R_far (p := ⟨gb456, 2, none⟩) (Kd.R_far (p := ⟨gb456, 1, none⟩) (Kd.R_far (p := ⟨gb456, 0, none⟩) (Kd.R_types HO454.out BK456.out (by decide)) (fun _ hk => hk.2) (.string t448)) (fun _ hk => hk.2) (.slice Ao26 t449.length co26)) (fun _ hk => hk.2) (.slice Ao27 t452.length co27)) (fun _ hk => ⟨hk.1.1.2, ⟨hk.1.2, hk.1.1.1⟩⟩)⟩, ⟨by (with_reducible repeat (first | refine kN ?_ _ | refine kD ?_ | refine kA ?_ _)); refine blk_far ?_ NB447_456.out _; (with_reducible repeat (first | refine kN ?_ _ | refine kD ?_ | refine kA ?_ _)); refine blk_far ?_ NB447_456.out _; (with_reducible repeat (first | refine kN ?_ _ | refine kD ?_ | refine kA ?_ _)); refine blk_far ?_ NB447_456.out _; (with_reducible repeat (first | refine kN ?_ _ | refine kD ?_ | refine kA ?_ _)); exact BK447.out⟩, ⟨by (with_reducible repeat (first | refine kN ?_ _ | refine kD ?_ | refine kA ?_ _)); refine blk_put (cs := #[.string t448, .slice Ao26 t449.length co26, .slice none 0 0]) ?_ 2 _ rfl; (with_reducible repeat (first | refine kN ?_ _ | refine kD ?_ | refine kA ?_ _)); refine blk_put (cs := #[.string t448, .slice none 0 0, .slice none 0 0]) ?_ 1 _ rfl; (with_reducible repeat (first | refine kN ?_ _ | refine kD ?_ | refine kA ?_ _)); refine blk_put (cs := #[.string (⟨#[]⟩ : ByteArray), .slice none 0 0, .slice none 0 0]) ?_ 0 _ rfl; (with_reducible repeat (first | refine kN ?_ _ | refine kD ?_ | refine kA ?_ _)); exact BK456.out⟩, ⟨by repeat (first | (with_reducible first | exact HB.out | apply lA | apply lN | apply lD | refine lS ?_ GE447.out | refine lS ?_ GE456.out) | exact HB.out)⟩⟩
           rw [if_neg c33] at H
           have c33b0 : decide (t431 < 0) = false := decide_eq_false c33
           clear c33
           by_cases c34 : t432 < 0
           ·rw [if_pos c34] at H
            have c34b0 : decide (t432 < 0) = true := decide_eq_true c34
            clear c34
            have H' := Aside0.mk H
            clear H
            go_wp2
            go_meet
            case rel => exact ⟨_, (true), (by first | rfl | (simp; done) | (simp [*]; done)), H', ⟨by first | omega | exact Nat.le_refl _⟩, ⟨by (with_reducible repeat (first | apply Kd.R_alloc | apply Kd.R_drewN | apply Kd.R_drew)); exact Kd.R_mono (Kd.R_far (p := ⟨gb456, 2, none⟩) (Kd.R_far (p := ⟨gb456, 1, none⟩) (Kd.R_far (p := ⟨gb456, 0, none⟩) (Kd.R_types HO442.out BK456.out (by decide)) (fun _ hk => hk.2) (.string t448)) (fun _ hk => hk.2) (.slice Ao26 t449.length co26)) (fun _ hk => hk.2) (.slice Ao27 t452.length co27)) (fun _ hk => ⟨hk.1.1.1, ⟨hk.1.1.2, hk.1.2⟩⟩)⟩, ⟨by (with_reducible repeat (first | apply Kd.R_alloc | apply Kd.R_drewN | apply Kd.R_drew)); exact Kd.R_mono (Kd.R_far (p := ⟨gb456, 2, none⟩) (Kd.R_far (p := ⟨gb456, 1, none⟩) (Kd.R_far (p := ⟨gb456, 0, none⟩) (Kd.R_types HO445.out BK456.out (by decide)) (fun _ hk => hk.2) (.string t448)) (fun _ hk => hk.2) (.slice Ao26 t449.length co26)) (fun _ hk => hk.2) (.slice Ao27 t452.length co27)) (fun _ hk => ⟨hk.1.1.1, ⟨hk.1.1.2, hk.1.2⟩⟩)⟩, ⟨by (with_reducible repeat (first | apply Kd.R_alloc | apply Kd.R_drewN | apply Kd.R_drew)); exact Kd.R_mono (Kd.R_far (p := ⟨gb456, 2, none⟩) (Kd.R_far (p := ⟨gb456, 1, none⟩) (Kd.R_far (p := ⟨gb456, 0, none⟩) (Kd.R_types HO451.out BK456.out (by decide)) (fun _ hk => hk.2) (.string t448)) (fun _ hk => hk.2) (.slice Ao26 t449.length co26)) (fun _ hk => hk.2) (.slice Ao27 t452.length co27)) (fun _ hk => ⟨hk.1.1.2, ⟨hk.1.2, hk.1.1.1⟩⟩)⟩, ⟨by (with_reducible repeat (first | apply Kd.R_alloc | apply Kd.R_drewN | apply Kd.R_drew)); exact Kd.R_mono (Kd.R_far (p := ⟨gb456, 2, none⟩) (Kd.R_far (p := ⟨gb456, 1, none⟩) (Kd.R_far (p := ⟨gb456, 0, none⟩) (Kd.R_types HO454.out BK456.out (by decide)) (fun _ hk => hk.2) (.string t448)) (fun _ hk => hk.2) (.slice Ao26 t449.length co26)) (fun _ hk => hk.2) (.slice Ao27 t452.length co27)) (fun _ hk => ⟨hk.1.1.2, ⟨hk.1.2, hk.1.1.1⟩⟩)⟩, ⟨by (with_reducible repeat (first | refine kN ?_ _ | refine kD ?_ | refine kA ?_ _)); refine blk_far ?_ NB447_456.out _; (with_reducible repeat (first | refine kN ?_ _ | refine kD ?_ | refine kA ?_ _)); refine blk_far ?_ NB447_456.out _; (with_reducible repeat (first | refine kN ?_ _ | refine kD ?_ | refine kA ?_ _)); refine blk_far ?_ NB447_456.out _; (with_reducible repeat (first | refine kN ?_ _ | refine kD ?_ | refine kA ?_ _)); exact BK447.out⟩, ⟨by (with_reducible repeat (first | refine kN ?_ _ | refine kD ?_ | refine kA ?_ _)); refine blk_put (cs := #[.string t448, .slice Ao26 t449.length co26, .slice none 0 0]) ?_ 2 _ rfl; (with_reducible repeat (first | refine kN ?_ _ | refine kD ?_ | refine kA ?_ _)); refine blk_put (cs := #[.string t448, .slice none 0 0, .slice none 0 0]) ?_ 1 _ rfl; (with_reducible repeat (first | refine kN ?_ _ | refine kD ?_ | refine kA ?_ _)); refine blk_put (cs := #[.string (⟨#[]⟩ : ByteArray), .slice none 0 0, .slice none 0 0]) ?_ 0 _ rfl; (with_reducible repeat (first | refine kN ?_ _ | refine kD ?_ | refine kA ?_ _)); exact BK456.out⟩, ⟨by repeat (first | (with_reducible first | exact HB.out | apply lA | apply lN | apply lD | refine lS ?_ GE447.out | refine lS ?_ GE456.out) | exact HB.out)⟩⟩
           rw [if_neg c34] at H
           have c34b0 : decide (t432 < 0) = false := decide_eq_false c34
           clear c34
           by_cases c35 : t433 < 0
           ·rw [if_pos c35] at H
            have c35b0 : decide (t433 < 0) = true := decide_eq_true c35
            clear c35
            have H' := Aside0.mk H
            clear H
            go_wp2
            go_meet
            case rel => exact ⟨_, (true), (by first | rfl | (simp; done) | (simp [*]; done)), H', ⟨by first | omega | exact Nat.le_refl _⟩, ⟨by (with_reducible repeat (first | apply Kd.R_alloc | apply Kd.R_drewN | apply Kd.R_drew)); exact Kd.R_mono (Kd.R_far (p := ⟨gb456, 2, none⟩) (Kd.R_far (p := ⟨gb456, 1, none⟩) (Kd.R_far (p := ⟨gb456, 0, none⟩) (Kd.R_types HO442.out BK456.out (by decide)) (fun _ hk => hk.2) (.string t448)) (fun _ hk => hk.2) (.slice Ao26 t449.length co26)) (fun _ hk => hk.2) (.slice Ao27 t452.length co27)) (fun _ hk => ⟨hk.1.1.1, ⟨hk.1.1.2, hk.1.2⟩⟩)⟩, ⟨by (with_reducible repeat (first | apply Kd.R_alloc | apply Kd.R_drewN | apply Kd.R_drew)); exact Kd.R_mono (Kd.R_far (p := ⟨gb456, 2, none⟩) (Kd.R_far (p := ⟨gb456, 1, none⟩) (Kd.R_far (p := ⟨gb456, 0, none⟩) (Kd.R_types HO445.out BK456.out (by decide)) (fun _ hk => hk.2) (.string t448)) (fun _ hk => hk.2) (.slice Ao26 t449.length co26)) (fun _ hk => hk.2) (.slice Ao27 t452.length co27)) (fun _ hk => ⟨hk.1.1.1, ⟨hk.1.1.2, hk.1.2⟩⟩)⟩, ⟨by (with_reducible repeat (first | apply Kd.R_alloc | apply Kd.R_drewN | apply Kd.R_drew)); exact Kd.R_mono (Kd.R_far (p := ⟨gb456, 2, none⟩) (Kd.R_far (p := ⟨gb456, 1, none⟩) (Kd.R_far (p := ⟨gb456, 0, none⟩) (Kd.R_types HO451.out BK456.out (by decide)) (fun _ hk => hk.2) (.string t448)) (fun _ hk => hk.2) (.slice Ao26 t449.length co26)) (fun _ hk => hk.2) (.slice Ao27 t452.length co27)) (fun _ hk => ⟨hk.1.1.2, ⟨hk.1.2, hk.1.1.1⟩⟩)⟩, ⟨by (with_reducible repeat (first | apply Kd.R_alloc | apply Kd.R_drewN | apply Kd.R_drew)); exact Kd.R_mono (Kd.R_far (p := ⟨gb456, 2, none⟩) (Kd.R_far (p := ⟨gb456, 1, none⟩) (Kd.R_far (p := ⟨gb456, 0, none⟩) (Kd.R_types HO454.out BK456.out (by decide)) (fun _ hk => hk.2) (.string t448)) (fun _ hk => hk.2) (.slice Ao26 t449.length co26)) (fun _ hk => hk.2) (.slice Ao27 t452.length co27)) (fun _ hk => ⟨hk.1.1.2, ⟨hk.1.2, hk.1.1.1⟩⟩)⟩, ⟨by (with_reducible repeat (first | refine kN ?_ _ | refine kD ?_ | refine kA ?_ _)); refine blk_far ?_ NB447_456.out _; (with_reducible repeat (first | refine kN ?_ _ | refine kD ?_ | refine kA ?_ _)); refine blk_far ?_ NB447_456.out _; (with_reducible repeat (first | refine kN ?_ _ | refine kD ?_ | refine kA ?_ _)); refine blk_far ?_ NB447_456.out _; (with_reducible repeat (first | refine kN ?_ _ | refine kD ?_ | refine kA ?_ _)); exact BK447.out⟩, ⟨by (with_reducible repeat (first | refine kN ?_ _ | refine kD ?_ | refine kA ?_ _)); refine blk_put (cs := #[.string t448, .slice Ao26 t449.length co26, .slice none 0 0]) ?_ 2 _ rfl; (with_reducible repeat (first | refine kN ?_ _ | refine kD ?_ | refine kA ?_ _)); refine blk_put (cs := #[.string t448, .slice none 0 0, .slice none 0 0]) ?_ 1 _ rfl; (with_reducible repeat (first | refine kN ?_ _ | refine kD ?_ | refine kA ?_ _)); refine blk_put (cs := #[.string (⟨#[]⟩ : ByteArray), .slice none 0 0, .slice none 0 0]) ?_ 0 _ rfl; (with_reducible repeat (first | refine kN ?_ _ | refine kD ?_ | refine kA ?_ _)); exact BK456.out⟩, ⟨by repeat (first | (with_reducible first | exact HB.out | apply lA | apply lN | apply lD | refine lS ?_ GE447.out | refine lS ?_ GE456.out) | exact HB.out)⟩⟩
           rw [if_neg c35] at H
           have c35b0 : decide (t433 < 0) = false := decide_eq_false c35
           clear c35
           by_cases c36 : (wrap64 (t432 + t431)) > (sa0_.size : Int)
           ·rw [if_pos c36] at H
            have c36b0 : decide ((sa0_.size : Int) < (wrap64 (t432 + t431))) = true := decide_eq_true c36
            clear c36
            have H' := Aside0.mk H
            clear H
            go_wp2
            go_meet
            case rel => exact ⟨_, (true), (by first | rfl | (simp; done) | (simp [*]; done)), H', ⟨by first | omega | exact Nat.le_refl _⟩, ⟨by (with_reducible repeat (first | apply Kd.R_alloc | apply Kd.R_drewN | apply Kd.R_drew)); exact Kd.R_mono (Kd.R_far (p := ⟨gb456, 2, none⟩) (Kd.R_far (p := ⟨gb456, 1, none⟩) (Kd.R_far (p := ⟨gb456, 0, none⟩) (Kd.R_types HO442.out BK456.out (by decide)) (fun _ hk => hk.2) (.string t448)) (fun _ hk => hk.2) (.slice Ao26 t449.length co26)) (fun _ hk => hk.2) (.slice Ao27 t452.length co27)) (fun _ hk => ⟨hk.1.1.1, ⟨hk.1.1.2, hk.1.2⟩⟩)⟩, ⟨by (with_reducible repeat (first | apply Kd.R_alloc | apply Kd.R_drewN | apply Kd.R_drew)); exact Kd.R_mono (Kd.R_far (p := ⟨gb456, 2, none⟩) (Kd.R_far (p := ⟨gb456, 1, none⟩) (Kd.R_far (p := ⟨gb456, 0, none⟩) (Kd.R_types HO445.out BK456.out (by decide)) (fun _ hk => hk.2) (.string t448)) (fun _ hk => hk.2) (.slice Ao26 t449.length co26)) (fun _ hk => hk.2) (.slice Ao27 t452.length co27)) (fun _ hk => ⟨hk.1.1.1, ⟨hk.1.1.2, hk.1.2⟩⟩)⟩, ⟨by (with_reducible repeat (first | apply Kd.R_alloc | apply Kd.R_drewN | apply Kd.R_drew)); exact Kd.R_mono (Kd.R_far (p := ⟨gb456, 2, none⟩) (Kd.R_far (p := ⟨gb456, 1, none⟩) (Kd.R_far (p := ⟨gb456, 0, none⟩) (Kd.R_types HO451.out BK456.out (by decide)) (fun _ hk => hk.2) (.string t448)) (fun _ hk => hk.2) (.slice Ao26 t449.length co26)) (fun _ hk => hk.2) (.slice Ao27 t452.length co27)) (fun _ hk => ⟨hk.1.1.2, ⟨hk.1.2, hk.1.1.1⟩⟩)⟩, ⟨by (with_reducible repeat (first | apply Kd.R_alloc | apply Kd.R_drewN | apply Kd.R_drew)); exact Kd.R_mono (Kd.R_far (p := ⟨gb456, 2, none⟩) (Kd.R_far (p := ⟨gb456, 1, none⟩) (Kd.R_far (p := ⟨gb456, 0, none⟩) (Kd.R_types HO454.out BK456.out (by decide)) (fun _ hk => hk.2) (.string t448)) (fun _ hk => hk.2) (.slice Ao26 t449.length co26)) (fun _ hk => hk.2) (.slice Ao27 t452.length co27)) (fun _ hk => ⟨hk.1.1.2, ⟨hk.1.2, hk.1.1.1⟩⟩)⟩, ⟨by (with_reducible repeat (first | refine kN ?_ _ | refine kD ?_ | refine kA ?_ _)); refine blk_far ?_ NB447_456.out _; (with_reducible repeat (first | refine kN ?_ _ | refine kD ?_ | refine kA ?_ _)); refine blk_far ?_ NB447_456.out _; (with_reducible repeat (first | refine kN ?_ _ | refine kD ?_ | refine kA ?_ _)); refine blk_far ?_ NB447_456.out _; (with_reducible repeat (first | refine kN ?_ _ | refine kD ?_ | refine kA ?_ _)); exact BK447.out⟩, ⟨by (with_reducible repeat (first | refine kN ?_ _ | refine kD ?_ | refine kA ?_ _)); refine blk_put (cs := #[.string t448, .slice Ao26 t449.length co26, .slice none 0 0]) ?_ 2 _ rfl; (with_reducible repeat (first | refine kN ?_ _ | refine kD ?_ | refine kA ?_ _)); refine blk_put (cs := #[.string t448, .slice none 0 0, .slice none 0 0]) ?_ 1 _ rfl; (with_reducible repeat (first | refine kN ?_ _ | refine kD ?_ | refine kA ?_ _)); refine blk_put (cs := #[.string (⟨#[]⟩ : ByteArray), .slice none 0 0, .slice none 0 0]) ?_ 0 _ rfl; (with_reducible repeat (first | refine kN ?_ _ | refine kD ?_ | refine kA ?_ _)); exact BK456.out⟩, ⟨by repeat (first | (with_reducible first | exact HB.out | apply lA | apply lN | apply lD | refine lS ?_ GE447.out | refine lS ?_ GE456.out) | exact HB.out)⟩⟩
           rw [if_neg c36] at H
           have c36b0 : decide ((sa0_.size : Int) < (wrap64 (t432 + t431))) = false := decide_eq_false c36
           clear c36
           have H' := Aside0.mk H
           clear H
           go_wp2
           go_meet
           case rel => exact ⟨_, (decide ((wrap64 (t433 + t431)) > (sa1_.size : Int))), (by first | rfl | (simp; done) | (simp only [← hji6] <;> (first | rfl | simp)) | (simp [*]; done)), H', ⟨by first | omega | exact Nat.le_refl _⟩, ⟨by (with_reducible repeat (first | apply Kd.R_alloc | apply Kd.R_drewN | apply Kd.R_drew)); exact Kd.R_mono (Kd.R_far (p := ⟨gb456, 2, none⟩) (Kd.R_far (p := ⟨gb456, 1, none⟩) (Kd.R_far (p := ⟨gb456, 0, none⟩) (Kd.R_types HO442.out BK456.out (by decide)) (fun _ hk => hk.2) (.string t448)) (fun _ hk => hk.2) (.slice Ao26 t449.length co26)) (fun _ hk => hk.2) (.slice Ao27 t452.length co27)) (fun _ hk => ⟨hk.1.1.1, ⟨hk.1.1.2, hk.1.2⟩⟩)⟩, ⟨by (with_reducible repeat (first | apply Kd.R_alloc | apply Kd.R_drewN | apply Kd.R_drew)); exact Kd.R_mono (Kd.R_far (p := ⟨gb456, 2, none⟩) (Kd.R_far (p := ⟨gb456, 1, none⟩) (Kd.R_far (p := ⟨gb456, 0, none⟩) (Kd.R_types HO445.out BK456.out (by decide)) (fun _ hk => hk.2) (.string t448)) (fun _ hk => hk.2) (.slice Ao26 t449.length co26)) (fun _ hk => hk.2) (.slice Ao27 t452.length co27)) (fun _ hk => ⟨hk.1.1.1, ⟨hk.1.1.2, hk.1.2⟩⟩)⟩, ⟨by (with_reducible repeat (first | apply Kd.R_alloc | apply Kd.R_drewN | apply Kd.R_drew)); exact Kd.R_mono (Kd.R_far (p := ⟨gb456, 2, none⟩) (Kd.R_far (p := ⟨gb456, 1, none⟩) (Kd.R_far (p := ⟨gb456, 0, none⟩) (Kd.R_types HO451.out BK456.out (by decide)) (fun _ hk => hk.2) (.string t448)) (fun _ hk => hk.2) (.slice Ao26 t449.length co26)) (fun _ hk => hk.2) (.slice Ao27 t452.length co27)) (fun _ hk => ⟨hk.1.1.2, ⟨hk.1.2, hk.1.1.1⟩⟩)⟩, ⟨by (with_reducible repeat (first | apply Kd.R_alloc | apply Kd.R_drewN | apply Kd.R_drew)); exact Kd.R_mono (Kd.R_far (p := ⟨gb456, 2, none⟩) (Kd.R_far (p := ⟨gb456, 1, none⟩) (Kd.R_far (p := ⟨gb456, 0, none⟩) (Kd.R_types HO454.out BK456.out (by decide)) (fun _ hk => hk.2) (.string t448)) (fun _ hk => hk.2) (.slice Ao26 t449.length co26)) (fun _ hk => hk.2) (.slice Ao27 t452.length co27)) (fun _ hk => ⟨hk.1.1.2, ⟨hk.1.2, hk.1.1.1⟩⟩)⟩, ⟨by (with_reducible repeat (first | refine kN ?_ _ | refine kD ?_ | refine kA ?_ _)); refine blk_far ?_ NB447_456.out _; (with_reducible repeat (first | refine kN ?_ _ | refine kD ?_ | refine kA ?_ _)); refine blk_far ?_ NB447_456.out _; (with_reducible repeat (first | refine kN ?_ _ | refine kD ?_ | refine kA ?_ _)); refine blk_far ?_ NB447_456.out _; (with_reducible repeat (first | refine kN ?_ _ | refine kD ?_ | refine kA ?_ _)); exact BK447.out⟩, ⟨by (with_reducible repeat (first | refine kN ?_ _ | refine kD ?_ | refine kA ?_ _)); refine blk_put (cs := #[.string t448, .slice Ao26 t449.length co26, .slice none 0 0]) ?_ 2 _ rfl; (with_reducible repeat (first | refine kN ?_ _ | refine kD ?_ | refine kA ?_ _)); refine blk_put (cs := #[.string t448, .slice none 0 0, .slice none 0 0]) ?_ 1 _ rfl; (with_reducible repeat (first | refine kN ?_ _ | refine kD ?_ | refine kA ?_ _)); refine blk_put (cs := #[.string (⟨#[]⟩ : ByteArray), .slice none 0 0, .slice none 0 0]) ?_ 0 _ rfl; (with_reducible repeat (first | refine kN ?_ _ | refine kD ?_ | refine kA ?_ _)); exact BK456.out⟩, ⟨by repeat (first | (with_reducible first | exact HB.out | apply lA | apply lN | apply lD | refine lS ?_ GE447.out | refine lS ?_ GE456.out) | exact HB.out)⟩⟩
          rw [if_neg c32] at H
          have c32b0 : (t431 == t435) = false := beq_eq_false_iff_ne.mpr c32
          have c32b1 : (t431 != t435) = true := bne_iff_ne.mpr c32
          have H' := Aside0.mk H
          clear H
          go_wp2
          go_meet
          case rel => exact ⟨_, (true), (by first | rfl | (simp; done) | (simp [*]; done)), H', ⟨by first | omega | exact Nat.le_refl _⟩, ⟨by (with_reducible repeat (first | apply Kd.R_alloc | apply Kd.R_drewN | apply Kd.R_drew)); exact Kd.R_mono (Kd.R_far (p := ⟨gb456, 2, none⟩) (Kd.R_far (p := ⟨gb456, 1, none⟩) (Kd.R_far (p := ⟨gb456, 0, none⟩) (Kd.R_types HO442.out BK456.out (by decide)) (fun _ hk => hk.2) (.string t448)) (fun _ hk => hk.2) (.slice Ao26 t449.length co26)) (fun _ hk => hk.2) (.slice Ao27 t452.length co27)) (fun _ hk => ⟨hk.1.1.1, ⟨hk.1.1.2, hk.1.2⟩⟩)⟩, ⟨by (with_reducible repeat (first | apply Kd.R_alloc | apply Kd.R_drewN | apply Kd.R_drew)); exact Kd.R_mono (Kd.R_far (p := ⟨gb456, 2, none⟩) (Kd.R_far (p := ⟨gb456, 1, none⟩) (Kd.R_far (p := ⟨gb456, 0, none⟩) (Kd.R_types HO445.out BK456.out (by decide)) (fun _ hk => hk.2) (.string t448)) (fun _ hk => hk.2) (.slice Ao26 t449.length co26)) (fun _ hk => hk.2) (.slice Ao27 t452.length co27)) (fun _ hk => ⟨hk.1.1.1, ⟨hk.1.1.2, hk.1.2⟩⟩)⟩, ⟨by (with_reducible repeat (first | apply Kd.R_alloc | apply Kd.R_drewN | apply Kd.R_drew)); exact Kd.R_mono (Kd.R_far (p := ⟨gb456, 2, none⟩) (Kd.R_far (p := ⟨gb456, 1, none⟩) (Kd.R_far (p := ⟨gb456, 0, none⟩) (Kd.R_types HO451.out BK456.out (by decide)) (fun _ hk => hk.2) (.string t448)) (fun _ hk => hk.2) (.slice Ao26 t449.length co26)) (fun _ hk => hk.2) (.slice Ao27 t452.length co27)) (fun _ hk => ⟨hk.1.1.2, ⟨hk.1.2, hk.1.1.1⟩⟩)⟩, ⟨by (with_reducible repeat (first | apply Kd.R_alloc | apply Kd.R_drewN | apply Kd.R_drew)); exact Kd.R_mono (Kd.R_far (p := ⟨gb456, 2, none⟩) (Kd.R_far (p := ⟨gb456, 1, none⟩) (Kd.R_far (p := ⟨gb456, 0, none⟩) (Kd.R_types HO454.out BK456.out (by decide)) (fun _ hk => hk.2) (.string t448)) (fun _ hk => hk.2) (.slice Ao26 t449.length co26)) (fun _ hk => hk.2) (.slice Ao27 t452.length co27)) (fun _ hk => ⟨hk.1.1.2, ⟨hk.1.2, hk.1.1.1⟩⟩)⟩, ⟨by (with_reducible repeat (first | refine kN ?_ _ | refine kD ?_ | refine kA ?_ _)); refine blk_far ?_ NB447_456.out _; (with_reducible repeat (first | refine kN ?_ _ | refine kD ?_ | refine kA ?_ _)); refine blk_far ?_ NB447_456.out _; (with_reducible repeat (first | refine kN ?_ _ | refine kD ?_ | refine kA ?_ _)); refine blk_far ?_ NB447_456.out _; (with_reducible repeat (first | refine kN ?_ _ | refine kD ?_ | refine kA ?_ _)); exact BK447.out⟩, ⟨by (with_reducible repeat (first | refine kN ?_ _ | refine kD ?_ | refine kA ?_ _)); refine blk_put (cs := #[.string t448, .slice Ao26 t449.length co26, .slice none 0 0]) ?_ 2 _ rfl; (with_reducible repeat (first | refine kN ?_ _ | refine kD ?_ | refine kA ?_ _)); refine blk_put (cs := #[.string t448, .slice none 0 0, .slice none 0 0]) ?_ 1 _ rfl; (with_reducible repeat (first | refine kN ?_ _ | refine kD ?_ | refine kA ?_ _)); refine blk_put (cs := #[.string (⟨#[]⟩ : ByteArray), .slice none 0 0, .slice none 0 0]) ?_ 0 _ rfl; (with_reducible repeat (first | refine kN ?_ _ | refine kD ?_ | refine kA ?_ _)); exact BK456.out⟩, ⟨by repeat (first | (with_reducible first | exact HB.out | apply lA | apply lN | apply lD | refine lS ?_ GE447.out | refine lS ?_ GE456.out) | exact HB.out)⟩⟩
         rw [if_neg c31] at H
         have c31b0 : (t455 == 0) = false := beq_eq_false_iff_ne.mpr c31
         have c31b1 : (t455 != 0) = true := bne_iff_ne.mpr c31
         have H' := Aside0.mk H
         clear H
         go_wp2
         go_meet
         case rel => exact ⟨_, (true), (by first | rfl | (simp; done) | (simp [*]; done)), H', ⟨by first | omega | exact Nat.le_refl _⟩, ⟨by (with_reducible repeat (first | apply Kd.R_alloc | apply Kd.R_drewN | apply Kd.R_drew)); exact Kd.R_mono (Kd.R_far (p := ⟨gb456, 2, none⟩) (Kd.R_far (p := ⟨gb456, 1, none⟩) (Kd.R_far (p := ⟨gb456, 0, none⟩) (Kd.R_types HO442.out BK456.out (by decide)) (fun _ hk => hk.2) (.string t448)) (fun _ hk => hk.2) (.slice Ao26 t449.length co26)) (fun _ hk => hk.2) (.slice Ao27 t452.length co27)) (fun _ hk => ⟨hk.1.1.1, ⟨hk.1.1.2, hk.1.2⟩⟩)⟩, ⟨by (with_reducible repeat (first | apply Kd.R_alloc | apply Kd.R_drewN | apply Kd.R_drew)); exact Kd.R_mono (Kd.R_far (p := ⟨gb456, 2, none⟩) (Kd.R_far (p := ⟨gb456, 1, none⟩) (Kd.R_far (p := ⟨gb456, 0, none⟩) (Kd.R_types HO445.out BK456.out (by decide)) (fun _ hk => hk.2) (.string t448)) (fun _ hk => hk.2) (.slice Ao26 t449.length co26)) (fun _ hk => hk.2) (.slice Ao27 t452.length co27)) (fun _ hk => ⟨hk.1.1.1, ⟨hk.1.1.2, hk.1.2⟩⟩)⟩, ⟨by (with_reducible repeat (first | apply Kd.R_alloc | apply Kd.R_drewN | apply Kd.R_drew)); exact Kd.R_mono (Kd.R_far (p := ⟨gb456, 2, none⟩) (Kd.R_far (p := ⟨gb456, 1, none⟩) (Kd.R_far (p := ⟨gb456, 0, none⟩) (Kd.R_types HO451.out BK456.out (by decide)) (fun _ hk => hk.2) (.string t448)) (fun _ hk => hk.2) (.slice Ao26 t449.length co26)) (fun _ hk => hk.2) (.slice Ao27 t452.length co27)) (fun _ hk => ⟨hk.1.1.2, ⟨hk.1.2, hk.1.1.1⟩⟩)⟩, ⟨by (with_reducible repeat (first | apply Kd.R_alloc | apply Kd.R_drewN | apply Kd.R_drew)); exact Kd.R_mono (Kd.R_far (p := ⟨gb456, 2, none⟩) (Kd.R_far (p := ⟨gb456, 1, none⟩) (Kd.R_far (p := ⟨gb456, 0, none⟩) (Kd.R_types HO454.out BK456.out (by decide)) (fun _ hk => hk.2) (.string t448)) (fun _ hk => hk.2) (.slice Ao26 t449.length co26)) (fun _ hk => hk.2) (.slice Ao27 t452.length co27)) (fun _ hk => ⟨hk.1.1.2, ⟨hk.1.2, hk.1.1.1⟩⟩)⟩, ⟨by (with_reducible repeat (first | refine kN ?_ _ | refine kD ?_ | refine kA ?_ _)); refine blk_far ?_ NB447_456.out _; (with_reducible repeat (first | refine kN ?_ _ | refine kD ?_ | refine kA ?_ _)); refine blk_far ?_ NB447_456.out _; (with_reducible repeat (first | refine kN ?_ _ | refine kD ?_ | refine kA ?_ _)); refine blk_far ?_ NB447_456.out _; (with_reducible repeat (first | refine kN ?_ _ | refine kD ?_ | refine kA ?_ _)); exact BK447.out⟩, ⟨by (with_reducible repeat (first | refine kN ?_ _ | refine kD ?_ | refine kA ?_ _)); refine blk_put (cs := #[.string t448, .slice Ao26 t449.length co26, .slice none 0 0]) ?_ 2 _ rfl; (with_reducible repeat (first | refine kN ?_ _ | refine kD ?_ | refine kA ?_ _)); refine blk_put (cs := #[.string t448, .slice none 0 0, .slice none 0 0]) ?_ 1 _ rfl; (with_reducible repeat (first | refine kN ?_ _ | refine kD ?_ | refine kA ?_ _)); refine blk_put (cs := #[.string (⟨#[]⟩ : ByteArray), .slice none 0 0, .slice none 0 0]) ?_ 0 _ rfl; (with_reducible repeat (first | refine kN ?_ _ | refine kD ?_ | refine kA ?_ _)); exact BK456.out⟩, ⟨by repeat (first | (with_reducible first | exact HB.out | apply lA | apply lN | apply lD | refine lS ?_ GE447.out | refine lS ?_ GE456.out) | exact HB.out)⟩⟩
        rw [if_neg c30] at H
        have c30b0 : (t446 == 0) = false := beq_eq_false_iff_ne.mpr c30
        have c30b1 : (t446 != 0) = true := bne_iff_ne.mpr c30
        have H' := Aside0.mk H
        clear H
        go_wp2
        go_meet
        case rel => exact ⟨_, (true), (by first | rfl | (simp; done) | (simp [*]; done)), H', ⟨by first | omega | exact Nat.le_refl _⟩, ⟨by (with_reducible repeat (first | apply Kd.R_alloc | apply Kd.R_drewN | apply Kd.R_drew)); exact Kd.R_mono (Kd.R_far (p := ⟨gb456, 2, none⟩) (Kd.R_far (p := ⟨gb456, 1, none⟩) (Kd.R_far (p := ⟨gb456, 0, none⟩) (Kd.R_types HO442.out BK456.out (by decide)) (fun _ hk => hk.2) (.string t448)) (fun _ hk => hk.2) (.slice Ao26 t449.length co26)) (fun _ hk => hk.2) (.slice Ao27 t452.length co27)) (fun _ hk => ⟨hk.1.1.1, ⟨hk.1.1.2, hk.1.2⟩⟩)⟩, ⟨by (with_reducible repeat (first | apply Kd.R_alloc | apply Kd.R_drewN | apply Kd.R_drew)); exact Kd.R_mono (Kd.R_far (p := ⟨gb456, 2, none⟩) (Kd.R_far (p := ⟨gb456, 1, none⟩) (Kd.R_far (p := ⟨gb456, 0, none⟩) (Kd.R_types HO445.out BK456.out (by decide)) (fun _ hk => hk.2) (.string t448)) (fun _ hk => hk.2) (.slice Ao26 t449.length co26)) (fun _ hk => hk.2) (.slice Ao27 t452.length co27)) (fun _ hk => ⟨hk.1.1.1, ⟨hk.1.1.2, hk.1.2⟩⟩)⟩, ⟨by (with_reducible repeat (first | apply Kd.R_alloc | apply Kd.R_drewN | apply Kd.R_drew)); exact Kd.R_mono (Kd.R_far (p := ⟨gb456, 2, none⟩) (Kd.R_far (p := ⟨gb456, 1, none⟩) (Kd.R_far (p := ⟨gb456, 0, none⟩) (Kd.R_types HO451.out BK456.out (by decide)) (fun _ hk => hk.2) (.string t448)) (fun _ hk => hk.2) (.slice Ao26 t449.length co26)) (fun _ hk => hk.2) (.slice Ao27 t452.length co27)) (fun _ hk => ⟨hk.1.1.2, ⟨hk.1.2, hk.1.1.1⟩⟩)⟩, ⟨by (with_reducible repeat (first | apply Kd.R_alloc | apply Kd.R_drewN | apply Kd.R_drew)); exact Kd.R_mono (Kd.R_far (p := ⟨gb456, 2, none⟩) (Kd.R_far (p := ⟨gb456, 1, none⟩) (Kd.R_far (p := ⟨gb456, 0, none⟩) (Kd.R_types HO454.out BK456.out (by decide)) (fun _ hk => hk.2) (.string t448)) (fun _ hk => hk.2) (.slice Ao26 t449.length co26)) (fun _ hk => hk.2) (.slice Ao27 t452.length co27)) (fun _ hk => ⟨hk.1.1.2, ⟨hk.1.2, hk.1.1.1⟩⟩)⟩, ⟨by (with_reducible repeat (first | refine kN ?_ _ | refine kD ?_ | refine kA ?_ _)); refine blk_far ?_ NB447_456.out _; (with_reducible repeat (first | refine kN ?_ _ | refine kD ?_ | refine kA ?_ _)); refine blk_far ?_ NB447_456.out _; (with_reducible repeat (first | refine kN ?_ _ | refine kD ?_ | refine kA ?_ _)); refine blk_far ?_ NB447_456.out _; (with_reducible repeat (first | refine kN ?_ _ | refine kD ?_ | refine kA ?_ _)); exact BK447.out⟩, ⟨by (with_reducible repeat (first | refine kN ?_ _ | refine kD ?_ | refine kA ?_ _)); refine blk_put (cs := #[.string t448, .slice Ao26 t449.length co26, .slice none 0 0]) ?_ 2 _ rfl; (with_reducible repeat (first | refine kN ?_ _ | refine kD ?_ | refine kA ?_ _)); refine blk_put (cs := #[.string t448, .slice none 0 0, .slice none 0 0]) ?_ 1 _ rfl; (with_reducible repeat (first | refine kN ?_ _ | refine kD ?_ | refine kA ?_ _)); refine blk_put (cs := #[.string (⟨#[]⟩ : ByteArray), .slice none 0 0, .slice none 0 0]) ?_ 0 _ rfl; (with_reducible repeat (first | refine kN ?_ _ | refine kD ?_ | refine kA ?_ _)); exact BK456.out⟩, ⟨by repeat (first | (with_reducible first | exact HB.out | apply lA | apply lN | apply lD | refine lS ?_ GE447.out | refine lS ?_ GE456.out) | exact HB.out)⟩⟩
       rw [if_neg c29] at H
       have c29b0 : (t438 == 0) = false := beq_eq_false_iff_ne.mpr c29
       have c29b1 : (t438 != 0) = true := bne_iff_ne.mpr c29
       have H' := Aside0.mk H
       clear H
       go_wp2
       go_meet
       case rel => exact ⟨_, (true), (by first | rfl | (simp; done) | (simp [*]; done)), H', ⟨by first | omega | exact Nat.le_refl _⟩, ⟨by (with_reducible repeat (first | apply Kd.R_alloc | apply Kd.R_drewN | apply Kd.R_drew)); exact Kd.R_mono (Kd.R_far (p := ⟨gb456, 2, none⟩) (Kd.R_far (p := ⟨gb456, 1, none⟩) (Kd.R_far (p := ⟨gb456, 0, none⟩) (Kd.R_types HO442.out BK456.out (by decide)) (fun _ hk => hk.2) (.string t448)) (fun _ hk => hk.2) (.slice Ao26 t449.length co26)) (fun _ hk => hk.2) (.slice Ao27 t452.length co27)) (fun _ hk => ⟨hk.1.1.1, ⟨hk.1.1.2, hk.1.2⟩⟩)⟩, ⟨by (with_reducible repeat (first | apply Kd.R_alloc | apply Kd.R_drewN | apply Kd.R_drew)); exact Kd.R_mono (Kd.R_far (p := ⟨gb456, 2, none⟩) (Kd.R_far (p := ⟨gb456, 1, none⟩) (Kd.R_far (p := ⟨gb456, 0, none⟩) (Kd.R_types HO445.out BK456.out (by decide)) (fun _ hk => hk.2) (.string t448)) (fun _ hk => hk.2) (.slice Ao26 t449.length co26)) (fun _ hk => hk.2) (.slice Ao27 t452.length co27)) (fun _ hk => ⟨hk.1.1.1, ⟨hk.1.1.2, hk.1.2⟩⟩)⟩, ⟨by (with_reducible repeat (first | apply Kd.R_alloc | apply Kd.R_drewN | apply Kd.R_drew)); exact Kd.R_mono (Kd.R_far (p := ⟨gb456, 2, none⟩) (Kd.R_far (p := ⟨gb456, 1, none⟩) (Kd.R_far (p := ⟨gb456, 0, none⟩) (Kd.R_types HO451.out BK456.out (by decide)) (fun _ hk => hk.2) (.string t448)) (fun _ hk => hk.2) (.slice Ao26 t449.length co26)) (fun _ hk => hk.2) (.slice Ao27 t452.length co27)) (fun _ hk => ⟨hk.1.1.2, ⟨hk.1.2, hk.1.1.1⟩⟩)⟩, ⟨by (with_reducible repeat (first | apply Kd.R_alloc | apply Kd.R_drewN | apply Kd.R_drew)); exact Kd.R_mono (Kd.R_far (p := ⟨gb456, 2, none⟩) (Kd.R_far (p := ⟨gb456, 1, none⟩) (Kd.R_far (p := ⟨gb456, 0, none⟩) (Kd.R_types HO454.out BK456.out (by decide)) (fun _ hk => hk.2) (.string t448)) (fun _ hk => hk.2) (.slice Ao26 t449.length co26)) (fun _ hk => hk.2) (.slice Ao27 t452.length co27)) (fun _ hk => ⟨hk.1.1.2, ⟨hk.1.2, hk.1.1.1⟩⟩)⟩, ⟨by (with_reducible repeat (first | refine kN ?_ _ | refine kD ?_ | refine kA ?_ _)); refine blk_far ?_ NB447_456.out _; (with_reducible repeat (first | refine kN ?_ _ | refine kD ?_ | refine kA ?_ _)); refine blk_far ?_ NB447_456.out _; (with_reducible repeat (first | refine kN ?_ _ | refine kD ?_ | refine kA ?_ _)); refine blk_far ?_ NB447_456.out _; (with_reducible repeat (first | refine kN ?_ _ | refine kD ?_ | refine kA ?_ _)); exact BK447.out⟩, ⟨by (with_reducible repeat (first | refine kN ?_ _ | refine kD ?_ | refine kA ?_ _)); refine blk_put (cs := #[.string t448, .slice Ao26 t449.length co26, .slice none 0 0]) ?_ 2 _ rfl; (with_reducible repeat (first | refine kN ?_ _ | refine kD ?_ | refine kA ?_ _)); refine blk_put (cs := #[.string t448, .slice none 0 0, .slice none 0 0]) ?_ 1 _ rfl; (with_reducible repeat (first | refine kN ?_ _ | refine kD ?_ | refine kA ?_ _)); refine blk_put (cs := #[.string (⟨#[]⟩ : ByteArray), .slice none 0 0, .slice none 0 0]) ?_ 0 _ rfl; (with_reducible repeat (first | refine kN ?_ _ | refine kD ?_ | refine kA ?_ _)); exact BK456.out⟩, ⟨by repeat (first | (with_reducible first | exact HB.out | apply lA | apply lN | apply lD | refine lS ?_ GE447.out | refine lS ?_ GE456.out) | exact HB.out)⟩⟩
      rw [if_neg c28] at H
      have c28b0 : (t434 == 0) = false := beq_eq_false_iff_ne.mpr c28
      have c28b1 : (t434 != 0) = true := bne_iff_ne.mpr c28
      (first | rw [c28b0] | (simp only [i64_w, i32_w]; rw [c28b0]) | rw [c28b1] | skip)
      have H' := Aside0.mk H
      clear H
      go_wp2
      go_meet
      case rel => exact ⟨_, (true), (by first | rfl | (simp; done) | (simp [*]; done)), H', ⟨by first | omega | exact Nat.le_refl _⟩, ⟨by (with_reducible repeat (first | apply Kd.R_alloc | apply Kd.R_drewN | apply Kd.R_drew)); exact Kd.R_mono (Kd.R_far (p := ⟨gb456, 2, none⟩) (Kd.R_far (p := ⟨gb456, 1, none⟩) (Kd.R_far (p := ⟨gb456, 0, none⟩) (Kd.R_types HO442.out BK456.out (by decide)) (fun _ hk => hk.2) (.string t448)) (fun _ hk => hk.2) (.slice Ao26 t449.length co26)) (fun _ hk => hk.2) (.slice Ao27 t452.length co27)) (fun _ hk => ⟨hk.1.1.1, ⟨hk.1.1.2, hk.1.2⟩⟩)⟩, ⟨by (with_reducible repeat (first | apply Kd.R_alloc | apply Kd.R_drewN | apply Kd.R_drew)); exact Kd.R_mono (Kd.R_far (p := ⟨gb456, 2, none⟩) (Kd.R_far (p := ⟨gb456, 1, none⟩) (Kd.R_far (p := ⟨gb456, 0, none⟩) (Kd.R_types HO445.out BK456.out (by decide)) (fun _ hk => hk.2) (.string t448)) (fun _ hk => hk.2) (.slice Ao26 t449.length co26)) (fun _ hk => hk.2) (.slice Ao27 t452.length co27)) (fun _ hk => ⟨hk.1.1.1, ⟨hk.1.1.2, hk.1.2⟩⟩)⟩, ⟨by (with_reducible repeat (first | apply Kd.R_alloc | apply Kd.R_drewN | apply Kd.R_drew)); exact Kd.R_mono (Kd.R_far (p := ⟨gb456, 2, none⟩) (Kd.R_far (p := ⟨gb456, 1, none⟩) (Kd.R_far (p := ⟨gb456, 0, none⟩) (Kd.R_types HO451.out BK456.out (by decide)) (fun _ hk => hk.2) (.string t448)) (fun _ hk => hk.2) (.slice Ao26 t449.length co26)) (fun _ hk => hk.2) (.slice Ao27 t452.length co27)) (fun _ hk => ⟨hk.1.1.2, ⟨hk.1.2, hk.1.1.1⟩⟩)⟩, ⟨by (with_reducible repeat (first | apply Kd.R_alloc | apply Kd.R_drewN | apply Kd.R_drew)); exact Kd.R_mono (Kd.R_far (p := ⟨gb456, 2, none⟩) (Kd.R_far (p := ⟨gb456, 1, none⟩) (Kd.R_far (p := ⟨gb456, 0, none⟩) (Kd.R_types HO454.out BK456.out (by decide)) (fun _ hk => hk.2) (.string t448)) (fun _ hk => hk.2) (.slice Ao26 t449.length co26)) (fun _ hk => hk.2) (.slice Ao27 t452.length co27)) (fun _ hk => ⟨hk.1.1.2, ⟨hk.1.2, hk.1.1.1⟩⟩)⟩, ⟨by (with_reducible repeat (first | refine kN ?_ _ | refine kD ?_ | refine kA ?_ _)); refine blk_far ?_ NB447_456.out _; (with_reducible repeat (first | refine kN ?_ _ | refine kD ?_ | refine kA ?_ _)); refine blk_far ?_ NB447_456.out _; (with_reducible repeat (first | refine kN ?_ _ | refine kD ?_ | refine kA ?_ _)); refine blk_far ?_ NB447_456.out _; (with_reducible repeat (first | refine kN ?_ _ | refine kD ?_ | refine kA ?_ _)); exact BK447.out⟩, ⟨by (with_reducible repeat (first | refine kN ?_ _ | refine kD ?_ | refine kA ?_ _)); refine blk_put (cs := #[.string t448, .slice Ao26 t449.length co26, .slice none 0 0]) ?_ 2 _ rfl; (with_reducible repeat (first | refine kN ?_ _ | refine kD ?_ | refine kA ?_ _)); refine blk_put (cs := #[.string t448, .slice none 0 0, .slice none 0 0]) ?_ 1 _ rfl; (with_reducible repeat (first | refine kN ?_ _ | refine kD ?_ | refine kA ?_ _)); refine blk_put (cs := #[.string (⟨#[]⟩ : ByteArray), .slice none 0 0, .slice none 0 0]) ?_ 0 _ rfl; (with_reducible repeat (first | refine kN ?_ _ | refine kD ?_ | refine kA ?_ _)); exact BK456.out⟩, ⟨by repeat (first | (with_reducible first | exact HB.out | apply lA | apply lN | apply lD | refine lS ?_ GE447.out | refine lS ?_ GE456.out) | exact HB.out)⟩⟩
     case rest =>
      clear HC13
      try clear c1
      try clear c2
      try clear p2
      try clear c3
      try clear c4
      try clear c4b0
      try clear c4b1
      try clear c5
      try clear c5b0
      try clear c5b1
      try clear p6
      try clear c7
      try clear c7b0
      try clear c7b1
      try clear c8
      try clear c8b0
      try clear c8b1
      try clear c14
      try clear c16
      try clear c24
      try clear c28
      try clear c28b0
      try clear c28b1
      try clear c29
      try clear c29b0
      try clear c29b1
      try clear c30
      try clear c30b0
      try clear c30b1
      try clear c31
      try clear c31b0
      try clear c31b1
      try clear c32
      try clear c32b0
      try clear c32b1
      try clear c33
      try clear c33b0
      try clear c34
      try clear c34b0
      try clear c35
      try clear c35b0
      try clear c36
      try clear c36b0
      try clear hcz19_0
      try clear hcz19_1
      try clear hcz19_2
      try clear hcz25_0
      try clear hcz25_1
      try clear hcz25_2
      try clear hfz19_0
      try clear hfz19_1
      try clear hfz19_2
      try clear hfz25_0
      try clear hfz25_1
      try clear hfz25_2
      obtain ⟨kq, x104_12, rfl, HA, HJ12, HO_448001, HO_448002, HO_457001, HO_457002, BK447, BK456, HB⟩ := hcut
      as_aux_lemma =>
       cases kq with
       | zero => exact absurd HA.out (by simp [silversidelaw07_FindBoth.j0])
       | succ kj12 =>
        have H := HA.out
        clear HA
        simp only [silversidelaw07_FindBoth.j0] at H
        by_cases c37 : x104_12 = true
        ·subst c37
         exact absurd ((Option.some.inj (show (some false : Option Bool) = some r from by rw [if_pos rfl] at H; exact H)).trans hr_.out) (by decide)
        ·replace c37 := Bool.eq_false_iff.mpr c37
         subst c37
         have H1 : (if t431 = 0 then (silversidelaw07_FindBoth.l0 kj12 sa0_ t432 t433 0 t448 t449 t452) else (if 0 ≤ t432 then (if t432 ≤ (wrap64 (t432 + t431)) then (if (wrap64 (t432 + t431)) ≤ (sa0_.size : Int) then ((find_Index_Find.f t439 t440 t443 (sa0_.extract (t432 : Int).toNat ((wrap64 (t432 + t431)) : Int).toNat)).bind fun t459 => ((find_Index_Find.f t448 t449 t452 (sa0_.extract (t432 : Int).toNat ((wrap64 (t432 + t431)) : Int).toNat)).bind fun t462 => (if (t459.length : Int) = 0 then (silversidelaw07_FindBoth.j2 kj12 sa0_ t431 t432 true t448 t449 t452) else (if 0 < (t459.length : Int) then (if (rd t459 0) = t432 then (if (t462.length : Int) = 0 then (silversidelaw07_FindBoth.j2 kj12 sa0_ t431 t432 true t448 t449 t452) else (if 0 < (t462.length : Int) then (silversidelaw07_FindBoth.j2 kj12 sa0_ t431 t432 ((rd t462 0) != t433) t448 t449 t452) else (none))) else (silversidelaw07_FindBoth.j2 kj12 sa0_ t431 t432 true t448 t449 t452)) else (none))))) else (none)) else (none)) else (none))) = some r := by rw [if_neg (show ¬ (false = true) by decide)] at H; exact H
         clear H
         have H := H1
         clear H1
         by_cases c38 : t431 = 0
         ·rw [if_pos c38] at H
          have c38b0 : (t431 == 0) = true := beq_iff_eq.mpr c38
          have c38b1 : (t431 != 0) = false := bne_eq_false_iff_eq.mpr c38
          clear c38
          have H' := Aside0.mk H
          clear H
          go_wp2
          go_loopg [17] kj12 (fun kq v17 w' => ∃ (x17_2 : Int), v17 = .int .i64 x17_2 ∧ Aside0 (silversidelaw07_FindBoth.l0 kq sa0_ t432 t433 x17_2 t448 t449 t452 = some r) ∧ Aside0 (kq ≤ kj12) ∧ Aside0 (Kd.R (Kd.int .i64) 3 w' w.heap.size (fun k_ => some k_ ≠ ((.slice Ao21 t443.length co21) : Value).ownBlock ∧ some k_ ≠ ((.slice Ao26 t449.length co26) : Value).ownBlock ∧ some k_ ≠ ((.slice Ao27 t452.length co27) : Value).ownBlock) (.slice Ao20 t440.length co20) t440) ∧ Aside0 (Kd.R (Kd.int .i64) 3 w' w.heap.size (fun k_ => some k_ ≠ ((.slice Ao20 t440.length co20) : Value).ownBlock ∧ some k_ ≠ ((.slice Ao26 t449.length co26) : Value).ownBlock ∧ some k_ ≠ ((.slice Ao27 t452.length co27) : Value).ownBlock) (.slice Ao21 t443.length co21) t443) ∧ Aside0 (Kd.R (Kd.int .i64) 3 w' w.heap.size (fun k_ => some k_ ≠ ((.slice Ao20 t440.length co20) : Value).ownBlock ∧ some k_ ≠ ((.slice Ao21 t443.length co21) : Value).ownBlock ∧ some k_ ≠ ((.slice Ao27 t452.length co27) : Value).ownBlock) (.slice Ao26 t449.length co26) t449) ∧ Aside0 (Kd.R (Kd.int .i64) 3 w' w.heap.size (fun k_ => some k_ ≠ ((.slice Ao20 t440.length co20) : Value).ownBlock ∧ some k_ ≠ ((.slice Ao21 t443.length co21) : Value).ownBlock ∧ some k_ ≠ ((.slice Ao26 t449.length co26) : Value).ownBlock) (.slice Ao27 t452.length co27) t452) ∧ Aside0 (w'.heap[gb447]? = some (.cells #[.string t439, (.slice Ao20 t440.length co20), (.slice Ao21 t443.length co21)] 24 (0, 0))) ∧ Aside0 (w'.heap[gb456]? = some (.cells #[.string t448, (.slice Ao26 t449.length co26), (.slice Ao27 t452.length co27)] 24 (0, 0))) ∧ Aside0 (Below w.heap.size w w'))
          case atStart => exact ⟨(0), (by first | rfl | (simp; done) | (simp [*]; done)), H', ⟨Nat.le_refl _⟩, ⟨by (with_reducible repeat (first | apply Kd.R_alloc | apply Kd.R_drewN | apply Kd.R_drew)); exact HO_448001.out⟩, ⟨by (with_reducible repeat (first | apply Kd.R_alloc | apply Kd.R_drewN | apply Kd.R_drew)); exact HO_448002.out⟩, ⟨by (with_reducible repeat (first | apply Kd.R_alloc | apply Kd.R_drewN | apply Kd.R_drew)); exact HO_457001.out⟩, ⟨by (with_reducible repeat (first | apply Kd.R_alloc | apply Kd.R_drewN | apply Kd.R_drew)); exact HO_457002.out⟩, ⟨by (with_reducible repeat (first | refine kN ?_ _ | refine kD ?_ | refine kA ?_ _)); exact BK447.out⟩, ⟨by (with_reducible repeat (first | refine kN ?_ _ | refine kD ?_ | refine kA ?_ _)); exact BK456.out⟩, ⟨by repeat (first | (with_reducible first | exact HB.out | apply lA | apply lN | apply lD | refine lS ?_ GE447.out | refine lS ?_ GE456.out) | exact HB.out)⟩⟩
          case round =>
           as_aux_lemma =>
            clear H'
            try clear c1
            try clear c2
            try clear p2
            try clear c3
            try clear c4
            try clear c4b0
            try clear c4b1
            try clear c5
            try clear c5b0
            try clear c5b1
            try clear p6
            try clear c7
            try clear c7b0
            try clear c7b1
            try clear c8
            try clear c8b0
            try clear c8b1
            try clear c14
            try clear c16
            try clear c24
            try clear c28
            try clear c28b0
            try clear c28b1
            try clear c29
            try clear c29b0
            try clear c29b1
            try clear c30
            try clear c30b0
            try clear c30b1
            try clear c31
            try clear c31b0
            try clear c31b1
            try clear c32
            try clear c32b0
            try clear c32b1
            try clear c33
            try clear c33b0
            try clear c34
            try clear c34b0
            try clear c35
            try clear c35b0
            try clear c36
            try clear c36b0
            try clear c37
            try clear c38
            try clear c38b0
            try clear c38b1
            try clear hcz19_0
            try clear hcz19_1
            try clear hcz19_2
            try clear hcz25_0
            try clear hcz25_1
            try clear hcz25_2
            try clear hfz19_0
            try clear hfz19_1
            try clear hfz19_2
            try clear hfz25_0
            try clear hfz25_1
            try clear hfz25_2
            try clear p2
            try clear p6
            obtain ⟨x17_2, rfl, HA, HK2, HO_448001, HO_448002, HO_457001, HO_457002, BK447, BK456, HB⟩ := hrel
            cases gk with
            | zero => exact absurd HA.out (by simp [silversidelaw07_FindBoth.l0])
            | succ k2 =>
             have H := HA.out
             clear HA
             simp only [silversidelaw07_FindBoth.l0] at H
             by_cases c39 : x17_2 < (sa0_.size : Int)
             ·rw [if_pos c39] at H
              have c39b0 : decide (x17_2 < (sa0_.size : Int)) = true := decide_eq_true c39
              clear c39
              by_cases c40 : 0 ≤ x17_2
              ·rw [if_pos c40] at H
               have c40b0 := eq_true c40
               have c40b1 : decide (0 ≤ x17_2) = true := decide_eq_true c40
               clear c40
               by_cases c41 : x17_2 ≤ (wrap64 (x17_2 + 1))
               ·rw [if_pos c41] at H
                have c41b0 := eq_true c41
                have c41b1 : decide (x17_2 ≤ (wrap64 (x17_2 + 1))) = true := decide_eq_true c41
                by_cases c42 : (wrap64 (x17_2 + 1)) ≤ (sa0_.size : Int)
                ·rw [if_pos c42] at H
                 have c42b0 := eq_true c42
                 have c42b1 : decide ((wrap64 (x17_2 + 1)) ≤ (sa0_.size : Int)) = true := decide_eq_true c42
                 replace H := Option.bind_eq_some_iff.mp H
                 obtain ⟨t457, A430, H⟩ := H
                 replace H : (if t457 > 0 then (some false) else (silversidelaw07_FindBoth.l0 k2 sa0_ t432 t433 (wrap64 (x17_2 + 1)) t448 t449 t452)) = some r := H
                 have A43 := Aside0.mk A430
                 clear A430
                 by_cases c44 : t457 > 0
                 ·rw [if_pos c44] at H
                  exact absurd ((Option.some.inj H).trans hr_.out) (by decide)
                 ·rw [if_neg c44] at H
                  have c44b0 : decide (0 < t457) = false := decide_eq_false c44
                  clear c44
                  have H' := Aside0.mk H
                  clear H
                  try go_wp2
                  replace HO_448001 := Aside0.mk (Kd.R_drew HO_448001.out)
                  replace HO_448002 := Aside0.mk (Kd.R_drew HO_448002.out)
                  replace HO_457001 := Aside0.mk (Kd.R_drew HO_457001.out)
                  replace HO_457002 := Aside0.mk (Kd.R_drew HO_457002.out)
                  replace BK447 := Aside0.mk (kD BK447.out)
                  replace BK456 := Aside0.mk (kD BK456.out)
                  replace HB := Aside0.mk (lD HB.out)
                  refine start_ (n := 8) (S := fun w' => w'.cell? ⟨gb456, 0, none⟩ = some (.string t448) ∧ w'.cell? ⟨gb456, 1, none⟩ = some (.slice Ao26 t449.length co26) ∧ w'.cell? ⟨gb456, 2, none⟩ = some (.slice Ao27 t452.length co27)) (ds := []) (Bs 0 8) (by kernel_rfl) rfl rfl ⟨(blk_cell BK456.out 0).trans rfl, (blk_cell BK456.out 1).trans rfl, (blk_cell BK456.out 2).trans rfl⟩ (fun hHeld => ?_); refine with_tabW silversidelaw07_FindBoth.tab12 silversidelaw07_FindBoth.bits12 (fun HT_ HW_ => ?_)
                  generalize wr.drew = w47 at HO_448001 HO_448002 HO_457001 HO_457002 BK447 BK456 HB hHeld ⊢
                  refine pu 1 114 #[φ,τ,φ,φ,φ,φ,φ,φ] HT_ ?_
                  refine pu 2 115 #[φ,τ,τ,φ,φ,φ,φ,φ] HT_ ?_
                  refine pu 3 116 #[φ,τ,τ,τ,φ,φ,φ,φ] HT_ ?_
                  refine pu 4 117 #[φ,τ,τ,τ,τ,φ,φ,φ] HT_ ?_
                  refine pu 5 118 #[φ,τ,τ,τ,τ,τ,φ,φ] HT_ ?_
                  refine ta 0 113 (Bs 6 8) HT_ HW_ hHeld ?_
                  refine one_ (i := 6) (N := some 119) (Bs 7 8) rfl rfl (one_of HT_.out (by kernel_rfl)) (by decide) (fun K hK => ?_)
                  refine goes_ Try.func29 (by kernel_rfl) rfl #[.agg #[.string t448, .slice Ao26 t449.length co26, .slice Ao27 t452.length co27], .string (sa0_.extract (x17_2 : Int).toNat ((wrap64 (x17_2 + 1)) : Int).toNat)] (by rfl) rfl rfl (by (try simp only [List.map_toArray, List.map_cons, List.map_nil]); first | done | (simp only [hji3]; rfl) | rfl | (simp only [List.length_drop, List.length_take]; rfl)) ?_
                  with_reducible refine (find_Index_Count.calls t448 _ _ t449 _ _ t452 (sa0_.extract (x17_2 : Int).toNat ((wrap64 (x17_2 + 1)) : Int).toNat) t457 _ ?side1 ?side2 ?side3 ?side4 A43.out).mono ?_
                  (case side1 => repeat (first | exact (Kd.R_reads' HO_457001.out).2.2 | (with_reducible refine Kd.C_alloc ?_ _) | (with_reducible refine Kd.C_drewN ?_ _) | (with_reducible refine Kd.C_drew ?_)))
                  (case side2 => exact (Kd.R_reads' HO_457001.out).2.1)
                  (case side3 => repeat (first | exact (Kd.R_reads' HO_457002.out).2.2 | (with_reducible refine Kd.C_alloc ?_ _) | (with_reducible refine Kd.C_drewN ?_ _) | (with_reducible refine Kd.C_drew ?_)))
                  (case side4 => exact (Kd.R_reads' HO_457002.out).2.1)
                  rintro e w48 ⟨rfl, hb⟩
                  refine ⟨_, rfl, ?_⟩
                  have n0_ := Aside0.mk (Kd.R_below (by (with_reducible repeat (first | apply Kd.R_alloc | apply Kd.R_drewN | apply Kd.R_drew)); exact HO_448001.out) hb)
                  have n1_ := Aside0.mk (Kd.R_below (by (with_reducible repeat (first | apply Kd.R_alloc | apply Kd.R_drewN | apply Kd.R_drew)); exact HO_448002.out) hb)
                  have n2_ := Aside0.mk (Kd.R_below (by (with_reducible repeat (first | apply Kd.R_alloc | apply Kd.R_drewN | apply Kd.R_drew)); exact HO_457001.out) hb)
                  have n3_ := Aside0.mk (Kd.R_below (by (with_reducible repeat (first | apply Kd.R_alloc | apply Kd.R_drewN | apply Kd.R_drew)); exact HO_457002.out) hb)
                  have n6_ := Aside0.mk (below_step (by repeat (first | (with_reducible first | exact HB.out | apply lA | apply lN | apply lD | refine lS ?_ GE447.out | refine lS ?_ GE456.out) | exact HB.out)) hb)
                  clear HO_448001
                  clear HO_448002
                  clear HO_457001
                  clear HO_457002
                  clear HB
                  have HO_448001 := n0_
                  have HO_448002 := n1_
                  have HO_457001 := n2_
                  have HO_457002 := n3_
                  have HB := n6_
                  clear n0_ n1_ n2_ n3_ n6_
                  replace BK447 := Aside0.mk (blk_below (g := gb447) (o := .cells #[.string t439, .slice Ao20 t440.length co20, .slice Ao21 t443.length co21] 24 (0, 0)) (kX BK447.out) hb)
                  replace BK456 := Aside0.mk (blk_below (g := gb456) (o := .cells #[.string t448, .slice Ao26 t449.length co26, .slice Ao27 t452.length co27] 24 (0, 0)) (kX BK456.out) hb)
                  (try clear hb)
                  (try clear hb2)
                  (try clear hk)
                  (try clear hi)
                  refine hK.out _ _ ⟨(blk_cell BK456.out 0).trans rfl, (blk_cell BK456.out 1).trans rfl, (blk_cell BK456.out 2).trans rfl⟩ (fun hHeld => ?_)
                  clear hK K
                  refine nm 119 ?_
                  refine pu 7 120 (Bs 8 8) HT_ ?_
                  refine done_ (done_of HT_.out (by kernel_rfl)) ?_
                  try go_wp2
                  go_roundg k2
                  case measure => have := HJ12.out; have := HK2.out; omega
                  case rel => exact ⟨(wrap64 (x17_2 + 1)), (by first | rfl | (simp; done) | (simp [*]; done)), H', ⟨by have := HJ12.out; have := HK2.out; omega⟩, ⟨by (with_reducible repeat (first | apply Kd.R_alloc | apply Kd.R_drewN | apply Kd.R_drew)); exact HO_448001.out⟩, ⟨by (with_reducible repeat (first | apply Kd.R_alloc | apply Kd.R_drewN | apply Kd.R_drew)); exact HO_448002.out⟩, ⟨by (with_reducible repeat (first | apply Kd.R_alloc | apply Kd.R_drewN | apply Kd.R_drew)); exact HO_457001.out⟩, ⟨by (with_reducible repeat (first | apply Kd.R_alloc | apply Kd.R_drewN | apply Kd.R_drew)); exact HO_457002.out⟩, ⟨by (with_reducible repeat (first | refine kN ?_ _ | refine kD ?_ | refine kA ?_ _)); exact BK447.out⟩, ⟨by (with_reducible repeat (first | refine kN ?_ _ | refine kD ?_ | refine kA ?_ _)); exact BK456.out⟩, ⟨by repeat (first | (with_reducible first | exact HB.out | apply lA | apply lN | apply lD | refine lS ?_ GE447.out | refine lS ?_ GE456.out) | exact HB.out)⟩⟩
                ·rw [if_neg c42] at H
                 exact absurd H (by simp)
               ·rw [if_neg c41] at H
                exact absurd H (by simp)
              ·rw [if_neg c40] at H
               exact absurd H (by simp)
             ·rw [if_neg c39] at H
              have c39b0 : decide (x17_2 < (sa0_.size : Int)) = false := decide_eq_false c39
              clear c39
              by_cases c49 : t432 = 0
              ·rw [if_pos c49] at H
               have c49b0 : (t432 == 0) = true := beq_iff_eq.mpr c49
               have c49b1 : (t432 != 0) = false := bne_eq_false_iff_eq.mpr c49
               clear c49
               by_cases c50 : t433 = 0
               ·rw [if_pos c50] at H
                have c50b0 : (t433 == 0) = true := beq_iff_eq.mpr c50
                have c50b1 : (t433 != 0) = false := bne_eq_false_iff_eq.mpr c50
                clear c50
                replace H := Option.bind_eq_some_iff.mp H
                obtain ⟨t458, A510, H⟩ := H
                replace H : (some t458) = some r := H
                have A51 := Aside0.mk A510
                clear A510
                obtain rfl := Option.some.inj H
                go_wp2_with (first | (go_at_call 21; (with_reducible refine (silversidelaw07_awake.calls k2  t458 _ A51.out).mono ?_); rintro e w52 ⟨rfl, hb⟩; have n0_ := Aside0.mk (Kd.R_below (by (with_reducible repeat (first | apply Kd.R_alloc | apply Kd.R_drewN | apply Kd.R_drew)); exact HO_448001.out) hb); have n1_ := Aside0.mk (Kd.R_below (by (with_reducible repeat (first | apply Kd.R_alloc | apply Kd.R_drewN | apply Kd.R_drew)); exact HO_448002.out) hb); have n2_ := Aside0.mk (Kd.R_below (by (with_reducible repeat (first | apply Kd.R_alloc | apply Kd.R_drewN | apply Kd.R_drew)); exact HO_457001.out) hb); have n3_ := Aside0.mk (Kd.R_below (by (with_reducible repeat (first | apply Kd.R_alloc | apply Kd.R_drewN | apply Kd.R_drew)); exact HO_457002.out) hb); have n4_ := Aside0.mk (blk_below (g := gb447) (o := .cells #[.string t439, .slice Ao20 t440.length co20, .slice Ao21 t443.length co21] 24 (0, 0)) (kX BK447.out) hb); have n5_ := Aside0.mk (blk_below (g := gb456) (o := .cells #[.string t448, .slice Ao26 t449.length co26, .slice Ao27 t452.length co27] 24 (0, 0)) (kX BK456.out) hb); have n6_ := Aside0.mk (below_step (by repeat (first | (with_reducible first | exact HB.out | apply lA | apply lN | apply lD | refine lS ?_ GE447.out | refine lS ?_ GE456.out) | exact HB.out)) hb); clear HO_448001; clear HO_448002; clear HO_457001; clear HO_457002; clear BK447; clear BK456; clear HB; have HO_448001 := n0_; have HO_448002 := n1_; have HO_457001 := n2_; have HO_457002 := n3_; have BK447 := n4_; have BK456 := n5_; have HB := n6_; clear n0_ n1_ n2_ n3_ n4_ n5_ n6_; (try clear hb); (try clear hb2); (try clear hk); (try clear hi)))
                go_ret
                exact ⟨by first | rfl | (simp [errW_none, errW_some] <;> rfl) | (simp only [← hji3, ← hji6]; first | rfl | (simp [errW_none, errW_some] <;> rfl)) | (simp [*, errW_none, errW_some] <;> rfl), by repeat (first | (with_reducible first | exact HB.out | apply lA | apply lN | apply lD | refine lS ?_ GE447.out | refine lS ?_ GE456.out) | exact HB.out)⟩
               ·rw [if_neg c50] at H
                exact absurd ((Option.some.inj H).trans hr_.out) (by decide)
              ·rw [if_neg c49] at H
               exact absurd ((Option.some.inj H).trans hr_.out) (by decide)
         ·rw [if_neg c38] at H
          have c38b0 : (t431 == 0) = false := beq_eq_false_iff_ne.mpr c38
          have c38b1 : (t431 != 0) = true := bne_iff_ne.mpr c38
          by_cases c53 : 0 ≤ t432
          ·rw [if_pos c53] at H
           have c53b0 := eq_true c53
           have c53b1 : decide (0 ≤ t432) = true := decide_eq_true c53
           clear c53
           by_cases c54 : t432 ≤ (wrap64 (t432 + t431))
           ·rw [if_pos c54] at H
            have c54b0 := eq_true c54
            have c54b1 : decide (t432 ≤ (wrap64 (t432 + t431))) = true := decide_eq_true c54
            by_cases c55 : (wrap64 (t432 + t431)) ≤ (sa0_.size : Int)
            ·rw [if_pos c55] at H
             have c55b0 := eq_true c55
             have c55b1 : decide ((wrap64 (t432 + t431)) ≤ (sa0_.size : Int)) = true := decide_eq_true c55
             replace H := Option.bind_eq_some_iff.mp H
             obtain ⟨t459, A560, H⟩ := H
             replace H : ((find_Index_Find.f t448 t449 t452 (sa0_.extract (t432 : Int).toNat ((wrap64 (t432 + t431)) : Int).toNat)).bind fun t462 => (if (t459.length : Int) = 0 then (silversidelaw07_FindBoth.j2 kj12 sa0_ t431 t432 true t448 t449 t452) else (if 0 < (t459.length : Int) then (if (rd t459 0) = t432 then (if (t462.length : Int) = 0 then (silversidelaw07_FindBoth.j2 kj12 sa0_ t431 t432 true t448 t449 t452) else (if 0 < (t462.length : Int) then (silversidelaw07_FindBoth.j2 kj12 sa0_ t431 t432 ((rd t462 0) != t433) t448 t449 t452) else (none))) else (silversidelaw07_FindBoth.j2 kj12 sa0_ t431 t432 true t448 t449 t452)) else (none)))) = some r := H
             have A56 := Aside0.mk A560
             clear A560
             replace H := Option.bind_eq_some_iff.mp H
             obtain ⟨t462, A570, H⟩ := H
             replace H : (if (t459.length : Int) = 0 then (silversidelaw07_FindBoth.j2 kj12 sa0_ t431 t432 true t448 t449 t452) else (if 0 < (t459.length : Int) then (if (rd t459 0) = t432 then (if (t462.length : Int) = 0 then (silversidelaw07_FindBoth.j2 kj12 sa0_ t431 t432 true t448 t449 t452) else (if 0 < (t462.length : Int) then (silversidelaw07_FindBoth.j2 kj12 sa0_ t431 t432 ((rd t462 0) != t433) t448 t449 t452) else (none))) else (silversidelaw07_FindBoth.j2 kj12 sa0_ t431 t432 true t448 t449 t452)) else (none))) = some r := H
             have A57 := Aside0.mk A570
             clear A570
             have HC58 := Aside0.mk H
             clear H
             try go_wp2
             replace HO_448001 := Aside0.mk (Kd.R_drew HO_448001.out)
             replace HO_448002 := Aside0.mk (Kd.R_drew HO_448002.out)
             replace HO_457001 := Aside0.mk (Kd.R_drew HO_457001.out)
             replace HO_457002 := Aside0.mk (Kd.R_drew HO_457002.out)
             replace BK447 := Aside0.mk (kD BK447.out)
             replace BK456 := Aside0.mk (kD BK456.out)
             replace HB := Aside0.mk (lD HB.out)
             refine start_ (n := 8) (S := fun w' => w'.cell? ⟨gb447, 0, none⟩ = some (.string t439) ∧ w'.cell? ⟨gb447, 1, none⟩ = some (.slice Ao20 t440.length co20) ∧ w'.cell? ⟨gb447, 2, none⟩ = some (.slice Ao21 t443.length co21) ∧ w'.cell? ⟨gb456, 0, none⟩ = some (.string t448) ∧ w'.cell? ⟨gb456, 1, none⟩ = some (.slice Ao26 t449.length co26) ∧ w'.cell? ⟨gb456, 2, none⟩ = some (.slice Ao27 t452.length co27)) (ds := []) (Bs 0 8) (by kernel_rfl) rfl rfl ⟨(blk_cell BK447.out 0).trans rfl, (blk_cell BK447.out 1).trans rfl, (blk_cell BK447.out 2).trans rfl, (blk_cell BK456.out 0).trans rfl, (blk_cell BK456.out 1).trans rfl, (blk_cell BK456.out 2).trans rfl⟩ (fun hHeld => ?_); refine with_tabW silversidelaw07_FindBoth.tab16 silversidelaw07_FindBoth.bits16 (fun HT_ HW_ => ?_)
             generalize wc.drew = w59 at HO_448001 HO_448002 HO_457001 HO_457002 BK447 BK456 HB hHeld ⊢
             refine pu 1 137 #[φ,τ,φ,φ,φ,φ,φ,φ] HT_ ?_
             refine pu 4 140 #[φ,τ,φ,φ,τ,φ,φ,φ] HT_ ?_
             refine ta 0 136 #[τ,τ,φ,φ,τ,φ,φ,φ] HT_ HW_ hHeld ?_
             refine ta 3 139 #[τ,τ,φ,τ,τ,φ,φ,φ] HT_ HW_ hHeld ?_
             refine one_ (i := 2) (N := some 138) (Bs 5 8) rfl rfl (one_of HT_.out (by kernel_rfl)) (by decide) (fun K hK => ?_)
             refine goes_ Try.func38 (by kernel_rfl) rfl #[.agg #[.string t439, .slice Ao20 t440.length co20, .slice Ao21 t443.length co21], .string (sa0_.extract (t432 : Int).toNat ((wrap64 (t432 + t431)) : Int).toNat)] (by rfl) rfl rfl (by (try simp only [List.map_toArray, List.map_cons, List.map_nil]); first | done | (simp only [hji3]; rfl) | rfl | (simp only [List.length_drop, List.length_take]; rfl)) ?_
             with_reducible refine (find_Index_Find.calls t439 _ _ t440 _ _ t443 (sa0_.extract (t432 : Int).toNat ((wrap64 (t432 + t431)) : Int).toNat) t459 _ ?side1 ?side2 ?side3 ?side4 A56.out).mono ?_
             (case side1 => repeat (first | exact (Kd.R_reads' HO_448001.out).2.2 | (with_reducible refine Kd.C_alloc ?_ _) | (with_reducible refine Kd.C_drewN ?_ _) | (with_reducible refine Kd.C_drew ?_)))
             (case side2 => exact (Kd.R_reads' HO_448001.out).2.1)
             (case side3 => repeat (first | exact (Kd.R_reads' HO_448002.out).2.2 | (with_reducible refine Kd.C_alloc ?_ _) | (with_reducible refine Kd.C_drewN ?_ _) | (with_reducible refine Kd.C_drew ?_)))
             (case side4 => exact (Kd.R_reads' HO_448002.out).2.1)
             rintro e w60 ⟨v460, rfl, ho0, hb⟩
             refine ⟨_, rfl, ?_⟩
             have n0_ := Aside0.mk (Kd.R_elder' (by (with_reducible repeat (first | apply Kd.R_alloc | apply Kd.R_drewN | apply Kd.R_drew)); exact HO_448001.out) (Kd.R_base ho0) hb)
             have n1_ := Aside0.mk (Kd.R_elder' (by (with_reducible repeat (first | apply Kd.R_alloc | apply Kd.R_drewN | apply Kd.R_drew)); exact HO_448002.out) (Kd.R_base ho0) hb)
             have n2_ := Aside0.mk (Kd.R_elder' (by (with_reducible repeat (first | apply Kd.R_alloc | apply Kd.R_drewN | apply Kd.R_drew)); exact HO_457001.out) (Kd.R_base ho0) hb)
             have n3_ := Aside0.mk (Kd.R_elder' (by (with_reducible repeat (first | apply Kd.R_alloc | apply Kd.R_drewN | apply Kd.R_drew)); exact HO_457002.out) (Kd.R_base ho0) hb)
             have n4_ := Aside0.mk (Kd.R_lower (Kd.R_new' (Kd.R_new' (Kd.R_new' (Kd.R_new' ho0 (Kd.R_lt (by (with_reducible repeat (first | apply Kd.R_alloc | apply Kd.R_drewN | apply Kd.R_drew)); exact HO_448001.out))) (Kd.R_lt (by (with_reducible repeat (first | apply Kd.R_alloc | apply Kd.R_drewN | apply Kd.R_drew)); exact HO_448002.out))) (Kd.R_lt (by (with_reducible repeat (first | apply Kd.R_alloc | apply Kd.R_drewN | apply Kd.R_drew)); exact HO_457001.out))) (Kd.R_lt (by (with_reducible repeat (first | apply Kd.R_alloc | apply Kd.R_drewN | apply Kd.R_drew)); exact HO_457002.out))) (below_size (by repeat (first | (with_reducible first | exact HB.out | apply lA | apply lN | apply lD | refine lS ?_ GE447.out | refine lS ?_ GE456.out) | exact HB.out))))
             have n5_ := Aside0.mk (blk_below (g := gb447) (o := .cells #[.string t439, .slice Ao20 t440.length co20, .slice Ao21 t443.length co21] 24 (0, 0)) (kX BK447.out) hb)
             have n6_ := Aside0.mk (blk_below (g := gb456) (o := .cells #[.string t448, .slice Ao26 t449.length co26, .slice Ao27 t452.length co27] 24 (0, 0)) (kX BK456.out) hb)
             have n7_ := Aside0.mk (below_step (by repeat (first | (with_reducible first | exact HB.out | apply lA | apply lN | apply lD | refine lS ?_ GE447.out | refine lS ?_ GE456.out) | exact HB.out)) hb)
             clear HO_448001
             clear HO_448002
             clear HO_457001
             clear HO_457002
             clear BK447
             clear BK456
             clear HB
             have HO_448001 := n0_
             have HO_448002 := n1_
             have HO_457001 := n2_
             have HO_457002 := n3_
             have HO461 := n4_
             have BK447 := n5_
             have BK456 := n6_
             have HB := n7_
             clear n0_ n1_ n2_ n3_ n4_ n5_ n6_ n7_
             (try clear hb)
             (try clear hb2)
             (try clear hk)
             (try clear hi)
             (try clear ho0)
             refine hK.out _ _ ⟨(blk_cell BK447.out 0).trans rfl, (blk_cell BK447.out 1).trans rfl, (blk_cell BK447.out 2).trans rfl, (blk_cell BK456.out 0).trans rfl, (blk_cell BK456.out 1).trans rfl, (blk_cell BK456.out 2).trans rfl⟩ (fun hHeld => ?_)
             clear hK K
             refine nm 138 ?_
             refine one_ (i := 5) (N := some 141) (Bs 6 8) rfl rfl (one_of HT_.out (by kernel_rfl)) (by decide) (fun K hK => ?_)
             refine goes_ Try.func38 (by kernel_rfl) rfl #[.agg #[.string t448, .slice Ao26 t449.length co26, .slice Ao27 t452.length co27], .string (sa0_.extract (t432 : Int).toNat ((wrap64 (t432 + t431)) : Int).toNat)] (by rfl) rfl rfl (by (try simp only [List.map_toArray, List.map_cons, List.map_nil]); first | done | (simp only [hji3]; rfl) | rfl | (simp only [List.length_drop, List.length_take]; rfl)) ?_
             with_reducible refine (find_Index_Find.calls t448 _ _ t449 _ _ t452 (sa0_.extract (t432 : Int).toNat ((wrap64 (t432 + t431)) : Int).toNat) t462 _ ?side1 ?side2 ?side3 ?side4 A57.out).mono ?_
             (case side1 => repeat (first | exact (Kd.R_reads' HO_457001.out).2.2 | (with_reducible refine Kd.C_alloc ?_ _) | (with_reducible refine Kd.C_drewN ?_ _) | (with_reducible refine Kd.C_drew ?_)))
             (case side2 => exact (Kd.R_reads' HO_457001.out).2.1)
             (case side3 => repeat (first | exact (Kd.R_reads' HO_457002.out).2.2 | (with_reducible refine Kd.C_alloc ?_ _) | (with_reducible refine Kd.C_drewN ?_ _) | (with_reducible refine Kd.C_drew ?_)))
             (case side4 => exact (Kd.R_reads' HO_457002.out).2.1)
             rintro e w61 ⟨v463, rfl, ho0, hb⟩
             refine ⟨_, rfl, ?_⟩
             have n0_ := Aside0.mk (Kd.R_elder' (by (with_reducible repeat (first | apply Kd.R_alloc | apply Kd.R_drewN | apply Kd.R_drew)); exact HO_448001.out) (Kd.R_base ho0) hb)
             have n1_ := Aside0.mk (Kd.R_elder' (by (with_reducible repeat (first | apply Kd.R_alloc | apply Kd.R_drewN | apply Kd.R_drew)); exact HO_448002.out) (Kd.R_base ho0) hb)
             have n2_ := Aside0.mk (Kd.R_elder' (by (with_reducible repeat (first | apply Kd.R_alloc | apply Kd.R_drewN | apply Kd.R_drew)); exact HO_457001.out) (Kd.R_base ho0) hb)
             have n3_ := Aside0.mk (Kd.R_elder' (by (with_reducible repeat (first | apply Kd.R_alloc | apply Kd.R_drewN | apply Kd.R_drew)); exact HO_457002.out) (Kd.R_base ho0) hb)
             have n4_ := Aside0.mk (Kd.R_elder' (by (with_reducible repeat (first | apply Kd.R_alloc | apply Kd.R_drewN | apply Kd.R_drew)); exact HO461.out) (Kd.R_base ho0) hb)
             have n5_ := Aside0.mk (Kd.R_lower (Kd.R_new' (Kd.R_new' (Kd.R_new' (Kd.R_new' (Kd.R_new' ho0 (Kd.R_lt (by (with_reducible repeat (first | apply Kd.R_alloc | apply Kd.R_drewN | apply Kd.R_drew)); exact HO_448001.out))) (Kd.R_lt (by (with_reducible repeat (first | apply Kd.R_alloc | apply Kd.R_drewN | apply Kd.R_drew)); exact HO_448002.out))) (Kd.R_lt (by (with_reducible repeat (first | apply Kd.R_alloc | apply Kd.R_drewN | apply Kd.R_drew)); exact HO_457001.out))) (Kd.R_lt (by (with_reducible repeat (first | apply Kd.R_alloc | apply Kd.R_drewN | apply Kd.R_drew)); exact HO_457002.out))) (Kd.R_lt (by (with_reducible repeat (first | apply Kd.R_alloc | apply Kd.R_drewN | apply Kd.R_drew)); exact HO461.out))) (below_size (by repeat (first | (with_reducible first | exact HB.out | apply lA | apply lN | apply lD | refine lS ?_ GE447.out | refine lS ?_ GE456.out) | exact HB.out))))
             have n6_ := Aside0.mk (blk_below (g := gb447) (o := .cells #[.string t439, .slice Ao20 t440.length co20, .slice Ao21 t443.length co21] 24 (0, 0)) (kX BK447.out) hb)
             have n7_ := Aside0.mk (blk_below (g := gb456) (o := .cells #[.string t448, .slice Ao26 t449.length co26, .slice Ao27 t452.length co27] 24 (0, 0)) (kX BK456.out) hb)
             have n8_ := Aside0.mk (below_step (by repeat (first | (with_reducible first | exact HB.out | apply lA | apply lN | apply lD | refine lS ?_ GE447.out | refine lS ?_ GE456.out) | exact HB.out)) hb)
             clear HO_448001
             clear HO_448002
             clear HO_457001
             clear HO_457002
             clear HO461
             clear BK447
             clear BK456
             clear HB
             have HO_448001 := n0_
             have HO_448002 := n1_
             have HO_457001 := n2_
             have HO_457002 := n3_
             have HO461 := n4_
             have HO464 := n5_
             have BK447 := n6_
             have BK456 := n7_
             have HB := n8_
             clear n0_ n1_ n2_ n3_ n4_ n5_ n6_ n7_ n8_
             (try clear hb)
             (try clear hb2)
             (try clear hk)
             (try clear hi)
             (try clear ho0)
             refine hK.out _ _ ⟨(blk_cell BK447.out 0).trans rfl, (blk_cell BK447.out 1).trans rfl, (blk_cell BK447.out 2).trans rfl, (blk_cell BK456.out 0).trans rfl, (blk_cell BK456.out 1).trans rfl, (blk_cell BK456.out 2).trans rfl⟩ (fun hHeld => ?_)
             clear hK K
             refine nm 141 ?_
             refine pu 6 19 (Bs 7 8) HT_ ?_
             refine pu 7 20 (Bs 8 8) HT_ ?_
             refine done_ (done_of HT_.out (by kernel_rfl)) ?_
             go_upto_region 17 with (fail)
             go_cut [163] (fun v163 wc => ∃ (kq : Nat) (x163_57 : Bool), v163 = .bool x163_57 ∧ Aside0 (silversidelaw07_FindBoth.j2 kq sa0_ t431 t432 x163_57 t448 t449 t452 = some r) ∧ Aside0 (kq ≤ kj12) ∧ Aside0 (Kd.R (Kd.int .i64) 3 wc w.heap.size (fun k_ => some k_ ≠ ((.slice Ao21 t443.length co21) : Value).ownBlock ∧ some k_ ≠ ((.slice Ao26 t449.length co26) : Value).ownBlock ∧ some k_ ≠ ((.slice Ao27 t452.length co27) : Value).ownBlock) (.slice Ao20 t440.length co20) t440) ∧ Aside0 (Kd.R (Kd.int .i64) 3 wc w.heap.size (fun k_ => some k_ ≠ ((.slice Ao20 t440.length co20) : Value).ownBlock ∧ some k_ ≠ ((.slice Ao26 t449.length co26) : Value).ownBlock ∧ some k_ ≠ ((.slice Ao27 t452.length co27) : Value).ownBlock) (.slice Ao21 t443.length co21) t443) ∧ Aside0 (Kd.R (Kd.int .i64) 3 wc w.heap.size (fun k_ => some k_ ≠ ((.slice Ao20 t440.length co20) : Value).ownBlock ∧ some k_ ≠ ((.slice Ao21 t443.length co21) : Value).ownBlock ∧ some k_ ≠ ((.slice Ao27 t452.length co27) : Value).ownBlock) (.slice Ao26 t449.length co26) t449) ∧ Aside0 (Kd.R (Kd.int .i64) 3 wc w.heap.size (fun k_ => some k_ ≠ ((.slice Ao20 t440.length co20) : Value).ownBlock ∧ some k_ ≠ ((.slice Ao21 t443.length co21) : Value).ownBlock ∧ some k_ ≠ ((.slice Ao26 t449.length co26) : Value).ownBlock) (.slice Ao27 t452.length co27) t452) ∧ Aside0 (wc.heap[gb447]? = some (.cells #[.string t439, (.slice Ao20 t440.length co20), (.slice Ao21 t443.length co21)] 24 (0, 0))) ∧ Aside0 (wc.heap[gb456]? = some (.cells #[.string t448, (.slice Ao26 t449.length co26), (.slice Ao27 t452.length co27)] 24 (0, 0))) ∧ Aside0 (Below w.heap.size w wc))
             case first =>
              have H := HC58.out
              clear HC58
              by_cases c62 : (t459.length : Int) = 0
              ·rw [if_pos c62] at H
               have c62b0 : ((t459.length : Int) == 0) = true := beq_iff_eq.mpr c62
               have c62b1 : ((t459.length : Int) != 0) = false := bne_eq_false_iff_eq.mpr c62
               clear c62
               (first | rw [c62b0] | (simp only [i64_w, i32_w]; rw [c62b0]) | rw [c62b1] | skip)
               have H' := Aside0.mk H
               clear H
               obtain ⟨Ao63, co63, eo63⟩ := Kd.R_slice HO461.out
               subst eo63
               go_wp2
               go_meet
               case rel => exact ⟨_, (true), (by first | rfl | (simp; done) | (simp [*]; done)), H', ⟨by have := HJ12.out; first | omega | exact Nat.le_refl _⟩, ⟨by (with_reducible repeat (first | apply Kd.R_alloc | apply Kd.R_drewN | apply Kd.R_drew)); exact Kd.R_mono HO_448001.out (fun _ hk => ⟨hk.1.1.1, ⟨hk.1.1.2.1, hk.1.1.2.2⟩⟩)⟩, ⟨by (with_reducible repeat (first | apply Kd.R_alloc | apply Kd.R_drewN | apply Kd.R_drew)); exact Kd.R_mono HO_448002.out (fun _ hk => ⟨hk.1.1.1, ⟨hk.1.1.2.1, hk.1.1.2.2⟩⟩)⟩, ⟨by (with_reducible repeat (first | apply Kd.R_alloc | apply Kd.R_drewN | apply Kd.R_drew)); exact Kd.R_mono HO_457001.out (fun _ hk => ⟨hk.1.1.1, ⟨hk.1.1.2.1, hk.1.1.2.2⟩⟩)⟩, ⟨by (with_reducible repeat (first | apply Kd.R_alloc | apply Kd.R_drewN | apply Kd.R_drew)); exact Kd.R_mono HO_457002.out (fun _ hk => ⟨hk.1.1.1, ⟨hk.1.1.2.1, hk.1.1.2.2⟩⟩)⟩, ⟨by (with_reducible repeat (first | refine kN ?_ _ | refine kD ?_ | refine kA ?_ _)); exact BK447.out⟩, ⟨by (with_reducible repeat (first | refine kN ?_ _ | refine kD ?_ | refine kA ?_ _)); exact BK456.out⟩, ⟨by repeat (first | (with_reducible first | exact HB.out | apply lA | apply lN | apply lD | refine lS ?_ GE447.out | refine lS ?_ GE456.out) | exact HB.out)⟩⟩
              ·rw [if_neg c62] at H
               have c62b0 : ((t459.length : Int) == 0) = false := beq_eq_false_iff_ne.mpr c62
               have c62b1 : ((t459.length : Int) != 0) = true := bne_iff_ne.mpr c62
               have c62b2 : ¬ (t459 = []) := fun h_ => c62 (by rw [h_]; rfl)
               (first | rw [c62b0] | (simp only [i64_w, i32_w]; rw [c62b0]) | rw [c62b1] | skip)
               by_cases c64 : 0 < (t459.length : Int)
               ·rw [if_pos c64] at H
                have c64b0 : decide (0 < (t459.length : Int)) = true := decide_eq_true c64
                have c64b1 : decide (0 < t459.length) = true := decide_eq_true (by omega)
                clear c64
                by_cases c65 : (rd t459 0) = t432
                ·rw [if_pos c65] at H
                 have c65b0 : ((rd t459 0) == t432) = true := beq_iff_eq.mpr c65
                 have c65b1 : ((rd t459 0) != t432) = false := bne_eq_false_iff_eq.mpr c65
                 clear c65
                 by_cases c66 : (t462.length : Int) = 0
                 ·rw [if_pos c66] at H
                  have c66b0 : ((t462.length : Int) == 0) = true := beq_iff_eq.mpr c66
                  have c66b1 : ((t462.length : Int) != 0) = false := bne_eq_false_iff_eq.mpr c66
                  clear c66
                  have H' := Aside0.mk H
                  clear H
                  obtain ⟨Ao67, co67, eo67⟩ := Kd.R_slice HO461.out
                  subst eo67
                  have p465 : 0 ≤ (0 : Int) := (by omega)
                  have q465 : 0 < (t459.length : Int) := of_decide_eq_true (by first | (with_reducible assumption) | assumption)
                  obtain ⟨ad465, e465, hx465_0⟩ := Kd.at_int (Kd.R_reads' HO461.out).2.2 0 p465 q465
                  cases e465
                  have qi465 : (0 < t459.length) = True := eq_true (by omega)
                  (try rw [show ((0 : Int)).toNat = 0 from rfl] at hx465_0)
                  (try rw [Addr.add_zero'] at hx465_0)
                  replace p465 := eq_true p465
                  replace q465 := eq_true q465
                  obtain ⟨Ao68, co68, eo68⟩ := Kd.R_slice HO464.out
                  subst eo68
                  go_wp2
                  go_meet
                  case rel => exact ⟨_, (true), (by first | rfl | (simp; done) | (simp [*]; done)), H', ⟨by have := HJ12.out; first | omega | exact Nat.le_refl _⟩, ⟨by (with_reducible repeat (first | apply Kd.R_alloc | apply Kd.R_drewN | apply Kd.R_drew)); exact Kd.R_mono HO_448001.out (fun _ hk => ⟨hk.1.1.1, ⟨hk.1.1.2.1, hk.1.1.2.2⟩⟩)⟩, ⟨by (with_reducible repeat (first | apply Kd.R_alloc | apply Kd.R_drewN | apply Kd.R_drew)); exact Kd.R_mono HO_448002.out (fun _ hk => ⟨hk.1.1.1, ⟨hk.1.1.2.1, hk.1.1.2.2⟩⟩)⟩, ⟨by (with_reducible repeat (first | apply Kd.R_alloc | apply Kd.R_drewN | apply Kd.R_drew)); exact Kd.R_mono HO_457001.out (fun _ hk => ⟨hk.1.1.1, ⟨hk.1.1.2.1, hk.1.1.2.2⟩⟩)⟩, ⟨by (with_reducible repeat (first | apply Kd.R_alloc | apply Kd.R_drewN | apply Kd.R_drew)); exact Kd.R_mono HO_457002.out (fun _ hk => ⟨hk.1.1.1, ⟨hk.1.1.2.1, hk.1.1.2.2⟩⟩)⟩, ⟨by (with_reducible repeat (first | refine kN ?_ _ | refine kD ?_ | refine kA ?_ _)); exact BK447.out⟩, ⟨by (with_reducible repeat (first | refine kN ?_ _ | refine kD ?_ | refine kA ?_ _)); exact BK456.out⟩, ⟨by repeat (first | (with_reducible first | exact HB.out | apply lA | apply lN | apply lD | refine lS ?_ GE447.out | refine lS ?_ GE456.out) | exact HB.out)⟩⟩
                 ·rw [if_neg c66] at H
                  have c66b0 : ((t462.length : Int) == 0) = false := beq_eq_false_iff_ne.mpr c66
                  have c66b1 : ((t462.length : Int) != 0) = true := bne_iff_ne.mpr c66
                  have c66b2 : ¬ (t462 = []) := fun h_ => c66 (by rw [h_]; rfl)
                  by_cases c69 : 0 < (t462.length : Int)
                  ·rw [if_pos c69] at H
                   have c69b0 : decide (0 < (t462.length : Int)) = true := decide_eq_true c69
                   have c69b1 : decide (0 < t462.length) = true := decide_eq_true (by omega)
                   clear c69
                   have H' := Aside0.mk H
                   clear H
                   obtain ⟨Ao70, co70, eo70⟩ := Kd.R_slice HO461.out
                   subst eo70
                   have p465 : 0 ≤ (0 : Int) := (by omega)
                   have q465 : 0 < (t459.length : Int) := of_decide_eq_true (by first | (with_reducible assumption) | assumption)
                   obtain ⟨ad465, e465, hx465_0⟩ := Kd.at_int (Kd.R_reads' HO461.out).2.2 0 p465 q465
                   cases e465
                   have qi465 : (0 < t459.length) = True := eq_true (by omega)
                   (try rw [show ((0 : Int)).toNat = 0 from rfl] at hx465_0)
                   (try rw [Addr.add_zero'] at hx465_0)
                   replace p465 := eq_true p465
                   replace q465 := eq_true q465
                   obtain ⟨Ao71, co71, eo71⟩ := Kd.R_slice HO464.out
                   subst eo71
                   have p466 : 0 ≤ (0 : Int) := (by omega)
                   have q466 : 0 < (t462.length : Int) := of_decide_eq_true (by first | (with_reducible assumption) | assumption)
                   obtain ⟨ad466, e466, hx466_0⟩ := Kd.at_int (Kd.R_reads' HO464.out).2.2 0 p466 q466
                   cases e466
                   have qi466 : (0 < t462.length) = True := eq_true (by omega)
                   (try rw [show ((0 : Int)).toNat = 0 from rfl] at hx466_0)
                   (try rw [Addr.add_zero'] at hx466_0)
                   replace p466 := eq_true p466
                   replace q466 := eq_true q466
                   go_wp2
                   go_meet
                   case rel => exact ⟨_, (((rd t462 0) != t433)), (by first | rfl | (simp; done) | (simp [*]; done)), H', ⟨by have := HJ12.out; first | omega | exact Nat.le_refl _⟩, ⟨by (with_reducible repeat (first | apply Kd.R_alloc | apply Kd.R_drewN | apply Kd.R_drew)); exact Kd.R_mono HO_448001.out (fun _ hk => ⟨hk.1.1.1, ⟨hk.1.1.2.1, hk.1.1.2.2⟩⟩)⟩, ⟨by (with_reducible repeat (first | apply Kd.R_alloc | apply Kd.R_drewN | apply Kd.R_drew)); exact Kd.R_mono HO_448002.out (fun _ hk => ⟨hk.1.1.1, ⟨hk.1.1.2.1, hk.1.1.2.2⟩⟩)⟩, ⟨by (with_reducible repeat (first | apply Kd.R_alloc | apply Kd.R_drewN | apply Kd.R_drew)); exact Kd.R_mono HO_457001.out (fun _ hk => ⟨hk.1.1.1, ⟨hk.1.1.2.1, hk.1.1.2.2⟩⟩)⟩, ⟨by (with_reducible repeat (first | apply Kd.R_alloc | apply Kd.R_drewN | apply Kd.R_drew)); exact Kd.R_mono HO_457002.out (fun _ hk => ⟨hk.1.1.1, ⟨hk.1.1.2.1, hk.1.1.2.2⟩⟩)⟩, ⟨by (with_reducible repeat (first | refine kN ?_ _ | refine kD ?_ | refine kA ?_ _)); exact BK447.out⟩, ⟨by (with_reducible repeat (first | refine kN ?_ _ | refine kD ?_ | refine kA ?_ _)); exact BK456.out⟩, ⟨by repeat (first | (with_reducible first | exact HB.out | apply lA | apply lN | apply lD | refine lS ?_ GE447.out | refine lS ?_ GE456.out) | exact HB.out)⟩⟩
                  ·rw [if_neg c69] at H
                   exact absurd H (by simp)
                ·rw [if_neg c65] at H
                 have c65b0 : ((rd t459 0) == t432) = false := beq_eq_false_iff_ne.mpr c65
                 have c65b1 : ((rd t459 0) != t432) = true := bne_iff_ne.mpr c65
                 have H' := Aside0.mk H
                 clear H
                 obtain ⟨Ao72, co72, eo72⟩ := Kd.R_slice HO461.out
                 subst eo72
                 have p465 : 0 ≤ (0 : Int) := (by omega)
                 have q465 : 0 < (t459.length : Int) := of_decide_eq_true (by first | (with_reducible assumption) | assumption)
                 obtain ⟨ad465, e465, hx465_0⟩ := Kd.at_int (Kd.R_reads' HO461.out).2.2 0 p465 q465
                 cases e465
                 have qi465 : (0 < t459.length) = True := eq_true (by omega)
                 (try rw [show ((0 : Int)).toNat = 0 from rfl] at hx465_0)
                 (try rw [Addr.add_zero'] at hx465_0)
                 replace p465 := eq_true p465
                 replace q465 := eq_true q465
                 go_wp2
                 go_meet
                 case rel => exact ⟨_, (true), (by first | rfl | (simp; done) | (simp [*]; done)), H', ⟨by have := HJ12.out; first | omega | exact Nat.le_refl _⟩, ⟨by (with_reducible repeat (first | apply Kd.R_alloc | apply Kd.R_drewN | apply Kd.R_drew)); exact Kd.R_mono HO_448001.out (fun _ hk => ⟨hk.1.1.1, ⟨hk.1.1.2.1, hk.1.1.2.2⟩⟩)⟩, ⟨by (with_reducible repeat (first | apply Kd.R_alloc | apply Kd.R_drewN | apply Kd.R_drew)); exact Kd.R_mono HO_448002.out (fun _ hk => ⟨hk.1.1.1, ⟨hk.1.1.2.1, hk.1.1.2.2⟩⟩)⟩, ⟨by (with_reducible repeat (first | apply Kd.R_alloc | apply Kd.R_drewN | apply Kd.R_drew)); exact Kd.R_mono HO_457001.out (fun _ hk => ⟨hk.1.1.1, ⟨hk.1.1.2.1, hk.1.1.2.2⟩⟩)⟩, ⟨by (with_reducible repeat (first | apply Kd.R_alloc | apply Kd.R_drewN | apply Kd.R_drew)); exact Kd.R_mono HO_457002.out (fun _ hk => ⟨hk.1.1.1, ⟨hk.1.1.2.1, hk.1.1.2.2⟩⟩)⟩, ⟨by (with_reducible repeat (first | refine kN ?_ _ | refine kD ?_ | refine kA ?_ _)); exact BK447.out⟩, ⟨by (with_reducible repeat (first | refine kN ?_ _ | refine kD ?_ | refine kA ?_ _)); exact BK456.out⟩, ⟨by repeat (first | (with_reducible first | exact HB.out | apply lA | apply lN | apply lD | refine lS ?_ GE447.out | refine lS ?_ GE456.out) | exact HB.out)⟩⟩
               ·rw [if_neg c64] at H
                exact absurd H (by simp)
             case rest =>
              clear HC58
              try clear c2
              try clear p2
              try clear c3
              try clear c4
              try clear p4
              try clear q4
              try clear hx4
              try clear qi4
              try clear c5
              try clear c6
              try clear p6
              try clear c29
              try clear c38
              try clear c38b0
              try clear c38b1
              try clear c39
              try clear c39b0
              try clear c40
              try clear c41
              try clear c42
              try clear c44
              try clear c44b0
              try clear p46
              try clear q46
              try clear hx46
              try clear qi46
              try clear c49
              try clear c49b0
              try clear c49b1
              try clear c50
              try clear c50b0
              try clear c50b1
              try clear c53
              try clear c53b0
              try clear c53b1
              try clear c54
              try clear c54b0
              try clear c54b1
              try clear c55
              try clear c55b0
              try clear c55b1
              try clear c62
              try clear c62b0
              try clear c62b1
              try clear c62b2
              try clear c64
              try clear c64b0
              try clear c64b1
              try clear p64
              try clear c65
              try clear c65b0
              try clear c65b1
              try clear c66
              try clear c66b0
              try clear c66b1
              try clear c66b2
              try clear c69
              try clear c69b0
              try clear c69b1
              try clear hx465_0
              try clear hx466_0
              try clear p465
              try clear p466
              try clear q465
              try clear q466
              obtain ⟨kq, x163_57, rfl, HA, HJ57, HO_448001, HO_448002, HO_457001, HO_457002, BK447, BK456, HB⟩ := hcut
              as_aux_lemma =>
               cases kq with
               | zero => exact absurd HA.out (by simp [silversidelaw07_FindBoth.j2])
               | succ kj57 =>
                have H := HA.out
                clear HA
                simp only [silversidelaw07_FindBoth.j2] at H
                by_cases c73 : x163_57 = true
                ·subst c73
                 exact absurd ((Option.some.inj (show (some false : Option Bool) = some r from by rw [if_pos rfl] at H; exact H)).trans hr_.out) (by decide)
                ·replace c73 := Bool.eq_false_iff.mpr c73
                 subst c73
                 have H1 : (silversidelaw07_FindBoth.l1 kj57 sa0_ t431 t432 0 t448 t449 t452) = some r := by rw [if_neg (show ¬ (false = true) by decide)] at H; exact H
                 clear H
                 have H := H1
                 clear H1
                 have H' := Aside0.mk H
                 clear H
                 go_wp2
                 go_loopg [21] kj57 (fun kq v21 w' => ∃ (x21_3 : Int), v21 = .int .i64 x21_3 ∧ Aside0 (silversidelaw07_FindBoth.l1 kq sa0_ t431 t432 x21_3 t448 t449 t452 = some r) ∧ Aside0 (kq ≤ kj57) ∧ Aside0 (Kd.R (Kd.int .i64) 3 w' w.heap.size (fun k_ => some k_ ≠ ((.slice Ao21 t443.length co21) : Value).ownBlock ∧ some k_ ≠ ((.slice Ao26 t449.length co26) : Value).ownBlock ∧ some k_ ≠ ((.slice Ao27 t452.length co27) : Value).ownBlock) (.slice Ao20 t440.length co20) t440) ∧ Aside0 (Kd.R (Kd.int .i64) 3 w' w.heap.size (fun k_ => some k_ ≠ ((.slice Ao20 t440.length co20) : Value).ownBlock ∧ some k_ ≠ ((.slice Ao26 t449.length co26) : Value).ownBlock ∧ some k_ ≠ ((.slice Ao27 t452.length co27) : Value).ownBlock) (.slice Ao21 t443.length co21) t443) ∧ Aside0 (Kd.R (Kd.int .i64) 3 w' w.heap.size (fun k_ => some k_ ≠ ((.slice Ao20 t440.length co20) : Value).ownBlock ∧ some k_ ≠ ((.slice Ao21 t443.length co21) : Value).ownBlock ∧ some k_ ≠ ((.slice Ao27 t452.length co27) : Value).ownBlock) (.slice Ao26 t449.length co26) t449) ∧ Aside0 (Kd.R (Kd.int .i64) 3 w' w.heap.size (fun k_ => some k_ ≠ ((.slice Ao20 t440.length co20) : Value).ownBlock ∧ some k_ ≠ ((.slice Ao21 t443.length co21) : Value).ownBlock ∧ some k_ ≠ ((.slice Ao26 t449.length co26) : Value).ownBlock) (.slice Ao27 t452.length co27) t452) ∧ Aside0 (w'.heap[gb447]? = some (.cells #[.string t439, (.slice Ao20 t440.length co20), (.slice Ao21 t443.length co21)] 24 (0, 0))) ∧ Aside0 (w'.heap[gb456]? = some (.cells #[.string t448, (.slice Ao26 t449.length co26), (.slice Ao27 t452.length co27)] 24 (0, 0))) ∧ Aside0 (Below w.heap.size w w'))
                 case atStart => exact ⟨(0), (by first | rfl | (simp; done) | (simp [*]; done)), H', ⟨Nat.le_refl _⟩, ⟨by (with_reducible repeat (first | apply Kd.R_alloc | apply Kd.R_drewN | apply Kd.R_drew)); exact HO_448001.out⟩, ⟨by (with_reducible repeat (first | apply Kd.R_alloc | apply Kd.R_drewN | apply Kd.R_drew)); exact HO_448002.out⟩, ⟨by (with_reducible repeat (first | apply Kd.R_alloc | apply Kd.R_drewN | apply Kd.R_drew)); exact HO_457001.out⟩, ⟨by (with_reducible repeat (first | apply Kd.R_alloc | apply Kd.R_drewN | apply Kd.R_drew)); exact HO_457002.out⟩, ⟨by (with_reducible repeat (first | refine kN ?_ _ | refine kD ?_ | refine kA ?_ _)); exact BK447.out⟩, ⟨by (with_reducible repeat (first | refine kN ?_ _ | refine kD ?_ | refine kA ?_ _)); exact BK456.out⟩, ⟨by repeat (first | (with_reducible first | exact HB.out | apply lA | apply lN | apply lD | refine lS ?_ GE447.out | refine lS ?_ GE456.out) | exact HB.out)⟩⟩
                 case round =>
                  as_aux_lemma =>
                   clear H'
                   try clear c2
                   try clear p2
                   try clear c3
                   try clear c4
                   try clear p4
                   try clear q4
                   try clear hx4
                   try clear qi4
                   try clear c5
                   try clear c6
                   try clear p6
                   try clear c7
                   try clear c29
                   try clear c38
                   try clear c38b0
                   try clear c38b1
                   try clear c39
                   try clear c39b0
                   try clear c40
                   try clear c41
                   try clear c42
                   try clear c44
                   try clear c44b0
                   try clear p46
                   try clear q46
                   try clear hx46
                   try clear qi46
                   try clear c49
                   try clear c49b0
                   try clear c49b1
                   try clear c50
                   try clear c50b0
                   try clear c50b1
                   try clear c53
                   try clear c53b0
                   try clear c53b1
                   try clear c54
                   try clear c54b0
                   try clear c54b1
                   try clear c55
                   try clear c55b0
                   try clear c55b1
                   try clear c62
                   try clear c62b0
                   try clear c62b1
                   try clear c62b2
                   try clear c64
                   try clear c64b0
                   try clear c64b1
                   try clear p64
                   try clear c65
                   try clear c65b0
                   try clear c65b1
                   try clear c66
                   try clear c66b0
                   try clear c66b1
                   try clear c66b2
                   try clear c69
                   try clear c69b0
                   try clear c69b1
                   try clear c73
                   try clear hx465_0
                   try clear hx466_0
                   try clear p2
                   try clear p4
                   try clear p46
                   try clear p465
                   try clear p466
                   try clear p6
                   try clear p64
                   try clear q4
                   try clear q46
                   try clear q465
                   try clear q466
                   obtain ⟨x21_3, rfl, HA, HK3, HO_448001, HO_448002, HO_457001, HO_457002, BK447, BK456, HB⟩ := hrel
                   cases gk with
                   | zero => exact absurd HA.out (by simp [silversidelaw07_FindBoth.l1])
                   | succ k3 =>
                    have H := HA.out
                    clear HA
                    simp only [silversidelaw07_FindBoth.l1] at H
                    by_cases c74 : (wrap64 (x21_3 + t431)) < (sa0_.size : Int)
                    ·rw [if_pos c74] at H
                     have c74b0 : decide ((wrap64 (x21_3 + t431)) < (sa0_.size : Int)) = true := decide_eq_true c74
                     clear c74
                     by_cases c75 : 0 ≤ x21_3
                     ·rw [if_pos c75] at H
                      have c75b0 := eq_true c75
                      have c75b1 : decide (0 ≤ x21_3) = true := decide_eq_true c75
                      clear c75
                      by_cases c76 : x21_3 ≤ (wrap64 ((wrap64 (x21_3 + t431)) + 1))
                      ·rw [if_pos c76] at H
                       have c76b0 := eq_true c76
                       have c76b1 : decide (x21_3 ≤ (wrap64 ((wrap64 (x21_3 + t431)) + 1))) = true := decide_eq_true c76
                       by_cases c77 : (wrap64 ((wrap64 (x21_3 + t431)) + 1)) ≤ (sa0_.size : Int)
                       ·rw [if_pos c77] at H
                        have c77b0 := eq_true c77
                        have c77b1 : decide ((wrap64 ((wrap64 (x21_3 + t431)) + 1)) ≤ (sa0_.size : Int)) = true := decide_eq_true c77
                        replace H := Option.bind_eq_some_iff.mp H
                        obtain ⟨t468, A780, H⟩ := H
                        replace H : (if t468 > 0 then (some false) else (if x21_3 < t432 then (if x21_3 ≤ (wrap64 (x21_3 + t431)) then (if (wrap64 (x21_3 + t431)) ≤ (sa0_.size : Int) then ((find_Index_Count.f t448 t449 t452 (sa0_.extract (x21_3 : Int).toNat ((wrap64 (x21_3 + t431)) : Int).toNat)).bind fun t469 => (if t469 > 0 then (some false) else (silversidelaw07_FindBoth.l1 k3 sa0_ t431 t432 (wrap64 (x21_3 + 1)) t448 t449 t452))) else (none)) else (none)) else (silversidelaw07_FindBoth.l1 k3 sa0_ t431 t432 (wrap64 (x21_3 + 1)) t448 t449 t452))) = some r := H
                        have A78 := Aside0.mk A780
                        clear A780
                        by_cases c79 : t468 > 0
                        ·rw [if_pos c79] at H
                         exact absurd ((Option.some.inj H).trans hr_.out) (by decide)
                        ·rw [if_neg c79] at H
                         have c79b0 : decide (0 < t468) = false := decide_eq_false c79
                         clear c79
                         by_cases c82 : x21_3 < t432
                         ·rw [if_pos c82] at H
                          have c82b0 : decide (x21_3 < t432) = true := decide_eq_true c82
                          clear c82
                          have c83b0 := eq_true (of_decide_eq_true (by first | (with_reducible assumption) | assumption) : 0 ≤ x21_3)
                          by_cases c84 : x21_3 ≤ (wrap64 (x21_3 + t431))
                          ·rw [if_pos c84] at H
                           have c84b0 := eq_true c84
                           have c84b1 : decide (x21_3 ≤ (wrap64 (x21_3 + t431))) = true := decide_eq_true c84
                           by_cases c85 : (wrap64 (x21_3 + t431)) ≤ (sa0_.size : Int)
                           ·rw [if_pos c85] at H
                            have c85b0 := eq_true c85
                            have c85b1 : decide ((wrap64 (x21_3 + t431)) ≤ (sa0_.size : Int)) = true := decide_eq_true c85
                            replace H := Option.bind_eq_some_iff.mp H
                            obtain ⟨t469, A860, H⟩ := H
                            replace H : (if t469 > 0 then (some false) else (silversidelaw07_FindBoth.l1 k3 sa0_ t431 t432 (wrap64 (x21_3 + 1)) t448 t449 t452)) = some r := H
                            have A86 := Aside0.mk A860
                            clear A860
                            by_cases c87 : t469 > 0
                            ·rw [if_pos c87] at H
                             exact absurd ((Option.some.inj H).trans hr_.out) (by decide)
                            ·rw [if_neg c87] at H
                             have c87b0 : decide (0 < t469) = false := decide_eq_false c87
                             clear c87
                             have H' := Aside0.mk H
                             clear H
                             try go_wp2
                             replace HO_448001 := Aside0.mk (Kd.R_drew HO_448001.out)
                             replace HO_448002 := Aside0.mk (Kd.R_drew HO_448002.out)
                             replace HO_457001 := Aside0.mk (Kd.R_drew HO_457001.out)
                             replace HO_457002 := Aside0.mk (Kd.R_drew HO_457002.out)
                             replace BK447 := Aside0.mk (kD BK447.out)
                             replace BK456 := Aside0.mk (kD BK456.out)
                             replace HB := Aside0.mk (lD HB.out)
                             refine start_ (n := 26) (S := fun w' => w'.cell? ⟨gb456, 0, none⟩ = some (.string t448) ∧ w'.cell? ⟨gb456, 1, none⟩ = some (.slice Ao26 t449.length co26) ∧ w'.cell? ⟨gb456, 2, none⟩ = some (.slice Ao27 t452.length co27)) (ds := []) (Bs 0 26) (by kernel_rfl) rfl rfl ⟨(blk_cell BK456.out 0).trans rfl, (blk_cell BK456.out 1).trans rfl, (blk_cell BK456.out 2).trans rfl⟩ (fun hHeld => ?_); refine with_tabW silversidelaw07_FindBoth.tab22 silversidelaw07_FindBoth.bits22 (fun HT_ HW_ => ?_)
                             generalize wr.drew = w91 at HO_448001 HO_448002 HO_457001 HO_457002 BK447 BK456 HB hHeld ⊢
                             refine pu 1 173 (Br [0,1,1,24]) HT_ ?_
                             refine pu 2 174 (Br [0,1,2,23]) HT_ ?_
                             refine pu 3 175 (Br [0,1,3,22]) HT_ ?_
                             refine pu 4 176 (Br [0,1,4,21]) HT_ ?_
                             refine pu 5 177 (Br [0,1,5,20]) HT_ ?_
                             refine pu 6 178 (Br [0,1,6,19]) HT_ ?_
                             refine pu 7 179 (Br [0,1,7,18]) HT_ ?_
                             refine ta 0 172 (Bs 8 26) HT_ HW_ hHeld ?_
                             refine one_ (i := 8) (N := some 180) (Bs 9 26) rfl rfl (one_of HT_.out (by kernel_rfl)) (by decide) (fun K hK => ?_)
                             refine goes_ Try.func29 (by kernel_rfl) rfl #[.agg #[.string t448, .slice Ao26 t449.length co26, .slice Ao27 t452.length co27], .string (sa0_.extract (x21_3 : Int).toNat ((wrap64 ((wrap64 (x21_3 + t431)) + 1)) : Int).toNat)] (by rfl) rfl rfl (by (try simp only [List.map_toArray, List.map_cons, List.map_nil]); first | done | (simp only [hji3]; rfl) | rfl | (simp only [List.length_drop, List.length_take]; rfl)) ?_
                             with_reducible refine (find_Index_Count.calls t448 _ _ t449 _ _ t452 (sa0_.extract (x21_3 : Int).toNat ((wrap64 ((wrap64 (x21_3 + t431)) + 1)) : Int).toNat) t468 _ ?side1 ?side2 ?side3 ?side4 A78.out).mono ?_
                             (case side1 => repeat (first | exact (Kd.R_reads' HO_457001.out).2.2 | (with_reducible refine Kd.C_alloc ?_ _) | (with_reducible refine Kd.C_drewN ?_ _) | (with_reducible refine Kd.C_drew ?_)))
                             (case side2 => exact (Kd.R_reads' HO_457001.out).2.1)
                             (case side3 => repeat (first | exact (Kd.R_reads' HO_457002.out).2.2 | (with_reducible refine Kd.C_alloc ?_ _) | (with_reducible refine Kd.C_drewN ?_ _) | (with_reducible refine Kd.C_drew ?_)))
                             (case side4 => exact (Kd.R_reads' HO_457002.out).2.1)
                             rintro e w92 ⟨rfl, hb⟩
                             refine ⟨_, rfl, ?_⟩
                             have n0_ := Aside0.mk (Kd.R_below (by (with_reducible repeat (first | apply Kd.R_alloc | apply Kd.R_drewN | apply Kd.R_drew)); exact HO_448001.out) hb)
                             have n1_ := Aside0.mk (Kd.R_below (by (with_reducible repeat (first | apply Kd.R_alloc | apply Kd.R_drewN | apply Kd.R_drew)); exact HO_448002.out) hb)
                             have n2_ := Aside0.mk (Kd.R_below (by (with_reducible repeat (first | apply Kd.R_alloc | apply Kd.R_drewN | apply Kd.R_drew)); exact HO_457001.out) hb)
                             have n3_ := Aside0.mk (Kd.R_below (by (with_reducible repeat (first | apply Kd.R_alloc | apply Kd.R_drewN | apply Kd.R_drew)); exact HO_457002.out) hb)
                             have n6_ := Aside0.mk (below_step (by repeat (first | (with_reducible first | exact HB.out | apply lA | apply lN | apply lD | refine lS ?_ GE447.out | refine lS ?_ GE456.out) | exact HB.out)) hb)
                             clear HO_448001
                             clear HO_448002
                             clear HO_457001
                             clear HO_457002
                             clear HB
                             have HO_448001 := n0_
                             have HO_448002 := n1_
                             have HO_457001 := n2_
                             have HO_457002 := n3_
                             have HB := n6_
                             clear n0_ n1_ n2_ n3_ n6_
                             replace BK447 := Aside0.mk (blk_below (g := gb447) (o := .cells #[.string t439, .slice Ao20 t440.length co20, .slice Ao21 t443.length co21] 24 (0, 0)) (kX BK447.out) hb)
                             replace BK456 := Aside0.mk (blk_below (g := gb456) (o := .cells #[.string t448, .slice Ao26 t449.length co26, .slice Ao27 t452.length co27] 24 (0, 0)) (kX BK456.out) hb)
                             (try clear hb)
                             (try clear hb2)
                             (try clear hk)
                             (try clear hi)
                             refine hK.out _ _ ⟨(blk_cell BK456.out 0).trans rfl, (blk_cell BK456.out 1).trans rfl, (blk_cell BK456.out 2).trans rfl⟩ (fun hHeld => ?_)
                             clear hK K
                             refine nm 180 ?_
                             refine pu 9 181 (Bs 10 26) HT_ ?_
                             refine pu 10 182 (Bs 11 26) HT_ ?_
                             refine pu 11 183 (Bs 12 26) HT_ ?_
                             refine pu 12 184 (Bs 13 26) HT_ ?_
                             refine pu 13 185 (Bs 14 26) HT_ ?_
                             refine pu 14 186 (Bs 15 26) HT_ ?_
                             refine pu 16 188 (Br [15,1,1,9]) HT_ ?_
                             refine pu 17 189 (Br [15,1,2,8]) HT_ ?_
                             refine pu 18 190 (Br [15,1,3,7]) HT_ ?_
                             refine pu 19 191 (Br [15,1,4,6]) HT_ ?_
                             refine pu 20 192 (Br [15,1,5,5]) HT_ ?_
                             refine pu 21 193 (Br [15,1,6,4]) HT_ ?_
                             refine ta 15 187 (Bs 22 26) HT_ HW_ hHeld ?_
                             refine one_ (i := 22) (N := some 194) (Bs 23 26) rfl rfl (one_of HT_.out (by kernel_rfl)) (by decide) (fun K hK => ?_)
                             refine goes_ Try.func29 (by kernel_rfl) rfl #[.agg #[.string t448, .slice Ao26 t449.length co26, .slice Ao27 t452.length co27], .string (sa0_.extract (x21_3 : Int).toNat ((wrap64 (x21_3 + t431)) : Int).toNat)] (by rfl) rfl rfl (by (try simp only [List.map_toArray, List.map_cons, List.map_nil]); first | done | (simp only [hji3]; rfl) | rfl | (simp only [List.length_drop, List.length_take]; rfl)) ?_
                             with_reducible refine (find_Index_Count.calls t448 _ _ t449 _ _ t452 (sa0_.extract (x21_3 : Int).toNat ((wrap64 (x21_3 + t431)) : Int).toNat) t469 _ ?side1 ?side2 ?side3 ?side4 A86.out).mono ?_
                             (case side1 => repeat (first | exact (Kd.R_reads' HO_457001.out).2.2 | (with_reducible refine Kd.C_alloc ?_ _) | (with_reducible refine Kd.C_drewN ?_ _) | (with_reducible refine Kd.C_drew ?_)))
                             (case side2 => exact (Kd.R_reads' HO_457001.out).2.1)
                             (case side3 => repeat (first | exact (Kd.R_reads' HO_457002.out).2.2 | (with_reducible refine Kd.C_alloc ?_ _) | (with_reducible refine Kd.C_drewN ?_ _) | (with_reducible refine Kd.C_drew ?_)))
                             (case side4 => exact (Kd.R_reads' HO_457002.out).2.1)
                             rintro e w93 ⟨rfl, hb⟩
                             refine ⟨_, rfl, ?_⟩
                             have n0_ := Aside0.mk (Kd.R_below (by (with_reducible repeat (first | apply Kd.R_alloc | apply Kd.R_drewN | apply Kd.R_drew)); exact HO_448001.out) hb)
                             have n1_ := Aside0.mk (Kd.R_below (by (with_reducible repeat (first | apply Kd.R_alloc | apply Kd.R_drewN | apply Kd.R_drew)); exact HO_448002.out) hb)
                             have n2_ := Aside0.mk (Kd.R_below (by (with_reducible repeat (first | apply Kd.R_alloc | apply Kd.R_drewN | apply Kd.R_drew)); exact HO_457001.out) hb)
                             have n3_ := Aside0.mk (Kd.R_below (by (with_reducible repeat (first | apply Kd.R_alloc | apply Kd.R_drewN | apply Kd.R_drew)); exact HO_457002.out) hb)
                             have n6_ := Aside0.mk (below_step (by repeat (first | (with_reducible first | exact HB.out | apply lA | apply lN | apply lD | refine lS ?_ GE447.out | refine lS ?_ GE456.out) | exact HB.out)) hb)
                             clear HO_448001
                             clear HO_448002
                             clear HO_457001
                             clear HO_457002
                             clear HB
                             have HO_448001 := n0_
                             have HO_448002 := n1_
                             have HO_457001 := n2_
                             have HO_457002 := n3_
                             have HB := n6_
                             clear n0_ n1_ n2_ n3_ n6_
                             replace BK447 := Aside0.mk (blk_below (g := gb447) (o := .cells #[.string t439, .slice Ao20 t440.length co20, .slice Ao21 t443.length co21] 24 (0, 0)) (kX BK447.out) hb)
                             replace BK456 := Aside0.mk (blk_below (g := gb456) (o := .cells #[.string t448, .slice Ao26 t449.length co26, .slice Ao27 t452.length co27] 24 (0, 0)) (kX BK456.out) hb)
                             (try clear hb)
                             (try clear hb2)
                             (try clear hk)
                             (try clear hi)
                             refine hK.out _ _ ⟨(blk_cell BK456.out 0).trans rfl, (blk_cell BK456.out 1).trans rfl, (blk_cell BK456.out 2).trans rfl⟩ (fun hHeld => ?_)
                             clear hK K
                             refine nm 194 ?_
                             refine pu 23 195 (Bs 24 26) HT_ ?_
                             refine pu 24 196 (Bs 25 26) HT_ ?_
                             refine pu 25 197 (Bs 26 26) HT_ ?_
                             refine done_ (done_of HT_.out (by kernel_rfl)) ?_
                             try go_wp2
                             go_roundg k3
                             case measure => have := HJ12.out; have := HJ57.out; have := HK3.out; omega
                             case rel => exact ⟨(wrap64 (x21_3 + 1)), (by first | rfl | (simp; done) | (simp [*]; done)), H', ⟨by have := HJ12.out; have := HJ57.out; have := HK3.out; omega⟩, ⟨by (with_reducible repeat (first | apply Kd.R_alloc | apply Kd.R_drewN | apply Kd.R_drew)); exact HO_448001.out⟩, ⟨by (with_reducible repeat (first | apply Kd.R_alloc | apply Kd.R_drewN | apply Kd.R_drew)); exact HO_448002.out⟩, ⟨by (with_reducible repeat (first | apply Kd.R_alloc | apply Kd.R_drewN | apply Kd.R_drew)); exact HO_457001.out⟩, ⟨by (with_reducible repeat (first | apply Kd.R_alloc | apply Kd.R_drewN | apply Kd.R_drew)); exact HO_457002.out⟩, ⟨by (with_reducible repeat (first | refine kN ?_ _ | refine kD ?_ | refine kA ?_ _)); exact BK447.out⟩, ⟨by (with_reducible repeat (first | refine kN ?_ _ | refine kD ?_ | refine kA ?_ _)); exact BK456.out⟩, ⟨by repeat (first | (with_reducible first | exact HB.out | apply lA | apply lN | apply lD | refine lS ?_ GE447.out | refine lS ?_ GE456.out) | exact HB.out)⟩⟩
                           ·rw [if_neg c85] at H
                            exact absurd H (by simp)
                          ·rw [if_neg c84] at H
                           exact absurd H (by simp)
                         ·rw [if_neg c82] at H
                          have c82b0 : decide (x21_3 < t432) = false := decide_eq_false c82
                          clear c82
                          have H' := Aside0.mk H
                          clear H
                          try go_wp2
                          replace HO_448001 := Aside0.mk (Kd.R_drew HO_448001.out)
                          replace HO_448002 := Aside0.mk (Kd.R_drew HO_448002.out)
                          replace HO_457001 := Aside0.mk (Kd.R_drew HO_457001.out)
                          replace HO_457002 := Aside0.mk (Kd.R_drew HO_457002.out)
                          replace BK447 := Aside0.mk (kD BK447.out)
                          replace BK456 := Aside0.mk (kD BK456.out)
                          replace HB := Aside0.mk (lD HB.out)
                          refine start_ (n := 26) (S := fun w' => w'.cell? ⟨gb456, 0, none⟩ = some (.string t448) ∧ w'.cell? ⟨gb456, 1, none⟩ = some (.slice Ao26 t449.length co26) ∧ w'.cell? ⟨gb456, 2, none⟩ = some (.slice Ao27 t452.length co27)) (ds := []) (Bs 0 26) (by kernel_rfl) rfl rfl ⟨(blk_cell BK456.out 0).trans rfl, (blk_cell BK456.out 1).trans rfl, (blk_cell BK456.out 2).trans rfl⟩ (fun hHeld => ?_); refine with_tabW silversidelaw07_FindBoth.tab22 silversidelaw07_FindBoth.bits22 (fun HT_ HW_ => ?_)
                          generalize wr.drew = w94 at HO_448001 HO_448002 HO_457001 HO_457002 BK447 BK456 HB hHeld ⊢
                          refine pu 1 173 (Br [0,1,1,24]) HT_ ?_
                          refine pu 2 174 (Br [0,1,2,23]) HT_ ?_
                          refine pu 3 175 (Br [0,1,3,22]) HT_ ?_
                          refine pu 4 176 (Br [0,1,4,21]) HT_ ?_
                          refine pu 5 177 (Br [0,1,5,20]) HT_ ?_
                          refine pu 6 178 (Br [0,1,6,19]) HT_ ?_
                          refine pu 7 179 (Br [0,1,7,18]) HT_ ?_
                          refine ta 0 172 (Bs 8 26) HT_ HW_ hHeld ?_
                          refine one_ (i := 8) (N := some 180) (Bs 9 26) rfl rfl (one_of HT_.out (by kernel_rfl)) (by decide) (fun K hK => ?_)
                          refine goes_ Try.func29 (by kernel_rfl) rfl #[.agg #[.string t448, .slice Ao26 t449.length co26, .slice Ao27 t452.length co27], .string (sa0_.extract (x21_3 : Int).toNat ((wrap64 ((wrap64 (x21_3 + t431)) + 1)) : Int).toNat)] (by rfl) rfl rfl (by (try simp only [List.map_toArray, List.map_cons, List.map_nil]); first | done | (simp only [hji3]; rfl) | rfl | (simp only [List.length_drop, List.length_take]; rfl)) ?_
                          with_reducible refine (find_Index_Count.calls t448 _ _ t449 _ _ t452 (sa0_.extract (x21_3 : Int).toNat ((wrap64 ((wrap64 (x21_3 + t431)) + 1)) : Int).toNat) t468 _ ?side1 ?side2 ?side3 ?side4 A78.out).mono ?_
                          (case side1 => repeat (first | exact (Kd.R_reads' HO_457001.out).2.2 | (with_reducible refine Kd.C_alloc ?_ _) | (with_reducible refine Kd.C_drewN ?_ _) | (with_reducible refine Kd.C_drew ?_)))
                          (case side2 => exact (Kd.R_reads' HO_457001.out).2.1)
                          (case side3 => repeat (first | exact (Kd.R_reads' HO_457002.out).2.2 | (with_reducible refine Kd.C_alloc ?_ _) | (with_reducible refine Kd.C_drewN ?_ _) | (with_reducible refine Kd.C_drew ?_)))
                          (case side4 => exact (Kd.R_reads' HO_457002.out).2.1)
                          rintro e w95 ⟨rfl, hb⟩
                          refine ⟨_, rfl, ?_⟩
                          have n0_ := Aside0.mk (Kd.R_below (by (with_reducible repeat (first | apply Kd.R_alloc | apply Kd.R_drewN | apply Kd.R_drew)); exact HO_448001.out) hb)
                          have n1_ := Aside0.mk (Kd.R_below (by (with_reducible repeat (first | apply Kd.R_alloc | apply Kd.R_drewN | apply Kd.R_drew)); exact HO_448002.out) hb)
                          have n2_ := Aside0.mk (Kd.R_below (by (with_reducible repeat (first | apply Kd.R_alloc | apply Kd.R_drewN | apply Kd.R_drew)); exact HO_457001.out) hb)
                          have n3_ := Aside0.mk (Kd.R_below (by (with_reducible repeat (first | apply Kd.R_alloc | apply Kd.R_drewN | apply Kd.R_drew)); exact HO_457002.out) hb)
                          have n6_ := Aside0.mk (below_step (by repeat (first | (with_reducible first | exact HB.out | apply lA | apply lN | apply lD | refine lS ?_ GE447.out | refine lS ?_ GE456.out) | exact HB.out)) hb)
                          clear HO_448001
                          clear HO_448002
                          clear HO_457001
                          clear HO_457002
                          clear HB
                          have HO_448001 := n0_
                          have HO_448002 := n1_
                          have HO_457001 := n2_
                          have HO_457002 := n3_
                          have HB := n6_
                          clear n0_ n1_ n2_ n3_ n6_
                          replace BK447 := Aside0.mk (blk_below (g := gb447) (o := .cells #[.string t439, .slice Ao20 t440.length co20, .slice Ao21 t443.length co21] 24 (0, 0)) (kX BK447.out) hb)
                          replace BK456 := Aside0.mk (blk_below (g := gb456) (o := .cells #[.string t448, .slice Ao26 t449.length co26, .slice Ao27 t452.length co27] 24 (0, 0)) (kX BK456.out) hb)
                          (try clear hb)
                          (try clear hb2)
                          (try clear hk)
                          (try clear hi)
                          refine hK.out _ _ ⟨(blk_cell BK456.out 0).trans rfl, (blk_cell BK456.out 1).trans rfl, (blk_cell BK456.out 2).trans rfl⟩ (fun hHeld => ?_)
                          clear hK K
                          refine nm 180 ?_
                          refine pu 9 181 (Bs 10 26) HT_ ?_
                          refine pu 10 182 (Bs 11 26) HT_ ?_
                          refine pu 11 183 (Bs 12 26) HT_ ?_
                          refine pu 12 184 (Bs 13 26) HT_ ?_
                          refine pu 13 185 (Bs 14 26) HT_ ?_
                          refine pu 14 186 (Bs 15 26) HT_ ?_
                          refine po 15 187 (Bs 16 26) HT_ ?_
                          refine po 16 188 (Bs 17 26) HT_ ?_
                          refine po 17 189 (Bs 18 26) HT_ ?_
                          refine po 18 190 (Bs 19 26) HT_ ?_
                          refine po 19 191 (Bs 20 26) HT_ ?_
                          refine po 20 192 (Bs 21 26) HT_ ?_
                          refine po 21 193 (Bs 22 26) HT_ ?_
                          refine po 22 194 (Bs 23 26) HT_ ?_
                          refine po 23 195 (Bs 24 26) HT_ ?_
                          refine pu 24 196 (Bs 25 26) HT_ ?_
                          refine pu 25 197 (Bs 26 26) HT_ ?_
                          refine done_ (done_of HT_.out (by kernel_rfl)) ?_
                          try go_wp2
                          go_roundg k3
                          case measure => have := HJ12.out; have := HJ57.out; have := HK3.out; omega
                          case rel => exact ⟨(wrap64 (x21_3 + 1)), (by first | rfl | (simp; done) | (simp [*]; done)), H', ⟨by have := HJ12.out; have := HJ57.out; have := HK3.out; omega⟩, ⟨by (with_reducible repeat (first | apply Kd.R_alloc | apply Kd.R_drewN | apply Kd.R_drew)); exact HO_448001.out⟩, ⟨by (with_reducible repeat (first | apply Kd.R_alloc | apply Kd.R_drewN | apply Kd.R_drew)); exact HO_448002.out⟩, ⟨by (with_reducible repeat (first | apply Kd.R_alloc | apply Kd.R_drewN | apply Kd.R_drew)); exact HO_457001.out⟩, ⟨by (with_reducible repeat (first | apply Kd.R_alloc | apply Kd.R_drewN | apply Kd.R_drew)); exact HO_457002.out⟩, ⟨by (with_reducible repeat (first | refine kN ?_ _ | refine kD ?_ | refine kA ?_ _)); exact BK447.out⟩, ⟨by (with_reducible repeat (first | refine kN ?_ _ | refine kD ?_ | refine kA ?_ _)); exact BK456.out⟩, ⟨by repeat (first | (with_reducible first | exact HB.out | apply lA | apply lN | apply lD | refine lS ?_ GE447.out | refine lS ?_ GE456.out) | exact HB.out)⟩⟩
                       ·rw [if_neg c77] at H
                        exact absurd H (by simp)
                      ·rw [if_neg c76] at H
                       exact absurd H (by simp)
                     ·rw [if_neg c75] at H
                      exact absurd H (by simp)
                    ·rw [if_neg c74] at H
                     have c74b0 : decide ((wrap64 (x21_3 + t431)) < (sa0_.size : Int)) = false := decide_eq_false c74
                     clear c74
                     replace H := Option.bind_eq_some_iff.mp H
                     obtain ⟨t467, A960, H⟩ := H
                     replace H : (some t467) = some r := H
                     have A96 := Aside0.mk A960
                     clear A960
                     obtain rfl := Option.some.inj H
                     go_wp2_with (first | ((with_reducible refine gate_callee (f := 21) rfl ?_); refine goesL_ (some 198) rfl rfl Try.func21 (by kernel_rfl) rfl #[] rfl (by (try simp only [List.map_toArray, List.map_cons, List.map_nil]); first | done | rfl | (simp only [List.length_drop, List.length_take]; rfl)) ?_; (with_reducible refine (silversidelaw07_awake.calls k3  t467 _ A96.out).mono ?_); rintro e w97 ⟨rfl, hb⟩; refine ⟨_, rfl, ?_⟩; have n0_ := Aside0.mk (Kd.R_below (by (with_reducible repeat (first | apply Kd.R_alloc | apply Kd.R_drewN | apply Kd.R_drew)); exact HO_448001.out) hb); have n1_ := Aside0.mk (Kd.R_below (by (with_reducible repeat (first | apply Kd.R_alloc | apply Kd.R_drewN | apply Kd.R_drew)); exact HO_448002.out) hb); have n2_ := Aside0.mk (Kd.R_below (by (with_reducible repeat (first | apply Kd.R_alloc | apply Kd.R_drewN | apply Kd.R_drew)); exact HO_457001.out) hb); have n3_ := Aside0.mk (Kd.R_below (by (with_reducible repeat (first | apply Kd.R_alloc | apply Kd.R_drewN | apply Kd.R_drew)); exact HO_457002.out) hb); have n4_ := Aside0.mk (blk_below (g := gb447) (o := .cells #[.string t439, .slice Ao20 t440.length co20, .slice Ao21 t443.length co21] 24 (0, 0)) (kX BK447.out) hb); have n5_ := Aside0.mk (blk_below (g := gb456) (o := .cells #[.string t448, .slice Ao26 t449.length co26, .slice Ao27 t452.length co27] 24 (0, 0)) (kX BK456.out) hb); have n6_ := Aside0.mk (below_step (by repeat (first | (with_reducible first | exact HB.out | apply lA | apply lN | apply lD | refine lS ?_ GE447.out | refine lS ?_ GE456.out) | exact HB.out)) hb); clear HO_448001; clear HO_448002; clear HO_457001; clear HO_457002; clear BK447; clear BK456; clear HB; have HO_448001 := n0_; have HO_448002 := n1_; have HO_457001 := n2_; have HO_457002 := n3_; have BK447 := n4_; have BK456 := n5_; have HB := n6_; clear n0_ n1_ n2_ n3_ n4_ n5_ n6_; (try clear hb); (try clear hb2); (try clear hk); (try clear hi)))
                     go_ret
                     exact ⟨by first | rfl | (simp [errW_none, errW_some] <;> rfl) | (simp only [← hji3, ← hji6]; first | rfl | (simp [errW_none, errW_some] <;> rfl)) | (simp [*, errW_none, errW_some] <;> rfl), by repeat (first | (with_reducible first | exact HB.out | apply lA | apply lN | apply lD | refine lS ?_ GE447.out | refine lS ?_ GE456.out) | exact HB.out)⟩
            ·rw [if_neg c55] at H
             exact absurd H (by simp)
           ·rw [if_neg c54] at H
            exact absurd H (by simp)
          ·rw [if_neg c53] at H
           exact absurd H (by simp)
    rw [if_neg c8] at H
    exact absurd H (by simp)
   rw [if_neg c7] at H
   exact absurd H (by simp)
  rw [if_neg c5] at H
  exact absurd H (by simp)
 rw [if_neg c4] at H
 exact absurd H (by simp)

/-- THE ONE PURE STATEMENT of silversidelaw07_FindBoth: yours. -/
def silversidelaw07_FindBoth.Pure : Prop := ∀ (a0 : ByteArray) (a1 : ByteArray), a0.size ≤ 140737488351232 → a1.size ≤ 140737488351232 → ∃ k, silversidelaw07_FindBoth.f k a0 a1 = some true
theorem silversidelaw07_FindBoth.walk (P : silversidelaw07_FindBoth.Pure) (a0 : ByteArray) (a1 : ByteArray) (w : World) (w0 : a0.size ≤ 140737488351232) (w1 : a1.size ≤ 140737488351232) :
  Calls Try.prog 14 #[.string a0, .string a1] w fun e w' => e = .returned (.bool true) ∧ Below w.heap.size w w' := by
 obtain ⟨k, h⟩ := P a0 a1 w0 w1
 refine (silversidelaw07_FindBoth.calls k a0 a1 true ⟨rfl⟩ w h).mono ?_
 rintro e w' ⟨rfl, hd⟩
 exact ⟨rfl, hd⟩

end Go.Proofs.Ytppelnlocfcgfaa.P
namespace Go.Proofs.Ytppelnlocfcgfaa.P
open Go.RowKit Go.Proofs.YtppelnlocfcgfaaW.PrintWords Go.Proofs.YtppelnlocfcgfaaW.PrintLast Go.Proofs.YtppelnlocfcgfaaW.PrintMore
open Go.Proofs.Fnd
theorem lcp_left {s : List UInt8} {x y z l m : Nat} (hx : LtW (s.length + 1) (sq s x) (sq s y)) (hz : LtW (s.length + 1) (sq s y) (sq s z)) (h : IsLcp s x z l) (h' : IsLcp s x y m) : l ≤ m := by
  apply Decidable.byContradiction
  intro q
  have e1 := h.same m (by omega)
  have d1 := h'.diff
  obtain ⟨a, _, a2, a3⟩ := hx
  have ha : a = m := by
    rcases Nat.lt_trichotomy a m with c | c | c
    · have := h'.same a c; omega
    · exact c
    · exact absurd (a2 m c) d1
  subst ha
  obtain ⟨b, _, b2, b3⟩ := hz
  rcases Nat.lt_trichotomy b a with c | c | c
  · have e2 := h.same b (by omega)
    have e3 := h'.same b c
    omega
  · subst c; omega
  · have := b2 a c; omega
theorem lcp_up (s : List UInt8) {a c : Nat} (h : a < c) (hc : c < s.length) : lcp s ((sufOrd s).getD a 0) ((sufOrd s).getD c 0) ≤ (overL s).getD c 0 := by
  rw [overL_at s c hc, if_neg (by omega)]
  by_cases e : a = c - 1
  · subst e; exact Nat.le_refl _
  · have la := ord_lt s a (by omega)
    have lb := ord_lt s (c - 1) (by omega)
    have lc := ord_lt s c hc
    have ne1 : (sufOrd s).getD a 0 ≠ (sufOrd s).getD c 0 := fun q => by have := ord_inj s (by omega) hc q; omega
    have ne2 : (sufOrd s).getD (c - 1) 0 ≠ (sufOrd s).getD c 0 := fun q => by have := ord_inj s (by omega) hc q; omega
    exact lcp_between (fun q => (ord_up s (a := a) (b := c - 1) (by omega) (by omega)).asymm q) (ord_up s (by omega) hc) (lcp_is s _ _ (by omega) (by omega) ne1) (lcp_is s _ _ (by omega) (by omega) ne2)
theorem lcp_dn (s : List UInt8) {a c : Nat} (h : a < c) (hc : c < s.length) : lcp s ((sufOrd s).getD a 0) ((sufOrd s).getD c 0) ≤ (overL s).getD (a + 1) 0 := by
  rw [overL_at s (a + 1) (by omega), if_neg (by omega), Nat.add_sub_cancel]
  by_cases e : c = a + 1
  · subst e; exact Nat.le_refl _
  · have la := ord_lt s a (by omega)
    have lb := ord_lt s (a + 1) (by omega)
    have lc := ord_lt s c hc
    have ne1 : (sufOrd s).getD a 0 ≠ (sufOrd s).getD c 0 := fun q => by have := ord_inj s (by omega) hc q; omega
    have ne2 : (sufOrd s).getD a 0 ≠ (sufOrd s).getD (a + 1) 0 := fun q => by have := ord_inj s (by omega) (by omega) q; omega
    exact lcp_left (ord_up s (by omega) (by omega)) (ord_up s (by omega) hc) (lcp_is s _ _ (by omega) (by omega) ne1) (lcp_is s _ _ (by omega) (by omega) ne2)
/-- the longest that a place shares with another -/
def mxO (s : List UInt8) (i : Nat) : Nat := max ((overL s).getD (rank s i) 0) ((overL s).getD (rank s i + 1) 0)
theorem overL_len (s : List UInt8) : (overL s).length = s.length := by rw [overL, List.length_map, List.length_range]
theorem mxO_most (s : List UInt8) {i j : Nat} (hi : i < s.length) (hj : j < s.length) (h : i ≠ j) : lcp s i j ≤ mxO s i := by
  have ri := rank_lt s i hi
  have rj := rank_lt s j hj
  have ei := ord_rank s i hi
  have ej := ord_rank s j hj
  unfold mxO
  rcases Nat.lt_trichotomy (rank s i) (rank s j) with c | c | c
  · have := lcp_dn s c rj
    rw [ei, ej] at this
    omega
  · rw [c, ej] at ei; exact absurd ei.symm h
  · have := lcp_up s c ri
    rw [ei, ej, lcp_symm s j i (by omega) (by omega) (fun e => h e.symm)] at this
    omega
theorem mxO_some (s : List UInt8) {i : Nat} (hi : i < s.length) : mxO s i = 0 ∨ ∃ j, j < s.length ∧ j ≠ i ∧ lcp s i j = mxO s i := by
  have ri := rank_lt s i hi
  have ei := ord_rank s i hi
  by_cases h0 : mxO s i = 0
  · exact .inl h0
  · refine .inr ?_
    unfold mxO at h0 ⊢
    by_cases h1 : (overL s).getD (rank s i + 1) 0 ≤ (overL s).getD (rank s i) 0
    · have hr : rank s i ≠ 0 := fun e => by
        rw [e] at h1 h0
        rw [overL_at s 0 (by omega), if_pos rfl] at h1 h0
        omega
      refine ⟨(sufOrd s).getD (rank s i - 1) 0, ord_lt s _ (by omega), fun e => ?_, ?_⟩
      · have := ord_inj s (a := rank s i - 1) (b := rank s i) (by omega) ri (by rw [e, ei]); omega
      · have h2 := overL_at s (rank s i) ri
        rw [if_neg hr, ei] at h2
        rw [lcp_symm s i _ (by omega) (by have := ord_lt s (rank s i - 1) (by omega); omega) (fun e => by have := ord_inj s (a := rank s i - 1) (b := rank s i) (by omega) ri (by rw [← e, ei]); omega), ← h2]
        omega
    · have hr : rank s i + 1 < s.length := by
        apply Decidable.byContradiction
        intro q
        have : (overL s).getD (rank s i + 1) 0 = 0 := by rw [List.getD_eq_getElem?_getD, List.getElem?_eq_none (by rw [overL_len]; omega)]; rfl
        omega
      refine ⟨(sufOrd s).getD (rank s i + 1) 0, ord_lt s _ (by omega), fun e => ?_, ?_⟩
      · have := ord_inj s (a := rank s i + 1) (b := rank s i) (by omega) ri (by rw [e, ei]); omega
      · have h2 := overL_at s (rank s i + 1) hr
        rw [if_neg (by omega), Nat.add_sub_cancel, ei] at h2
        rw [← h2]
        omega
theorem mxO_in (s : List UInt8) {i : Nat} (hi : i < s.length) : i + mxO s i ≤ s.length := by
  rcases mxO_some s hi with h | ⟨j, hj, hne, h⟩
  · omega
  · have := (lcp_is s i j (by omega) (by omega) (fun e => hne e.symm)).inside (by omega) (by omega) (fun e => hne e.symm)
    omega
/-- what Shortest answers -/
def shortA (t : ByteArray) (a : Int) : Int × Int :=
  if a < 0 ∨ (t.size : Int) ≤ a then (0, 2) else if t.size ≤ a.toNat + mxO t.data.toList a.toNat then (0, 6) else ((mxO t.data.toList a.toNat : Int) + 1, 0)
theorem mx_nat (a b : Nat) : mx (a : Int) (b : Int) = ((max a b : Nat) : Int) := by unfold mx; split <;> omega
theorem index_l0 (t : ByteArray) (ht : t.size ≤ 4096) (i : Nat) (hi : i < t.size) : ∀ (d k : Nat), k + d = rank t.data.toList i → Ev (fun K => slices_Index_int_int.l0 K (ordI t) (i : Int) (t.size : Int) (k : Int)) (rank t.data.toList i : Int) := by
  have hl := data_length t
  have h4 := ordI_length t
  have hr := rank_lt t.data.toList i (by omega)
  intro d
  induction d with
  | zero =>
    intro k hk
    have hv := rd_ordI t k (by omega)
    refine Ev.step (f := fun _ => some (rank t.data.toList i : Int)) (fun K => ?_) (Ev.now _)
    conv => lhs; unfold slices_Index_int_int.l0
    rw [if_pos (by omega), if_pos (by omega), if_pos (by omega), hv, if_pos]
    · congr 1; omega
    · rw [show k = rank t.data.toList i by omega, ord_rank _ _ (by omega)]
  | succ d ih =>
    intro k hk
    have hv := rd_ordI t k (by omega)
    refine Ev.step (fun K => ?_) (ih (k + 1) (by omega))
    conv => lhs; unfold slices_Index_int_int.l0
    rw [if_pos (by omega), if_pos (by omega), if_pos (by omega), hv, if_neg, w64 (by omega) (by omega)]
    · rfl
    · intro e
      have := rank_ord t.data.toList k (by omega)
      rw [show (sufOrd t.data.toList).getD k 0 = i by omega] at this
      omega
theorem index_ev (t : ByteArray) (ht : t.size ≤ 4096) (i : Nat) (hi : i < t.size) : Ev (fun K => slices_Index_int_int.f K (ordI t) (i : Int)) (rank t.data.toList i : Int) := by
  refine Ev.congr (fun K => ?_) (index_l0 t ht i hi (rank t.data.toList i) 0 (by omega))
  unfold slices_Index_int_int.f
  rw [ordI_length]; rfl
theorem shortest_in (t : ByteArray) (ht : t.size ≤ 4096) (i : Nat) (hi : i < t.size) : Ev (fun K => find_Index_Shortest.j0 K (i : Int) false t (ordI t) (overI t)) (if t.size ≤ i + mxO t.data.toList i then ((0, 6) : Int × Int) else ((mxO t.data.toList i : Int) + 1, 0)) := by
  have hl := data_length t
  have h4 := ordI_length t
  have h5 := overI_length t
  have hr := rank_lt t.data.toList i (by omega)
  have hin := mxO_in t.data.toList (i := i) (by omega)
  have hv := rd_overI t (rank t.data.toList i) (by omega)
  refine Ev.step (fun K => by rw [find_Index_Shortest.j0, if_neg (by simp)]) ?_
  refine Ev.bind (index_ev t ht i hi) ?_
  rw [if_pos (by omega), if_pos (by omega), w64 (x := (rank t.data.toList i : Int) + 1) (by omega) (by omega)]
  have e2 : ((rank t.data.toList i : Nat) : Int) + 1 = ((rank t.data.toList i + 1 : Nat) : Int) := by omega
  by_cases h1 : rank t.data.toList i + 1 < t.size
  · have hv2 := rd_overI t (rank t.data.toList i + 1) h1
    rw [e2, if_pos (by omega), if_pos (by omega), if_pos (by omega), hv, hv2, mx_nat]
    unfold mxO at hin ⊢
    rw [w64 (x := (i : Int) + _) (by omega) (by omega), w64 (by omega) (by omega)]
    by_cases h : t.size ≤ i + max ((overL t.data.toList).getD (rank t.data.toList i) 0) ((overL t.data.toList).getD (rank t.data.toList i + 1) 0)
    · rw [if_pos h, if_pos (by omega)]; exact Ev.now _
    · rw [if_neg h, if_neg (by omega)]; exact Ev.now _
  · have hz : (overL t.data.toList).getD (rank t.data.toList i + 1) 0 = 0 := by rw [List.getD_eq_getElem?_getD, List.getElem?_eq_none (by rw [overL_len]; omega)]; rfl
    rw [e2, if_neg (by omega), hv]
    unfold mxO at hin ⊢
    rw [hz, Nat.max_zero] at hin ⊢
    rw [w64 (x := (i : Int) + _) (by omega) (by omega), w64 (by omega) (by omega)]
    by_cases h : t.size ≤ i + (overL t.data.toList).getD (rank t.data.toList i) 0
    · rw [if_pos h, if_pos (by omega)]; exact Ev.now _
    · rw [if_neg h, if_neg (by omega)]; exact Ev.now _
theorem shortest_ev (t : ByteArray) (ht : t.size ≤ 4096) (a : Int) : Ev (fun K => find_Index_Shortest.f K t (ordI t) (overI t) a) (shortA t a) := by
  unfold find_Index_Shortest.f shortA
  by_cases h1 : a < 0
  · rw [if_pos (.inl h1)]
    refine ev_pos h1 ?_
    refine Ev.step (f := fun _ => some _) (fun K => ?_) (Ev.now _)
    rw [find_Index_Shortest.j0, if_pos rfl]
  · refine ev_neg h1 ?_
    by_cases h2 : (t.size : Int) ≤ a
    · rw [if_pos (.inr h2), decide_eq_true h2]
      refine Ev.step (f := fun _ => some _) (fun K => ?_) (Ev.now _)
      rw [find_Index_Shortest.j0, if_pos rfl]
    · rw [if_neg (by omega), decide_eq_false h2]
      obtain ⟨i, rfl⟩ : ∃ i : Nat, a = (i : Int) := ⟨a.toNat, by omega⟩
      rw [Int.toNat_natCast]
      exact shortest_in t ht i (by omega)
/-- the most that a place shares with the first places -/
structure Most (t : ByteArray) (i k m : Nat) : Prop where
  le : ∀ j, j < k → j ≠ i → lcp t.data.toList i j ≤ m
  is : m = 0 ∨ ∃ j, j < k ∧ j ≠ i ∧ lcp t.data.toList i j = m
theorem Most.all {t : ByteArray} {i m : Nat} (hi : i < t.size) (h : Most t i t.size m) : m = mxO t.data.toList i := by
  have hl := data_length t
  have h1 : m ≤ mxO t.data.toList i := by
    rcases h.is with h | ⟨j, hj, hne, h⟩
    · omega
    · rw [← h]; exact mxO_most _ (by omega) (by omega) (fun e => hne e.symm)
  have h2 : mxO t.data.toList i ≤ m := by
    rcases mxO_some t.data.toList (i := i) (by omega) with h3 | ⟨j, hj, hne, h3⟩
    · omega
    · rw [← h3]; exact h.le j (by omega) hne
  omega
theorem cpl_at (t : ByteArray) {i j : Nat} (hi : i < t.size) (hj : j < t.size) (h : i ≠ j) : cpl (t.data.toList.drop i) (t.data.toList.drop j) = lcp t.data.toList i j := by
  have hl := data_length t
  exact cpl_lcp (lcp_is t.data.toList i j (by omega) (by omega) h)
theorem refshort_l0 (t : ByteArray) (ht : t.size ≤ 4096) (i : Nat) (hi : i < t.size) : ∀ (d k m : Nat), k + d = t.size → Most t i k m → Ev (fun K => silversideref07_Shortest.l0 K t (i : Int) (m : Int) (k : Int)) (if t.size ≤ i + mxO t.data.toList i then ((0, 6) : Int × Int) else ((mxO t.data.toList i : Int) + 1, 0)) := by
  have hl := data_length t
  have hin := mxO_in t.data.toList (i := i) (by omega)
  intro d
  induction d with
  | zero =>
    intro k m hk hm
    obtain rfl : k = t.size := by omega
    have e := hm.all hi
    subst e
    refine Ev.step (f := fun _ => some _) (fun K => ?_) (Ev.now _)
    conv => lhs; unfold silversideref07_Shortest.l0
    rw [if_neg (by omega), w64 (x := (i : Int) + _) (by omega) (by omega), w64 (by omega) (by omega)]
    by_cases h : t.size ≤ i + mxO t.data.toList i
    · rw [if_pos h, if_pos (by omega)]
    · rw [if_neg h, if_neg (by omega)]
  | succ d ih =>
    intro k m hk hm
    by_cases e : k = i
    · subst e
      have h := ih (k + 1) m (by omega) ⟨fun j hj hne => hm.le j (by omega) hne, by
        rcases hm.is with h | ⟨j, hj, hne, h⟩
        · exact .inl h
        · exact .inr ⟨j, by omega, hne, h⟩⟩
      refine Ev.step (fun K => ?_) h
      conv => lhs; unfold silversideref07_Shortest.l0
      rw [if_pos (by omega), if_pos rfl, w64 (by omega) (by omega)]
      rfl
    · have hc := common_ev t t (by omega) (by omega) i k (by omega) (by omega)
      rw [cpl_at t hi (by omega) (fun q => e q.symm)] at hc
      have h := ih (k + 1) (max m (lcp t.data.toList i k)) (by omega) ⟨fun j hj hne => by
        by_cases e2 : j = k
        · subst e2; omega
        · have := hm.le j (by omega) hne; omega, by
        by_cases e2 : m ≤ lcp t.data.toList i k
        · exact .inr ⟨k, by omega, e, by omega⟩
        · rcases hm.is with h | ⟨j, hj, hne, h⟩
          · omega
          · exact .inr ⟨j, by omega, hne, by omega⟩⟩
      rw [← mx_nat] at h
      refine Ev.step (fun K => ?_) (Ev.bind hc h (f := fun K x => silversideref07_Shortest.l0 K t (i : Int) (mx (m : Int) x) ((k + 1 : Nat) : Int)))
      conv => lhs; unfold silversideref07_Shortest.l0
      rw [if_pos (by omega), if_neg (by omega), w64 (by omega) (by omega)]
      rfl
theorem refshort_ev (t : ByteArray) (ht : t.size ≤ 4096) (a : Int) : Ev (fun K => silversideref07_Shortest.f K t a) (shortA t a) := by
  unfold silversideref07_Shortest.f shortA
  by_cases h1 : a < 0
  · rw [if_pos (.inl h1)]
    refine ev_pos h1 ?_
    refine Ev.step (f := fun _ => some _) (fun K => ?_) (Ev.now _)
    rw [silversideref07_Shortest.j0, if_pos rfl]
  · refine ev_neg h1 ?_
    by_cases h2 : (t.size : Int) ≤ a
    · rw [if_pos (.inr h2), decide_eq_true h2]
      refine Ev.step (f := fun _ => some _) (fun K => ?_) (Ev.now _)
      rw [silversideref07_Shortest.j0, if_pos rfl]
    · rw [if_neg (by omega), decide_eq_false h2]
      obtain ⟨i, rfl⟩ : ∃ i : Nat, a = (i : Int) := ⟨a.toNat, by omega⟩
      rw [Int.toNat_natCast]
      refine Ev.step (fun K => ?_) (refshort_l0 t ht i (by omega) t.size 0 0 (by omega) ⟨fun j hj => by omega, .inl rfl⟩)
      rw [silversideref07_Shortest.j0, if_neg (by simp)]
      rfl
theorem txt_asymm {x y : List UInt8} (h : x < y) (h' : y < x) : False := by
  obtain ⟨m, h1, h2⟩ := (lt_iff x y).1 h
  obtain ⟨k, h3, h4⟩ := (lt_iff y x).1 h'
  rcases Nat.lt_trichotomy m k with c | c | c
  · have := h3 m c; omega
  · subst c; omega
  · have := h1 k c; omega
theorem txt_tri (x y : List UInt8) : x < y ∨ x = y ∨ y < x := by
  rcases tri (x.length + y.length + 1) (ch x) (ch y) with ⟨m, _, h2, h3⟩ | h | ⟨m, _, h2, h3⟩
  · exact .inl ((lt_iff x y).2 ⟨m, h2, h3⟩)
  · refine .inr (.inl ((eq_iff_ch x y).2 fun t => ?_))
    by_cases ht : t < x.length + y.length + 1
    · exact h t ht
    · rw [ch_ge x t (by omega), ch_ge y t (by omega)]
  · exact .inr (.inr ((lt_iff y x).2 ⟨m, h2, h3⟩))
theorem txt_irrefl (x : List UInt8) : ¬ x < x := fun h => txt_asymm h h
theorem countP_add {α : Type} (l : List α) (a b c : α → Bool) (h : ∀ i, i ∈ l → (c i = true ↔ (a i = true ∨ b i = true)) ∧ ¬ (a i = true ∧ b i = true)) : l.countP c = l.countP a + l.countP b := by
  induction l with
  | nil => rfl
  | cons x l ih =>
    have := ih (fun i hi => h i (List.mem_cons_of_mem _ hi))
    have hx := h x (List.mem_cons_self ..)
    rw [List.countP_cons, List.countP_cons, List.countP_cons, this]
    cases ha : a x <;> cases hb : b x <;> cases hc : c x <;> simp [ha, hb, hc] at hx ⊢ <;> omega
/-- how often a pattern occurs -/
def occN (s p : List UInt8) : Nat := (List.range s.length).countP fun i => decide (beginning s p.length i = p)
theorem upto_below (s p : List UInt8) : upto s p = below s p + occN s p := by
  unfold upto below occN
  refine countP_add _ _ _ _ fun i _ => ?_
  simp only [Bool.not_eq_true', decide_eq_false_iff_not, decide_eq_true_eq]
  constructor
  · constructor
    · intro h
      rcases txt_tri (beginning s p.length i) p with q | q | q
      · exact .inl q
      · exact .inr q
      · exact absurd q h
    · rintro (h | h)
      · exact fun q => txt_asymm h q
      · rw [h]; exact txt_irrefl p
  · rintro ⟨h1, h2⟩
    rw [h2] at h1
    exact txt_irrefl p h1
theorem count_occ (t p : ByteArray) (ht : t.size ≤ 4096) (hp : p.size ≤ 140737488351232) : find_Index_Count.f t (ordI t) (overI t) p = some (occN t.data.toList p.data.toList : Int) := by
  rw [count_is t p ht hp, upto_below]
  congr 1
  push_cast
  omega
theorem cnt0 (P : Nat → Bool) : ∀ n, (∀ i, i < n → P i = false) → (List.range n).countP P = 0
  | 0, _ => rfl
  | n + 1, h => by rw [List.range_succ, List.countP_append, cnt0 P n (fun i hi => h i (by omega))]; simp [h n (by omega)]
theorem cnt_pos (P : Nat → Bool) : ∀ n, (∃ i, i < n ∧ P i = true) → 1 ≤ (List.range n).countP P
  | 0, ⟨i, h, _⟩ => by omega
  | n + 1, ⟨i, h, hp⟩ => by
    rw [List.range_succ, List.countP_append]
    by_cases e : i = n
    · subst e; simp [hp]
    · have := cnt_pos P n ⟨i, by omega, hp⟩; omega
theorem cnt1 (P : Nat → Bool) : ∀ n a, a < n → P a = true → (∀ i, i < n → i ≠ a → P i = false) → (List.range n).countP P = 1
  | 0, a, h, _, _ => by omega
  | n + 1, a, h, hp, hn => by
    rw [List.range_succ, List.countP_append]
    by_cases e : a = n
    · subst e; rw [cnt0 P a (fun i hi => hn i (by omega) (by omega))]; simp [hp]
    · rw [cnt1 P n a (by omega) hp (fun i hi hne => hn i (by omega) hne)]; simp [hn n (by omega) (fun q => e q.symm)]
theorem cnt2 (P : Nat → Bool) : ∀ n a b, a < b → b < n → P a = true → P b = true → 2 ≤ (List.range n).countP P
  | 0, a, b, _, h, _, _ => by omega
  | n + 1, a, b, hab, h, hp, hq => by
    rw [List.range_succ, List.countP_append]
    by_cases e : b = n
    · subst e; have := cnt_pos P b ⟨a, hab, hp⟩; have e1 : List.countP P [b] = 1 := by simp [hq]
      omega
    · have := cnt2 P n a b hab (by omega) hp hq; omega
theorem extract_list (t : ByteArray) (a b : Nat) : (t.extract a b).data.toList = (t.data.toList.drop a).take (b - a) := by
  rw [ByteArray.data_extract, Array.toList_extract, List.extract_eq_take_drop]
theorem begin_len (s : List UInt8) (a L : Nat) (h : a + L ≤ s.length) : ((s.drop a).take L).length = L := by
  rw [List.length_take, List.length_drop]; omega
theorem ch_begin (s : List UInt8) (L i t : Nat) : ch ((s.drop i).take L) t = if t < L then sq s i t else 0 := by rw [ch_take, ch_drop]
/-- where a piece occurs -/
theorem begin_eq (s : List UInt8) {a i L : Nat} (ha : a < s.length) (hi : i < s.length) (hL : a + L ≤ s.length) : beginning s L i = (s.drop a).take L ↔ i = a ∨ L ≤ lcp s a i := by
  unfold beginning
  constructor
  · intro h
    by_cases e : i = a
    · exact .inl e
    · refine .inr ?_
      apply Decidable.byContradiction
      intro q
      have hl := lcp_is s a i (by omega) (by omega) (fun q => e q.symm)
      have h1 := (eq_iff_ch _ _).1 h (lcp s a i)
      rw [ch_begin, ch_begin, if_pos (by omega), if_pos (by omega)] at h1
      exact hl.diff h1.symm
  · rintro (h | h)
    · rw [h]
    · by_cases e : i = a
      · rw [e]
      · have hl := lcp_is s a i (by omega) (by omega) (fun q => e q.symm)
        refine (eq_iff_ch _ _).2 fun t => ?_
        rw [ch_begin, ch_begin]
        split
        · exact (hl.same t (by omega)).symm
        · rfl
theorem occ_one (s : List UInt8) {a L : Nat} (ha : a < s.length) (hL : a + L ≤ s.length) (h : mxO s a < L) : occN s ((s.drop a).take L) = 1 := by
  unfold occN
  rw [begin_len s a L hL]
  refine cnt1 _ _ a ha ?_ fun i hi hne => ?_
  · rw [decide_eq_true_eq, begin_eq s ha ha hL]; exact .inl rfl
  · rw [decide_eq_false_iff_not, begin_eq s ha hi hL]
    have := mxO_most s ha hi (fun e => hne e.symm)
    omega
theorem occ_two (s : List UInt8) {a L : Nat} (ha : a < s.length) (hL : a + L ≤ s.length) (h0 : 0 < L) (h : L ≤ mxO s a) : 2 ≤ occN s ((s.drop a).take L) := by
  unfold occN
  rw [begin_len s a L hL]
  rcases mxO_some s ha with h1 | ⟨j, hj, hne, h1⟩
  · omega
  · have pa : decide (beginning s L a = (s.drop a).take L) = true := by rw [decide_eq_true_eq, begin_eq s ha ha hL]; exact .inl rfl
    have pj : decide (beginning s L j = (s.drop a).take L) = true := by rw [decide_eq_true_eq, begin_eq s ha hj hL]; exact .inr (by omega)
    rcases Nat.lt_or_gt_of_ne hne with c | c
    · exact cnt2 _ _ j a c ha pj pa
    · exact cnt2 _ _ a j c hj pa pj
theorem mod_is (a : Int) (n : Nat) (h0 : 0 < n) (hn : n ≤ 1000000) : ∃ r : Nat, r < n ∧ silversidelaw07_mod.f a (n : Int) = some (r : Int) := by
  unfold silversidelaw07_mod.f
  have e1 : IntKind.u64.wrap (n : Int) = (n : Int) := by
    unfold IntKind.wrap
    simp [IntKind.bits, IntKind.signed]
    omega
  rw [e1, if_neg (by omega)]
  have h1 : 0 ≤ IntKind.u64.wrap a := by
    unfold IntKind.wrap
    simp [IntKind.bits, IntKind.signed]
    omega
  rw [Int.tmod_eq_emod_of_nonneg h1]
  generalize IntKind.u64.wrap a = x at *
  have h2 := Int.emod_nonneg x (show (n : Int) ≠ 0 by omega)
  have h3 := Int.emod_lt_of_pos x (show (0 : Int) < (n : Int) by omega)
  refine ⟨(x % (n : Int)).toNat, by omega, ?_⟩
  rw [w64 (by omega) (by omega)]
  congr 1
  omega
end Go.Proofs.Ytppelnlocfcgfaa.P
