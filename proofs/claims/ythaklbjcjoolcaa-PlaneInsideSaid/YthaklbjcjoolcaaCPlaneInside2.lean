/- Proved here: what functions that the law reaches compute, and plain laws of that. No conditions but those that the theorems state. Put together by a program; a part of it was printed by a program of the session's, by way of the kit's printer (wip/printplus.py, wip/mend*.py). -/
import Derived.Test.YthaklbjcjoolcaaB1
import Derived.Test.YthaklbjcjoolcaaB4
import Derived.Test.YthaklbjcjoolcaaCPlaneInside1
import Derived.Test.YthaklbjcjoolcaaB2
import Derived.Test.YthaklbjcjoolcaaB3
import Derived.Test.YthaklbjcjoolcaaB5
set_option linter.unusedVariables false
set_option linter.unusedSimpArgs false
namespace Go.Proofs.Ythaklbjcjoolcaa.P
open Go.RowKit Go.Proofs.YthaklbjcjoolcaaW.PrintWords Go.Proofs.YthaklbjcjoolcaaW.PrintLast Go.Proofs.YthaklbjcjoolcaaW.PrintMore
attribute [local go_sem] max2_int min2_int max_two min_two max_three min_three max_four min_four   -- for this text's walks alone
set_option linter.unusedVariables false
set_option linter.unusedSimpArgs false

attribute [local go_sem high] eqA31
/-! ### silversideref01_Simple: function 26 -/
mutual
def silversideref01_Simple.j0 : Nat → List (S31) → Int → Bool → Option (Bool)
 | 0, _, _, _ => none
 | k + 1, x0, x3, x21 => if x21 = true then (some false) else (silversideref01_Simple.l0 k x0 x3 0)
def silversideref01_Simple.l0 : Nat → List (S31) → Int → Int → Option (Bool)
 | 0, _, _, _ => none
 | k + 1, x0, x3, x4 => if x4 < x3 then (if 0 ≤ x4 then (if x4 < (x0.length : Int) then ((silversideref01_next.f x4 x3).bind fun t262 => (if 0 ≤ t262 then (if t262 < (x0.length : Int) then (if (((rd_T31 x0 x4).f0) == ((rd_T31 x0 t262).f0) && (((rd_T31 x0 x4).f1) == ((rd_T31 x0 t262).f1))) = true then (some false) else (silversideref01_Simple.l0 k x0 x3 (wrap64 (x4 + 1)))) else (none)) else (none))) else (none)) else (none)) else (silversideref01_Simple.l1 k x0 x3 0)
def silversideref01_Simple.l1 : Nat → List (S31) → Int → Int → Option (Bool)
 | 0, _, _, _ => none
 | k + 1, x0, x3, x5 => if x5 < x3 then ((silversideref01_next.f x5 x3).bind fun t264 => ((silversideref01_next.f t264 x3).bind fun t265 => (if 0 ≤ x5 then (if x5 < (x0.length : Int) then (if 0 ≤ t264 then (if t264 < (x0.length : Int) then (if 0 ≤ t265 then (if t265 < (x0.length : Int) then ((silversideref01_Turn.f ((rd_T31 x0 x5).f0) ((rd_T31 x0 x5).f1) ((rd_T31 x0 t264).f0) ((rd_T31 x0 t264).f1) ((rd_T31 x0 t265).f0) ((rd_T31 x0 t265).f1)).bind fun t269 => (if t269 = 0 then ((silversideref01_on.f ((rd_T31 x0 x5).f0) ((rd_T31 x0 x5).f1) ((rd_T31 x0 t264).f0) ((rd_T31 x0 t264).f1) ((rd_T31 x0 t265).f0) ((rd_T31 x0 t265).f1)).bind fun t273 => (if t273 = true then (silversideref01_Simple.j3 k x0 x3 x5 t264 true) else ((silversideref01_on.f ((rd_T31 x0 t264).f0) ((rd_T31 x0 t264).f1) ((rd_T31 x0 t265).f0) ((rd_T31 x0 t265).f1) ((rd_T31 x0 x5).f0) ((rd_T31 x0 x5).f1)).bind fun t277 => (silversideref01_Simple.j3 k x0 x3 x5 t264 t277)))) else (silversideref01_Simple.j3 k x0 x3 x5 t264 false))) else (none)) else (none)) else (none)) else (none)) else (none)) else (none)))) else (some true)
def silversideref01_Simple.j3 : Nat → List (S31) → Int → Int → Int → Bool → Option (Bool)
 | 0, _, _, _, _, _ => none
 | k + 1, x0, x3, x5, x6, x92 => if x92 = true then (some false) else (silversideref01_Simple.l2 k x0 x3 x5 x6 (wrap64 (x5 + 2)))
def silversideref01_Simple.l2 : Nat → List (S31) → Int → Int → Int → Int → Option (Bool)
 | 0, _, _, _, _, _ => none
 | k + 1, x0, x3, x5, x6, x8 => if x8 < x3 then ((silversideref01_next.f x8 x3).bind fun t278 => (if t278 = x5 then (silversideref01_Simple.l2 k x0 x3 x5 x6 (wrap64 (x8 + 1))) else (if 0 ≤ x5 then (if x5 < (x0.length : Int) then (if 0 ≤ x6 then (if x6 < (x0.length : Int) then (if 0 ≤ x8 then (if x8 < (x0.length : Int) then ((silversideref01_next.f x8 x3).bind fun t282 => (if 0 ≤ t282 then (if t282 < (x0.length : Int) then ((silversideref01_meet.f k ((rd_T31 x0 x5).f0) ((rd_T31 x0 x5).f1) ((rd_T31 x0 x6).f0) ((rd_T31 x0 x6).f1) ((rd_T31 x0 x8).f0) ((rd_T31 x0 x8).f1) ((rd_T31 x0 t282).f0) ((rd_T31 x0 t282).f1)).bind fun t284 => (if t284 = true then (some false) else (silversideref01_Simple.l2 k x0 x3 x5 x6 (wrap64 (x8 + 1))))) else (none)) else (none))) else (none)) else (none)) else (none)) else (none)) else (none)) else (none)))) else (silversideref01_Simple.l1 k x0 x3 (wrap64 (x5 + 1)))
end
def silversideref01_Simple.f (k : Nat) (l0 : List (S31)) : Option (Bool) := if (l0.length : Int) < 3 then (silversideref01_Simple.j0 k l0 (l0.length : Int) true) else (if (l0.length : Int) > 512 then (silversideref01_Simple.j0 k l0 (l0.length : Int) true) else ((silversideref01_Valids.f k l0).bind fun t260 => (silversideref01_Simple.j0 k l0 (l0.length : Int) (!t260))))
theorem silversideref01_Simple.mono_l : ∀ k, (∀ y0 y1 y2, LeO (silversideref01_Simple.j0 k y0 y1 y2) (silversideref01_Simple.j0 (k + 1) y0 y1 y2)) ∧ (∀ y0 y1 y2, LeO (silversideref01_Simple.l0 k y0 y1 y2) (silversideref01_Simple.l0 (k + 1) y0 y1 y2)) ∧ (∀ y0 y1 y2, LeO (silversideref01_Simple.l1 k y0 y1 y2) (silversideref01_Simple.l1 (k + 1) y0 y1 y2)) ∧ (∀ y0 y1 y2 y3 y4, LeO (silversideref01_Simple.j3 k y0 y1 y2 y3 y4) (silversideref01_Simple.j3 (k + 1) y0 y1 y2 y3 y4)) ∧ (∀ y0 y1 y2 y3 y4, LeO (silversideref01_Simple.l2 k y0 y1 y2 y3 y4) (silversideref01_Simple.l2 (k + 1) y0 y1 y2 y3 y4))
 | 0 => ⟨fun _ _ _ r h => by simp [silversideref01_Simple.j0] at h, fun _ _ _ r h => by simp [silversideref01_Simple.l0] at h, fun _ _ _ r h => by simp [silversideref01_Simple.l1] at h, fun _ _ _ _ _ r h => by simp [silversideref01_Simple.j3] at h, fun _ _ _ _ _ r h => by simp [silversideref01_Simple.l2] at h⟩
 | k + 1 => by
  obtain ⟨ih0, ih1, ih2, ih3, ih4⟩ := silversideref01_Simple.mono_l k
  refine ⟨?_, ?_, ?_, ?_, ?_⟩
  ·intro y0 y1 y2
   unfold silversideref01_Simple.j0
   repeat' first
   | (with_reducible exact ih0 _ _ _)
   | (with_reducible exact ih1 _ _ _)
   | (with_reducible exact ih2 _ _ _)
   | (with_reducible exact ih3 _ _ _ _ _)
   | (with_reducible exact ih4 _ _ _ _ _)
   | (with_reducible exact silversideref01_Valids.mono _ _)
   | (with_reducible exact silversideref01_meet.mono _ _ _ _ _ _ _ _ _)
   | (with_reducible exact LeO.refl _)
   | (with_reducible exact LeO.none _)
   | (with_reducible refine LeO.ite ?_ ?_)
   | (with_reducible refine LeO.bind ?_ (fun _ => ?_))
   | exact ih0 _ _ _
   | exact ih1 _ _ _
   | exact ih2 _ _ _
   | exact ih3 _ _ _ _ _
   | exact ih4 _ _ _ _ _
   | exact silversideref01_Valids.mono _ _
   | exact silversideref01_meet.mono _ _ _ _ _ _ _ _ _
   | exact LeO.none _
   | refine LeO.ite ?_ ?_
   | refine LeO.bind ?_ (fun _ => ?_)
  ·intro y0 y1 y2
   unfold silversideref01_Simple.l0
   repeat' first
   | (with_reducible exact ih0 _ _ _)
   | (with_reducible exact ih1 _ _ _)
   | (with_reducible exact ih2 _ _ _)
   | (with_reducible exact ih3 _ _ _ _ _)
   | (with_reducible exact ih4 _ _ _ _ _)
   | (with_reducible exact silversideref01_Valids.mono _ _)
   | (with_reducible exact silversideref01_meet.mono _ _ _ _ _ _ _ _ _)
   | (with_reducible exact LeO.refl _)
   | (with_reducible exact LeO.none _)
   | (with_reducible refine LeO.ite ?_ ?_)
   | (with_reducible refine LeO.bind ?_ (fun _ => ?_))
   | exact ih0 _ _ _
   | exact ih1 _ _ _
   | exact ih2 _ _ _
   | exact ih3 _ _ _ _ _
   | exact ih4 _ _ _ _ _
   | exact silversideref01_Valids.mono _ _
   | exact silversideref01_meet.mono _ _ _ _ _ _ _ _ _
   | exact LeO.none _
   | refine LeO.ite ?_ ?_
   | refine LeO.bind ?_ (fun _ => ?_)
  ·intro y0 y1 y2
   unfold silversideref01_Simple.l1
   repeat' first
   | (with_reducible exact ih0 _ _ _)
   | (with_reducible exact ih1 _ _ _)
   | (with_reducible exact ih2 _ _ _)
   | (with_reducible exact ih3 _ _ _ _ _)
   | (with_reducible exact ih4 _ _ _ _ _)
   | (with_reducible exact silversideref01_Valids.mono _ _)
   | (with_reducible exact silversideref01_meet.mono _ _ _ _ _ _ _ _ _)
   | (with_reducible exact LeO.refl _)
   | (with_reducible exact LeO.none _)
   | (with_reducible refine LeO.ite ?_ ?_)
   | (with_reducible refine LeO.bind ?_ (fun _ => ?_))
   | exact ih0 _ _ _
   | exact ih1 _ _ _
   | exact ih2 _ _ _
   | exact ih3 _ _ _ _ _
   | exact ih4 _ _ _ _ _
   | exact silversideref01_Valids.mono _ _
   | exact silversideref01_meet.mono _ _ _ _ _ _ _ _ _
   | exact LeO.none _
   | refine LeO.ite ?_ ?_
   | refine LeO.bind ?_ (fun _ => ?_)
  ·intro y0 y1 y2 y3 y4
   unfold silversideref01_Simple.j3
   repeat' first
   | (with_reducible exact ih0 _ _ _)
   | (with_reducible exact ih1 _ _ _)
   | (with_reducible exact ih2 _ _ _)
   | (with_reducible exact ih3 _ _ _ _ _)
   | (with_reducible exact ih4 _ _ _ _ _)
   | (with_reducible exact silversideref01_Valids.mono _ _)
   | (with_reducible exact silversideref01_meet.mono _ _ _ _ _ _ _ _ _)
   | (with_reducible exact LeO.refl _)
   | (with_reducible exact LeO.none _)
   | (with_reducible refine LeO.ite ?_ ?_)
   | (with_reducible refine LeO.bind ?_ (fun _ => ?_))
   | exact ih0 _ _ _
   | exact ih1 _ _ _
   | exact ih2 _ _ _
   | exact ih3 _ _ _ _ _
   | exact ih4 _ _ _ _ _
   | exact silversideref01_Valids.mono _ _
   | exact silversideref01_meet.mono _ _ _ _ _ _ _ _ _
   | exact LeO.none _
   | refine LeO.ite ?_ ?_
   | refine LeO.bind ?_ (fun _ => ?_)
  ·intro y0 y1 y2 y3 y4
   unfold silversideref01_Simple.l2
   repeat' first
   | (with_reducible exact ih0 _ _ _)
   | (with_reducible exact ih1 _ _ _)
   | (with_reducible exact ih2 _ _ _)
   | (with_reducible exact ih3 _ _ _ _ _)
   | (with_reducible exact ih4 _ _ _ _ _)
   | (with_reducible exact silversideref01_Valids.mono _ _)
   | (with_reducible exact silversideref01_meet.mono _ _ _ _ _ _ _ _ _)
   | (with_reducible exact LeO.refl _)
   | (with_reducible exact LeO.none _)
   | (with_reducible refine LeO.ite ?_ ?_)
   | (with_reducible refine LeO.bind ?_ (fun _ => ?_))
   | exact ih0 _ _ _
   | exact ih1 _ _ _
   | exact ih2 _ _ _
   | exact ih3 _ _ _ _ _
   | exact ih4 _ _ _ _ _
   | exact silversideref01_Valids.mono _ _
   | exact silversideref01_meet.mono _ _ _ _ _ _ _ _ _
   | exact LeO.none _
   | refine LeO.ite ?_ ?_
   | refine LeO.bind ?_ (fun _ => ?_)
theorem silversideref01_Simple.mono : ∀ a0 k, LeO (silversideref01_Simple.f k a0) (silversideref01_Simple.f (k + 1) a0) := by
 intro a0 k
 obtain ⟨ih0, ih1, ih2, ih3, ih4⟩ := silversideref01_Simple.mono_l k
 unfold silversideref01_Simple.f
 repeat' first
   | (with_reducible exact ih0 _ _ _)
   | (with_reducible exact ih1 _ _ _)
   | (with_reducible exact ih2 _ _ _)
   | (with_reducible exact ih3 _ _ _ _ _)
   | (with_reducible exact ih4 _ _ _ _ _)
   | (with_reducible exact silversideref01_Valids.mono _ _)
   | (with_reducible exact silversideref01_meet.mono _ _ _ _ _ _ _ _ _)
   | (with_reducible exact LeO.refl _)
   | (with_reducible exact LeO.none _)
   | (with_reducible refine LeO.ite ?_ ?_)
   | (with_reducible refine LeO.bind ?_ (fun _ => ?_))
   | exact ih0 _ _ _
   | exact ih1 _ _ _
   | exact ih2 _ _ _
   | exact ih3 _ _ _ _ _
   | exact ih4 _ _ _ _ _
   | exact silversideref01_Valids.mono _ _
   | exact silversideref01_meet.mono _ _ _ _ _ _ _ _ _
   | exact LeO.none _
   | refine LeO.ite ?_ ?_
   | refine LeO.bind ?_ (fun _ => ?_)
def silversideref01_Simple.T7 : Bool × List (List Nat × List Nat) := (true, [([], []), ([], []), ([0, 1], [0, 1]), ([2], [2]), ([], []), ([], []), ([], []), ([5, 6], [5, 6]), ([4, 7], [4, 7]), ([8], [8]), ([3, 9], [3, 9])])
def silversideref01_Simple.B7 : List Nat := [0, 0, 3, 7, 0, 0, 0, 96, 240, 496, 1023]
theorem silversideref01_Simple.tab7 : rtab .any (opsOf Try.f26 7) = silversideref01_Simple.T7 := by kernel_rfl
theorem silversideref01_Simple.bits7 : waitsOk silversideref01_Simple.T7.2 silversideref01_Simple.B7 = true := by kernel_rfl
def silversideref01_Simple.T14 : Bool × List (List Nat × List Nat) := (true, [([], []), ([], []), ([0, 1], [0, 1]), ([2], [2]), ([], []), ([], []), ([4, 5], [4, 5]), ([6], [6]), ([], []), ([], []), ([8, 9], [8, 9]), ([10], [10]), ([3, 7, 11], [3, 7, 11]), ([12], [12]), ([13, 12], [13]), ([14], [14]), ([14], [14]), ([15, 16, 14], [14, 15, 16]), ([17, 14], [14, 17]), ([14], [14]), ([14], [14]), ([19, 20, 14], [14, 19, 20]), ([21, 14], [14, 21]), ([14], [14]), ([14], [14]), ([23, 24, 14], [14, 23, 24]), ([25, 14], [14, 25]), ([18, 22, 26, 14, 14], [14, 18, 22, 26]), ([27, 27, 14], [14, 27]), ([28], [28]), ([28], [28]), ([29, 30, 28], [28, 29, 30]), ([31, 28], [28, 31]), ([28], [28]), ([28], [28]), ([33, 34, 28], [28, 33, 34]), ([35, 28], [28, 35]), ([28], [28]), ([28], [28]), ([37, 38, 28], [28, 37, 38]), ([39, 28], [28, 39]), ([32, 36, 40, 28, 28], [28, 32, 36, 40]), ([28, 41, 14], [14, 28, 41]), ([14, 42], [14, 42])])
def silversideref01_Simple.B14 : List Nat := [0, 0, 3, 7, 0, 0, 48, 112, 0, 0, 768, 1792, 4095, 8191, 16383, 32767, 32767, 131071, 262143, 32767, 32767, 1605631, 3702783, 32767, 32767, 25198591, 58753023, 134217727, 268435455, 536870911, 536870911, 2147483647, 4294967295, 536870911, 536870911, 26306674687, 60666413055, 536870911, 536870911, 412853731327, 962609545215, 2199023255551, 4398046511103, 8796093022207]
theorem silversideref01_Simple.tab14 : rtab .any (opsOf Try.f26 14) = silversideref01_Simple.T14 := by kernel_rfl
theorem silversideref01_Simple.bits14 : waitsOk silversideref01_Simple.T14.2 silversideref01_Simple.B14 = true := by kernel_rfl
def silversideref01_Simple.T19 : Bool × List (List Nat × List Nat) := (true, [([], []), ([], []), ([0, 1], [0, 1]), ([], []), ([2, 3], [2, 3]), ([4, 2], [4]), ([5], [5]), ([5], [5]), ([6, 7, 5], [5, 6, 7]), ([8, 5], [5, 8]), ([5], [5]), ([5], [5]), ([10, 11, 5], [5, 10, 11]), ([12, 5], [5, 12]), ([5], [5]), ([5], [5]), ([14, 15, 5], [5, 14, 15]), ([16, 5], [5, 16]), ([5], [5]), ([5], [5]), ([5], [5]), ([19, 20, 5, 5], [5, 19, 20]), ([18, 21, 5], [5, 18, 21]), ([22, 5], [5, 22]), ([9, 13, 17, 23, 21, 5], [5, 9, 13, 17, 23]), ([5, 24], [5, 24])])
def silversideref01_Simple.B19 : List Nat := [0, 0, 3, 0, 15, 31, 63, 63, 255, 511, 63, 63, 3135, 7231, 63, 63, 49215, 114751, 63, 63, 63, 1572927, 3932223, 8126527, 16777215, 33554431]
theorem silversideref01_Simple.tab19 : rtab .any (opsOf Try.f26 19) = silversideref01_Simple.T19 := by kernel_rfl
theorem silversideref01_Simple.bits19 : waitsOk silversideref01_Simple.T19.2 silversideref01_Simple.B19 = true := by kernel_rfl
set_option maxHeartbeats 8000000 in
set_option maxRecDepth 100000 in
theorem silversideref01_Simple.calls (k : Nat) (A0 : Option Addr) (c0 : Nat) (l0 : List (S31)) (r : Bool) (w : World) (hr0 : Kd.C k31 w A0 l0.length l0) (hc0 : l0.length ≤ c0) (h : silversideref01_Simple.f k l0 = some r) :
  Calls Try.prog 26 #[.slice A0 l0.length c0] w fun e w' => e = .returned (.bool r) ∧ Below w.heap.size w w' := by
 have hu31 := Try.underlying31
 have HR0 := Aside0.mk hr0
 have HC0 := Aside0.mk hc0
 clear hr0 hc0
 have HB := Aside0.mk (Below.refl w.heap.size w)
 have H : (if (l0.length : Int) < 3 then (silversideref01_Simple.j0 k l0 (l0.length : Int) true) else (if (l0.length : Int) > 512 then (silversideref01_Simple.j0 k l0 (l0.length : Int) true) else ((silversideref01_Valids.f k l0).bind fun t260 => (silversideref01_Simple.j0 k l0 (l0.length : Int) (!t260))))) = some r := h
 clear h
 have HC2 := Aside0.mk H
 clear H
 go_enter Try.func26, Try.ntmps26
 go_upto_region 2 with (fail)
 go_cut [21] (fun v21 wc => ∃ (kq : Nat) (x21_1 : Bool), v21 = .bool x21_1 ∧ Aside0 (silversideref01_Simple.j0 kq l0 (l0.length : Int) x21_1 = some r) ∧ Aside0 (kq ≤ k) ∧ Aside0 (Below w.heap.size w wc))
 case first =>
  have H := HC2.out
  clear HC2
  by_cases c3 : (l0.length : Int) < 3
  ·rw [if_pos c3] at H
   have c3b0 : decide ((l0.length : Int) < 3) = true := decide_eq_true c3
   have c3b1 : decide (l0.length < 3) = true := decide_eq_true (by omega)
   clear c3
   (first | rw [c3b0] | (simp only [i64_w, i32_w]; rw [c3b0]) | skip)
   have H' := Aside0.mk H
   clear H
   go_wp2
   go_meet
   case rel => exact ⟨_, (true), (by first | rfl | (simp; done) | (simp [*]; done)), H', ⟨by first | omega | exact Nat.le_refl _⟩, ⟨by repeat (first | (with_reducible first | exact HB.out | apply lA | apply lN | apply lD) | exact HB.out)⟩⟩
  rw [if_neg c3] at H
  have c3b0 : decide ((l0.length : Int) < 3) = false := decide_eq_false c3
  have c3b1 : decide (l0.length < 3) = false := decide_eq_false (by omega)
  clear c3
  (first | rw [c3b0] | (simp only [i64_w, i32_w]; rw [c3b0]) | skip)
  by_cases c4 : (l0.length : Int) > 512
  ·rw [if_pos c4] at H
   have c4b0 : decide (512 < (l0.length : Int)) = true := decide_eq_true c4
   have c4b1 : decide (512 < l0.length) = true := decide_eq_true (by omega)
   clear c4
   have H' := Aside0.mk H
   clear H
   go_wp2
   go_meet
   case rel => exact ⟨_, (true), (by first | rfl | (simp; done) | (simp [*]; done)), H', ⟨by first | omega | exact Nat.le_refl _⟩, ⟨by repeat (first | (with_reducible first | exact HB.out | apply lA | apply lN | apply lD) | exact HB.out)⟩⟩
  rw [if_neg c4] at H
  have c4b0 : decide (512 < (l0.length : Int)) = false := decide_eq_false c4
  have c4b1 : decide (512 < l0.length) = false := decide_eq_false (by omega)
  clear c4
  replace H := Option.bind_eq_some_iff.mp H
  obtain ⟨t260, A50, H⟩ := H
  replace H : (silversideref01_Simple.j0 k l0 (l0.length : Int) (!t260)) = some r := H
  have A5 := Aside0.mk A50
  clear A50
  have H' := Aside0.mk H
  clear H
  go_wp2_with (first | (go_at_call 22; (with_reducible refine (silversideref01_Valids.calls k _ _ l0 t260 _ ?side1 ?side2 A5.out).mono ?_); (case side1 => repeat (first | exact (Kd.C_below HR0.out HB.out) | (with_reducible refine Kd.C_alloc ?_ _) | (with_reducible refine Kd.C_drewN ?_ _) | (with_reducible refine Kd.C_drew ?_))); (case side2 => exact HC0.out); rintro e w6 ⟨rfl, hb⟩; have n0_ := Aside0.mk (below_step (by repeat (first | (with_reducible first | exact HB.out | apply lA | apply lN | apply lD) | exact HB.out)) hb); clear HB; have HB := n0_; clear n0_; (try clear hb); (try clear hb2); (try clear hk); (try clear hi)))
  go_meet
  case rel => exact ⟨_, (!t260), (by first | rfl | (simp; done) | (simp [*]; done)), H', ⟨by first | omega | exact Nat.le_refl _⟩, ⟨by repeat (first | (with_reducible first | exact HB.out | apply lA | apply lN | apply lD) | exact HB.out)⟩⟩
 case rest =>
  clear HC2
  try clear c2
  try clear p2
  try clear c3
  try clear c3b0
  try clear c3b1
  try clear c4
  try clear c4b0
  try clear c4b1
  obtain ⟨kq, x21_1, rfl, HA, HJ1, HB⟩ := hcut
  cases kq with
  | zero => exact absurd HA.out (by simp [silversideref01_Simple.j0])
  | succ kj1 =>
   have H := HA.out
   clear HA
   simp only [silversideref01_Simple.j0] at H
   by_cases c7 : x21_1 = true
   ·subst c7
    have H1 : (some false) = some r := by rw [if_pos rfl] at H; exact H
    clear H
    have H := H1
    clear H1
    obtain rfl := Option.some.inj H
    go_wp2
    go_ret
    exact ⟨by first | rfl | (simp [errW_none, errW_some] <;> rfl) | (simp [*, errW_none, errW_some] <;> rfl), by repeat (first | (with_reducible first | exact HB.out | apply lA | apply lN | apply lD) | exact HB.out)⟩
   ·replace c7 := Bool.eq_false_iff.mpr c7
    subst c7
    have H1 : (silversideref01_Simple.l0 kj1 l0 (l0.length : Int) 0) = some r := by rw [if_neg (show ¬ (false = true) by decide)] at H; exact H
    clear H
    have H := H1
    clear H1
    have H' := Aside0.mk H
    clear H
    go_wp2
    go_loopg [4] kj1 (fun kq v4 w' => ∃ (x4_2 : Int), v4 = .int .i64 x4_2 ∧ Aside0 (silversideref01_Simple.l0 kq l0 (l0.length : Int) x4_2 = some r) ∧ Aside0 (kq ≤ kj1) ∧ Aside0 (Below w.heap.size w w'))
    case atStart => exact ⟨(0), (by first | rfl | (simp; done) | (simp [*]; done)), H', ⟨Nat.le_refl _⟩, ⟨by repeat (first | (with_reducible first | exact HB.out | apply lA | apply lN | apply lD) | exact HB.out)⟩⟩
    case round =>
     clear H'
     try clear c2
     try clear p2
     try clear c3
     try clear c3b0
     try clear c3b1
     try clear c4
     try clear c4b0
     try clear c4b1
     try clear c7
     try clear p2
     obtain ⟨x4_2, rfl, HA, HK2, HB⟩ := hrel
     cases gk with
     | zero => exact absurd HA.out (by simp [silversideref01_Simple.l0])
     | succ k2 =>
      have H := HA.out
      clear HA
      simp only [silversideref01_Simple.l0] at H
      by_cases c8 : x4_2 < (l0.length : Int)
      ·rw [if_pos c8] at H
       have c8b0 : decide (x4_2 < (l0.length : Int)) = true := decide_eq_true c8
       clear c8
       by_cases c9 : 0 ≤ x4_2
       ·rw [if_pos c9] at H
        have c9b0 : decide (0 ≤ x4_2) = true := decide_eq_true c9
        clear c9
        by_cases c10 : x4_2 < (l0.length : Int)
        ·rw [if_pos c10] at H
         have c10b0 : decide (x4_2 < (l0.length : Int)) = true := decide_eq_true c10
         clear c10
         replace H := Option.bind_eq_some_iff.mp H
         obtain ⟨t262, A110, H⟩ := H
         replace H : (if 0 ≤ t262 then (if t262 < (l0.length : Int) then (if (((rd_T31 l0 x4_2).f0) == ((rd_T31 l0 t262).f0) && (((rd_T31 l0 x4_2).f1) == ((rd_T31 l0 t262).f1))) = true then (some false) else (silversideref01_Simple.l0 k2 l0 (l0.length : Int) (wrap64 (x4_2 + 1)))) else (none)) else (none)) = some r := H
         have A11 := Aside0.mk A110
         clear A110
         by_cases c12 : 0 ≤ t262
         ·rw [if_pos c12] at H
          have c12b0 : decide (0 ≤ t262) = true := decide_eq_true c12
          clear c12
          by_cases c13 : t262 < (l0.length : Int)
          ·rw [if_pos c13] at H
           have c13b0 : decide (t262 < (l0.length : Int)) = true := decide_eq_true c13
           clear c13
           by_cases c14 : (((rd_T31 l0 x4_2).f0) == ((rd_T31 l0 t262).f0) && (((rd_T31 l0 x4_2).f1) == ((rd_T31 l0 t262).f1))) = true
           ·rw [if_pos c14] at H
            have c14b0 : (((rd_T31 l0 x4_2).f0) == ((rd_T31 l0 t262).f0) && (((rd_T31 l0 x4_2).f1) == ((rd_T31 l0 t262).f1))) = true := c14
            (try (have c14b1 : decide (((rd_T31 l0 x4_2).f0) = ((rd_T31 l0 t262).f0) && (((rd_T31 l0 x4_2).f1) == ((rd_T31 l0 t262).f1))) = true := by simpa using c14))
            (try (have c14b2 : (((rd_T31 l0 x4_2).f0) == ((rd_T31 l0 t262).f0) && (((rd_T31 l0 x4_2).f1) == ((rd_T31 l0 t262).f1))) = true := by simpa using c14))
            clear c14
            obtain rfl := Option.some.inj H
            try go_wp2
            have n0_ := Aside0.mk (lD HB.out)
            clear HB
            have HB := n0_
            clear n0_
            have p261 : 0 ≤ (x4_2 : Int) := of_decide_eq_true (by first | (with_reducible assumption) | assumption)
            have q261 : x4_2 < (l0.length : Int) := of_decide_eq_true (by first | (with_reducible assumption) | assumption)
            obtain ⟨ad261, e261, hx261_0, hx261_1⟩ := at_T31 HR0.out x4_2 p261 q261
            have hw261_1 := hx261_1
            have hw261_0 := hx261_0
            cases e261
            replace hx261_0 := cB HB.out hx261_0
            replace hx261_1 := cB HB.out hx261_1
            replace p261 := eq_true p261
            replace q261 := eq_true q261
            have p263 : 0 ≤ (t262 : Int) := of_decide_eq_true (by first | (with_reducible assumption) | assumption)
            have q263 : t262 < (l0.length : Int) := of_decide_eq_true (by first | (with_reducible assumption) | assumption)
            obtain ⟨ad263, e263, hx263_0, hx263_1⟩ := at_T31 HR0.out t262 p263 q263
            have hw263_1 := hx263_1
            have hw263_0 := hx263_0
            obtain rfl : ad261 = ad263 := (by injection e263)
            replace hx263_0 := cB HB.out hx263_0
            replace hx263_1 := cB HB.out hx263_1
            replace p263 := eq_true p263
            replace q263 := eq_true q263
            refine start_ (n := 11) (S := fun w' => w'.cell? (ad261.add ((x4_2).toNat * 2)) = some (.int .i64 ((rd_T31 l0 x4_2).f0)) ∧ w'.cell? ⟨(ad261.add ((x4_2).toNat * 2)).block, (ad261.add ((x4_2).toNat * 2)).off + 1, none⟩ = some (.int .i64 ((rd_T31 l0 x4_2).f1)) ∧ w'.cell? (ad261.add ((t262).toNat * 2)) = some (.int .i64 ((rd_T31 l0 t262).f0)) ∧ w'.cell? ⟨(ad261.add ((t262).toNat * 2)).block, (ad261.add ((t262).toNat * 2)).off + 1, none⟩ = some (.int .i64 ((rd_T31 l0 t262).f1))) (ds := []) (Bs 0 11) (by kernel_rfl) rfl rfl ⟨(cB HB.out hw261_0), (cB HB.out hw261_1), (cB HB.out hw263_0), (cB HB.out hw263_1)⟩ (fun hHeld => ?_); refine with_tabW silversideref01_Simple.tab7 silversideref01_Simple.bits7 (fun HT_ HW_ => ?_)
            generalize wr.drew = w15 at HB hx261_0 hx261_1 hx263_0 hx263_1 hHeld ⊢
            refine pure_ (i := 0) (N := some 27) (v := ?_) (a' := ?_) (Bs 1 11) rfl rfl (any_of HT_.out (by kernel_rfl)) (fun _ _ _ h => h) (Or.inl ⟨by rfl, ?_⟩) ?_ ?_; rotate_left
            ·intro w'; go_simp; with_reducible rfl
            rotate_left
            ·simp only [Act.put, sA, sB, sC, i64_w, i32_w]; rfl
            refine pure_ (i := 1) (N := some 28) (v := ?_) (a' := ?_) (Bs 2 11) rfl rfl (any_of HT_.out (by kernel_rfl)) (fun _ _ _ h => h) (Or.inl ⟨by rfl, ?_⟩) ?_ ?_; rotate_left
            ·intro w'; go_simp; with_reducible rfl
            rotate_left
            ·simp only [Act.put, sA, sB, sC, i64_w, i32_w]; rfl
            refine pure_ (i := 2) (N := some 29) (v := ?_) (a' := ?_) (Bs 3 11) rfl rfl (any_of HT_.out (by kernel_rfl)) (fun _ _ _ h => h) (Or.inl ⟨by rfl, ?_⟩) ?_ ?_; rotate_left
            ·intro w'; go_simp; with_reducible rfl
            rotate_left
            ·simp only [Act.put, sA, sB, sC, i64_w, i32_w]; rfl
            refine pure_ (i := 4) (N := some 31) (v := ?_) (a' := ?_) (Br [3,1,1,6]) rfl rfl (any_of HT_.out (by kernel_rfl)) (fun _ _ _ h => h) (Or.inl ⟨by rfl, ?_⟩) ?_ ?_; rotate_left
            ·intro w'; go_simp; with_reducible rfl
            rotate_left
            ·simp only [Act.put, sA, sB, sC, i64_w, i32_w]; rfl
            refine pure_ (i := 5) (N := some 32) (v := ?_) (a' := ?_) (Br [3,1,2,5]) rfl rfl (any_of HT_.out (by kernel_rfl)) (fun _ _ _ h => h) (Or.inl ⟨by rfl, ?_⟩) ?_ ?_; rotate_left
            ·intro w'; go_simp; with_reducible rfl
            rotate_left
            ·simp only [Act.put, sA, sB, sC, i64_w, i32_w]; rfl
            refine pure_ (i := 6) (N := some 33) (v := ?_) (a' := ?_) (Br [3,1,3,4]) rfl rfl (any_of HT_.out (by kernel_rfl)) (fun _ _ _ h => h) (Or.inl ⟨by rfl, ?_⟩) ?_ ?_; rotate_left
            ·intro w'; go_simp; with_reducible rfl
            rotate_left
            ·simp only [Act.put, sA, sB, sC, i64_w, i32_w]; rfl
            refine take_ (i := 3) (N := some 30) (v := ?_) (a' := ?_) (Bs 7 11) rfl rfl (take_ofW HT_.out HW_.out (by kernel_rfl)) (fun _ _ _ h => h) (Or.inl ⟨by rfl, ?_⟩) hHeld ?_ ?_; rotate_left
            ·rintro w' ⟨s0, s1, s2, s3⟩; go_simp; with_reducible rfl
            rotate_left
            ·simp only [Act.put, sA, sB, sC, i64_w, i32_w]; rfl
            refine one_ (i := 7) (N := some 34) (Bs 8 11) rfl rfl (one_of HT_.out (by kernel_rfl)) (by decide) (fun K hK => ?_)
            refine goes_ Try.func54 (by kernel_rfl) rfl #[.int .i64 x4_2, .int .i64 (l0.length : Int)] (by rfl) rfl rfl (by (try simp only [List.map_toArray, List.map_cons, List.map_nil]); first | done | rfl | (simp only [List.length_drop, List.length_take]; rfl)) ?_
            with_reducible refine (silversideref01_next.calls x4_2 (l0.length : Int) t262 _ A11.out).mono ?_
            rintro e w' ⟨rfl, ⟨nd, rfl⟩⟩
            refine ⟨_, rfl, ?_⟩
            refine hK.out _ _ ⟨(cB HB.out hw261_0), (cB HB.out hw261_1), (cB HB.out hw263_0), (cB HB.out hw263_1)⟩ (fun hHeld => ?_)
            clear hK K
            refine norm_ (a' := ?_) ?_ ?_
            rotate_left
            ·show Act.put _ (some 34) _ = _
             simp only [Act.put, sA, sB, sC, i64_w, i32_w]
             rfl
            refine pure_ (i := 8) (N := some 35) (v := ?_) (a' := ?_) (Bs 9 11) rfl rfl (any_of HT_.out (by kernel_rfl)) (fun _ _ _ h => h) (Or.inl ⟨by rfl, ?_⟩) ?_ ?_; rotate_left
            ·intro w'; go_simp; with_reducible rfl
            rotate_left
            ·simp only [Act.put, sA, sB, sC, i64_w, i32_w]; rfl
            refine take_ (i := 9) (N := some 36) (v := ?_) (a' := ?_) (Bs 10 11) rfl rfl (take_ofW HT_.out HW_.out (by kernel_rfl)) (fun _ _ _ h => h) (Or.inl ⟨by rfl, ?_⟩) hHeld ?_ ?_; rotate_left
            ·rintro w' ⟨s0, s1, s2, s3⟩; go_simp; with_reducible rfl
            rotate_left
            ·simp only [Act.put, sA, sB, sC, i64_w, i32_w]; rfl
            refine pure_ (i := 10) (N := some 37) (v := ?_) (a' := ?_) (Bs 11 11) rfl rfl (any_of HT_.out (by kernel_rfl)) (fun _ _ _ h => h) (Or.inl ⟨by rfl, ?_⟩) ?_ ?_; rotate_left
            ·intro w'; go_simp; with_reducible rfl
            rotate_left
            ·simp only [Act.put, sA, sB, sC, i64_w, i32_w]; rfl
            refine done_ (done_of HT_.out (by kernel_rfl)) ?_
            try go_wp2
            go_ret
            exact ⟨by first | rfl | (simp [errW_none, errW_some] <;> rfl) | (simp [*, errW_none, errW_some] <;> rfl), by repeat (first | (with_reducible first | exact HB.out | apply lA | apply lN | apply lD) | exact HB.out)⟩
           ·rw [if_neg c14] at H
            have c14b0 : (((rd_T31 l0 x4_2).f0) == ((rd_T31 l0 t262).f0) && (((rd_T31 l0 x4_2).f1) == ((rd_T31 l0 t262).f1))) = false := by simpa using c14
            (try (have c14b1 : decide (((rd_T31 l0 x4_2).f0) = ((rd_T31 l0 t262).f0) && (((rd_T31 l0 x4_2).f1) == ((rd_T31 l0 t262).f1))) = false := by simpa using c14))
            (try (have c14b2 : (((rd_T31 l0 x4_2).f0) == ((rd_T31 l0 t262).f0) && (((rd_T31 l0 x4_2).f1) == ((rd_T31 l0 t262).f1))) = false := by simpa using c14))
            (try (have c14b3 : ¬ (((rd_T31 l0 x4_2).f0) = ((rd_T31 l0 t262).f0) && (((rd_T31 l0 x4_2).f1) == ((rd_T31 l0 t262).f1))) := by simpa using c14))
            clear c14
            have H' := Aside0.mk H
            clear H
            try go_wp2
            have n0_ := Aside0.mk (lD HB.out)
            clear HB
            have HB := n0_
            clear n0_
            have p261 : 0 ≤ (x4_2 : Int) := of_decide_eq_true (by first | (with_reducible assumption) | assumption)
            have q261 : x4_2 < (l0.length : Int) := of_decide_eq_true (by first | (with_reducible assumption) | assumption)
            obtain ⟨ad261, e261, hx261_0, hx261_1⟩ := at_T31 HR0.out x4_2 p261 q261
            have hw261_1 := hx261_1
            have hw261_0 := hx261_0
            cases e261
            replace hx261_0 := cB HB.out hx261_0
            replace hx261_1 := cB HB.out hx261_1
            replace p261 := eq_true p261
            replace q261 := eq_true q261
            have p263 : 0 ≤ (t262 : Int) := of_decide_eq_true (by first | (with_reducible assumption) | assumption)
            have q263 : t262 < (l0.length : Int) := of_decide_eq_true (by first | (with_reducible assumption) | assumption)
            obtain ⟨ad263, e263, hx263_0, hx263_1⟩ := at_T31 HR0.out t262 p263 q263
            have hw263_1 := hx263_1
            have hw263_0 := hx263_0
            obtain rfl : ad261 = ad263 := (by injection e263)
            replace hx263_0 := cB HB.out hx263_0
            replace hx263_1 := cB HB.out hx263_1
            replace p263 := eq_true p263
            replace q263 := eq_true q263
            refine start_ (n := 11) (S := fun w' => w'.cell? (ad261.add ((x4_2).toNat * 2)) = some (.int .i64 ((rd_T31 l0 x4_2).f0)) ∧ w'.cell? ⟨(ad261.add ((x4_2).toNat * 2)).block, (ad261.add ((x4_2).toNat * 2)).off + 1, none⟩ = some (.int .i64 ((rd_T31 l0 x4_2).f1)) ∧ w'.cell? (ad261.add ((t262).toNat * 2)) = some (.int .i64 ((rd_T31 l0 t262).f0)) ∧ w'.cell? ⟨(ad261.add ((t262).toNat * 2)).block, (ad261.add ((t262).toNat * 2)).off + 1, none⟩ = some (.int .i64 ((rd_T31 l0 t262).f1))) (ds := []) (Bs 0 11) (by kernel_rfl) rfl rfl ⟨(cB HB.out hw261_0), (cB HB.out hw261_1), (cB HB.out hw263_0), (cB HB.out hw263_1)⟩ (fun hHeld => ?_); refine with_tabW silversideref01_Simple.tab7 silversideref01_Simple.bits7 (fun HT_ HW_ => ?_)
            generalize wr.drew = w16 at HB hx261_0 hx261_1 hx263_0 hx263_1 hHeld ⊢
            refine pure_ (i := 0) (N := some 27) (v := ?_) (a' := ?_) (Bs 1 11) rfl rfl (any_of HT_.out (by kernel_rfl)) (fun _ _ _ h => h) (Or.inl ⟨by rfl, ?_⟩) ?_ ?_; rotate_left
            ·intro w'; go_simp; with_reducible rfl
            rotate_left
            ·simp only [Act.put, sA, sB, sC, i64_w, i32_w]; rfl
            refine pure_ (i := 1) (N := some 28) (v := ?_) (a' := ?_) (Bs 2 11) rfl rfl (any_of HT_.out (by kernel_rfl)) (fun _ _ _ h => h) (Or.inl ⟨by rfl, ?_⟩) ?_ ?_; rotate_left
            ·intro w'; go_simp; with_reducible rfl
            rotate_left
            ·simp only [Act.put, sA, sB, sC, i64_w, i32_w]; rfl
            refine pure_ (i := 2) (N := some 29) (v := ?_) (a' := ?_) (Bs 3 11) rfl rfl (any_of HT_.out (by kernel_rfl)) (fun _ _ _ h => h) (Or.inl ⟨by rfl, ?_⟩) ?_ ?_; rotate_left
            ·intro w'; go_simp; with_reducible rfl
            rotate_left
            ·simp only [Act.put, sA, sB, sC, i64_w, i32_w]; rfl
            refine pure_ (i := 4) (N := some 31) (v := ?_) (a' := ?_) (Br [3,1,1,6]) rfl rfl (any_of HT_.out (by kernel_rfl)) (fun _ _ _ h => h) (Or.inl ⟨by rfl, ?_⟩) ?_ ?_; rotate_left
            ·intro w'; go_simp; with_reducible rfl
            rotate_left
            ·simp only [Act.put, sA, sB, sC, i64_w, i32_w]; rfl
            refine pure_ (i := 5) (N := some 32) (v := ?_) (a' := ?_) (Br [3,1,2,5]) rfl rfl (any_of HT_.out (by kernel_rfl)) (fun _ _ _ h => h) (Or.inl ⟨by rfl, ?_⟩) ?_ ?_; rotate_left
            ·intro w'; go_simp; with_reducible rfl
            rotate_left
            ·simp only [Act.put, sA, sB, sC, i64_w, i32_w]; rfl
            refine pure_ (i := 6) (N := some 33) (v := ?_) (a' := ?_) (Br [3,1,3,4]) rfl rfl (any_of HT_.out (by kernel_rfl)) (fun _ _ _ h => h) (Or.inl ⟨by rfl, ?_⟩) ?_ ?_; rotate_left
            ·intro w'; go_simp; with_reducible rfl
            rotate_left
            ·simp only [Act.put, sA, sB, sC, i64_w, i32_w]; rfl
            refine take_ (i := 3) (N := some 30) (v := ?_) (a' := ?_) (Bs 7 11) rfl rfl (take_ofW HT_.out HW_.out (by kernel_rfl)) (fun _ _ _ h => h) (Or.inl ⟨by rfl, ?_⟩) hHeld ?_ ?_; rotate_left
            ·rintro w' ⟨s0, s1, s2, s3⟩; go_simp; with_reducible rfl
            rotate_left
            ·simp only [Act.put, sA, sB, sC, i64_w, i32_w]; rfl
            refine one_ (i := 7) (N := some 34) (Bs 8 11) rfl rfl (one_of HT_.out (by kernel_rfl)) (by decide) (fun K hK => ?_)
            refine goes_ Try.func54 (by kernel_rfl) rfl #[.int .i64 x4_2, .int .i64 (l0.length : Int)] (by rfl) rfl rfl (by (try simp only [List.map_toArray, List.map_cons, List.map_nil]); first | done | rfl | (simp only [List.length_drop, List.length_take]; rfl)) ?_
            with_reducible refine (silversideref01_next.calls x4_2 (l0.length : Int) t262 _ A11.out).mono ?_
            rintro e w' ⟨rfl, ⟨nd, rfl⟩⟩
            refine ⟨_, rfl, ?_⟩
            refine hK.out _ _ ⟨(cB HB.out hw261_0), (cB HB.out hw261_1), (cB HB.out hw263_0), (cB HB.out hw263_1)⟩ (fun hHeld => ?_)
            clear hK K
            refine norm_ (a' := ?_) ?_ ?_
            rotate_left
            ·show Act.put _ (some 34) _ = _
             simp only [Act.put, sA, sB, sC, i64_w, i32_w]
             rfl
            refine pure_ (i := 8) (N := some 35) (v := ?_) (a' := ?_) (Bs 9 11) rfl rfl (any_of HT_.out (by kernel_rfl)) (fun _ _ _ h => h) (Or.inl ⟨by rfl, ?_⟩) ?_ ?_; rotate_left
            ·intro w'; go_simp; with_reducible rfl
            rotate_left
            ·simp only [Act.put, sA, sB, sC, i64_w, i32_w]; rfl
            refine take_ (i := 9) (N := some 36) (v := ?_) (a' := ?_) (Bs 10 11) rfl rfl (take_ofW HT_.out HW_.out (by kernel_rfl)) (fun _ _ _ h => h) (Or.inl ⟨by rfl, ?_⟩) hHeld ?_ ?_; rotate_left
            ·rintro w' ⟨s0, s1, s2, s3⟩; go_simp; with_reducible rfl
            rotate_left
            ·simp only [Act.put, sA, sB, sC, i64_w, i32_w]; rfl
            refine pure_ (i := 10) (N := some 37) (v := ?_) (a' := ?_) (Bs 11 11) rfl rfl (any_of HT_.out (by kernel_rfl)) (fun _ _ _ h => h) (Or.inl ⟨by rfl, ?_⟩) ?_ ?_; rotate_left
            ·intro w'; go_simp; with_reducible rfl
            rotate_left
            ·simp only [Act.put, sA, sB, sC, i64_w, i32_w]; rfl
            refine done_ (done_of HT_.out (by kernel_rfl)) ?_
            try go_wp2
            go_roundg k2
            case measure => have := HJ1.out; have := HK2.out; omega
            case rel => exact ⟨(wrap64 (x4_2 + 1)), (by first | rfl | (simp; done) | (simp [*]; done)), H', ⟨by have := HJ1.out; have := HK2.out; omega⟩, ⟨by repeat (first | (with_reducible first | exact HB.out | apply lA | apply lN | apply lD) | exact HB.out)⟩⟩
          ·rw [if_neg c13] at H
           exact absurd H (by simp)
         ·rw [if_neg c12] at H
          exact absurd H (by simp)
        ·rw [if_neg c10] at H
         exact absurd H (by simp)
       ·rw [if_neg c9] at H
        exact absurd H (by simp)
      ·rw [if_neg c8] at H
       have c8b0 : decide (x4_2 < (l0.length : Int)) = false := decide_eq_false c8
       clear c8
       have H' := Aside0.mk H
       clear H
       go_wp2
       go_loopg [5] k2 (fun kq v5 w' => ∃ (x5_3 : Int), v5 = .int .i64 x5_3 ∧ Aside0 (silversideref01_Simple.l1 kq l0 (l0.length : Int) x5_3 = some r) ∧ Aside0 (kq ≤ k2) ∧ Aside0 (Below w.heap.size w w'))
       case atStart => exact ⟨(0), (by first | rfl | (simp; done) | (simp [*]; done)), H', ⟨Nat.le_refl _⟩, ⟨by repeat (first | (with_reducible first | exact HB.out | apply lA | apply lN | apply lD) | exact HB.out)⟩⟩
       case round =>
        clear H'
        try clear c1
        try clear c2
        try clear p2
        try clear q2
        try clear hx2
        try clear c3
        try clear c3b0
        try clear c3b1
        try clear c4
        try clear c4b0
        try clear c4b1
        try clear c5
        try clear p6
        try clear c7
        try clear c8
        try clear c8b0
        try clear c9
        try clear c9b0
        try clear c10
        try clear c10b0
        try clear c12
        try clear c12b0
        try clear c13
        try clear c13b0
        try clear c14
        try clear c14b0
        try clear c14b1
        try clear c14b2
        try clear hx261_0
        try clear hx261_1
        try clear hx263_0
        try clear hx263_1
        try clear p2
        try clear p261
        try clear p263
        try clear q261
        try clear q263
        obtain ⟨x5_3, rfl, HA, HK3, HB⟩ := hrel
        cases gk with
        | zero => exact absurd HA.out (by simp [silversideref01_Simple.l1])
        | succ k3 =>
         have H := HA.out
         clear HA
         simp only [silversideref01_Simple.l1] at H
         by_cases c17 : x5_3 < (l0.length : Int)
         ·rw [if_pos c17] at H
          have c17b0 : decide (x5_3 < (l0.length : Int)) = true := decide_eq_true c17
          clear c17
          replace H := Option.bind_eq_some_iff.mp H
          obtain ⟨t264, A180, H⟩ := H
          replace H : ((silversideref01_next.f t264 (l0.length : Int)).bind fun t265 => (if 0 ≤ x5_3 then (if x5_3 < (l0.length : Int) then (if 0 ≤ t264 then (if t264 < (l0.length : Int) then (if 0 ≤ t265 then (if t265 < (l0.length : Int) then ((silversideref01_Turn.f ((rd_T31 l0 x5_3).f0) ((rd_T31 l0 x5_3).f1) ((rd_T31 l0 t264).f0) ((rd_T31 l0 t264).f1) ((rd_T31 l0 t265).f0) ((rd_T31 l0 t265).f1)).bind fun t269 => (if t269 = 0 then ((silversideref01_on.f ((rd_T31 l0 x5_3).f0) ((rd_T31 l0 x5_3).f1) ((rd_T31 l0 t264).f0) ((rd_T31 l0 t264).f1) ((rd_T31 l0 t265).f0) ((rd_T31 l0 t265).f1)).bind fun t273 => (if t273 = true then (silversideref01_Simple.j3 k3 l0 (l0.length : Int) x5_3 t264 true) else ((silversideref01_on.f ((rd_T31 l0 t264).f0) ((rd_T31 l0 t264).f1) ((rd_T31 l0 t265).f0) ((rd_T31 l0 t265).f1) ((rd_T31 l0 x5_3).f0) ((rd_T31 l0 x5_3).f1)).bind fun t277 => (silversideref01_Simple.j3 k3 l0 (l0.length : Int) x5_3 t264 t277)))) else (silversideref01_Simple.j3 k3 l0 (l0.length : Int) x5_3 t264 false))) else (none)) else (none)) else (none)) else (none)) else (none)) else (none))) = some r := H
          have A18 := Aside0.mk A180
          clear A180
          replace H := Option.bind_eq_some_iff.mp H
          obtain ⟨t265, A190, H⟩ := H
          replace H : (if 0 ≤ x5_3 then (if x5_3 < (l0.length : Int) then (if 0 ≤ t264 then (if t264 < (l0.length : Int) then (if 0 ≤ t265 then (if t265 < (l0.length : Int) then ((silversideref01_Turn.f ((rd_T31 l0 x5_3).f0) ((rd_T31 l0 x5_3).f1) ((rd_T31 l0 t264).f0) ((rd_T31 l0 t264).f1) ((rd_T31 l0 t265).f0) ((rd_T31 l0 t265).f1)).bind fun t269 => (if t269 = 0 then ((silversideref01_on.f ((rd_T31 l0 x5_3).f0) ((rd_T31 l0 x5_3).f1) ((rd_T31 l0 t264).f0) ((rd_T31 l0 t264).f1) ((rd_T31 l0 t265).f0) ((rd_T31 l0 t265).f1)).bind fun t273 => (if t273 = true then (silversideref01_Simple.j3 k3 l0 (l0.length : Int) x5_3 t264 true) else ((silversideref01_on.f ((rd_T31 l0 t264).f0) ((rd_T31 l0 t264).f1) ((rd_T31 l0 t265).f0) ((rd_T31 l0 t265).f1) ((rd_T31 l0 x5_3).f0) ((rd_T31 l0 x5_3).f1)).bind fun t277 => (silversideref01_Simple.j3 k3 l0 (l0.length : Int) x5_3 t264 t277)))) else (silversideref01_Simple.j3 k3 l0 (l0.length : Int) x5_3 t264 false))) else (none)) else (none)) else (none)) else (none)) else (none)) else (none)) = some r := H
          have A19 := Aside0.mk A190
          clear A190
          have HC20 := Aside0.mk H
          clear H
          go_upto_region 14 with (first | ((with_reducible refine gate_callee (f := 54) rfl ?_); refine goesL_ (some 45) rfl rfl Try.func54 (by kernel_rfl) rfl #[.int .i64 x5_3, .int .i64 (l0.length : Int)] rfl (by (try simp only [List.map_toArray, List.map_cons, List.map_nil]); first | done | rfl | (simp only [List.length_drop, List.length_take]; rfl)) ?_; (with_reducible refine (silversideref01_next.calls x5_3 (l0.length : Int) t264 _ A18.out).mono ?_); rintro e w' ⟨rfl, ⟨ndA, rfl⟩⟩; refine ⟨_, rfl, ?_⟩) | ((with_reducible refine gate_callee (f := 54) rfl ?_); refine goesL_ (some 48) rfl rfl Try.func54 (by kernel_rfl) rfl #[.int .i64 t264, .int .i64 (l0.length : Int)] rfl (by (try simp only [List.map_toArray, List.map_cons, List.map_nil]); first | done | rfl | (simp only [List.length_drop, List.length_take]; rfl)) ?_; (with_reducible refine (silversideref01_next.calls t264 (l0.length : Int) t265 _ A19.out).mono ?_); rintro e w' ⟨rfl, ⟨ndB, rfl⟩⟩; refine ⟨_, rfl, ?_⟩))
          (try simp only [Act.put, sA, sB, sC])
          go_cut [92] (fun v92 wc => ∃ (kq : Nat) (x92_19 : Bool), v92 = .bool x92_19 ∧ Aside0 (silversideref01_Simple.j3 kq l0 (l0.length : Int) x5_3 t264 x92_19 = some r) ∧ Aside0 (kq ≤ k3) ∧ Aside0 (Below w.heap.size w wc))
          case first =>
           have H := HC20.out
           clear HC20
           by_cases c21 : 0 ≤ x5_3
           ·rw [if_pos c21] at H
            have c21b0 : decide (0 ≤ x5_3) = true := decide_eq_true c21
            clear c21
            (first | rw [c21b0] | (simp only [i64_w, i32_w]; rw [c21b0]) | skip)
            by_cases c22 : x5_3 < (l0.length : Int)
            ·rw [if_pos c22] at H
             have c22b0 : decide (x5_3 < (l0.length : Int)) = true := decide_eq_true c22
             clear c22
             by_cases c23 : 0 ≤ t264
             ·rw [if_pos c23] at H
              have c23b0 : decide (0 ≤ t264) = true := decide_eq_true c23
              clear c23
              by_cases c24 : t264 < (l0.length : Int)
              ·rw [if_pos c24] at H
               have c24b0 : decide (t264 < (l0.length : Int)) = true := decide_eq_true c24
               clear c24
               by_cases c25 : 0 ≤ t265
               ·rw [if_pos c25] at H
                have c25b0 : decide (0 ≤ t265) = true := decide_eq_true c25
                clear c25
                by_cases c26 : t265 < (l0.length : Int)
                ·rw [if_pos c26] at H
                 have c26b0 : decide (t265 < (l0.length : Int)) = true := decide_eq_true c26
                 clear c26
                 replace H := Option.bind_eq_some_iff.mp H
                 obtain ⟨t269, A270, H⟩ := H
                 replace H : (if t269 = 0 then ((silversideref01_on.f ((rd_T31 l0 x5_3).f0) ((rd_T31 l0 x5_3).f1) ((rd_T31 l0 t264).f0) ((rd_T31 l0 t264).f1) ((rd_T31 l0 t265).f0) ((rd_T31 l0 t265).f1)).bind fun t273 => (if t273 = true then (silversideref01_Simple.j3 k3 l0 (l0.length : Int) x5_3 t264 true) else ((silversideref01_on.f ((rd_T31 l0 t264).f0) ((rd_T31 l0 t264).f1) ((rd_T31 l0 t265).f0) ((rd_T31 l0 t265).f1) ((rd_T31 l0 x5_3).f0) ((rd_T31 l0 x5_3).f1)).bind fun t277 => (silversideref01_Simple.j3 k3 l0 (l0.length : Int) x5_3 t264 t277)))) else (silversideref01_Simple.j3 k3 l0 (l0.length : Int) x5_3 t264 false)) = some r := H
                 have A27 := Aside0.mk A270
                 clear A270
                 by_cases c28 : t269 = 0
                 ·rw [if_pos c28] at H
                  have c28b0 : (t269 == 0) = true := beq_iff_eq.mpr c28
                  have c28b1 : (t269 != 0) = false := bne_eq_false_iff_eq.mpr c28
                  clear c28
                  replace H := Option.bind_eq_some_iff.mp H
                  obtain ⟨t273, A290, H⟩ := H
                  replace H : (if t273 = true then (silversideref01_Simple.j3 k3 l0 (l0.length : Int) x5_3 t264 true) else ((silversideref01_on.f ((rd_T31 l0 t264).f0) ((rd_T31 l0 t264).f1) ((rd_T31 l0 t265).f0) ((rd_T31 l0 t265).f1) ((rd_T31 l0 x5_3).f0) ((rd_T31 l0 x5_3).f1)).bind fun t277 => (silversideref01_Simple.j3 k3 l0 (l0.length : Int) x5_3 t264 t277))) = some r := H
                  have A29 := Aside0.mk A290
                  clear A290
                  by_cases c30 : t273 = true
                  ·subst c30
                   have H1 : (silversideref01_Simple.j3 k3 l0 (l0.length : Int) x5_3 t264 true) = some r := by rw [if_pos rfl] at H; exact H
                   clear H
                   have H := H1
                   clear H1
                   have H' := Aside0.mk H
                   clear H
                   try go_wp2
                   have n0_ := Aside0.mk (lD HB.out)
                   clear HB
                   have HB := n0_
                   clear n0_
                   have p266 : 0 ≤ (x5_3 : Int) := of_decide_eq_true (by first | (with_reducible assumption) | assumption)
                   have q266 : x5_3 < (l0.length : Int) := of_decide_eq_true (by first | (with_reducible assumption) | assumption)
                   obtain ⟨ad266, e266, hx266_0, hx266_1⟩ := at_T31 HR0.out x5_3 p266 q266
                   have hw266_1 := hx266_1
                   have hw266_0 := hx266_0
                   cases e266
                   replace hx266_0 := cB HB.out hx266_0
                   replace hx266_1 := cB HB.out hx266_1
                   replace p266 := eq_true p266
                   replace q266 := eq_true q266
                   have p267 : 0 ≤ (t264 : Int) := of_decide_eq_true (by first | (with_reducible assumption) | assumption)
                   have q267 : t264 < (l0.length : Int) := of_decide_eq_true (by first | (with_reducible assumption) | assumption)
                   obtain ⟨ad267, e267, hx267_0, hx267_1⟩ := at_T31 HR0.out t264 p267 q267
                   have hw267_1 := hx267_1
                   have hw267_0 := hx267_0
                   obtain rfl : ad266 = ad267 := (by injection e267)
                   replace hx267_0 := cB HB.out hx267_0
                   replace hx267_1 := cB HB.out hx267_1
                   replace p267 := eq_true p267
                   replace q267 := eq_true q267
                   have p268 : 0 ≤ (t265 : Int) := of_decide_eq_true (by first | (with_reducible assumption) | assumption)
                   have q268 : t265 < (l0.length : Int) := of_decide_eq_true (by first | (with_reducible assumption) | assumption)
                   obtain ⟨ad268, e268, hx268_0, hx268_1⟩ := at_T31 HR0.out t265 p268 q268
                   have hw268_1 := hx268_1
                   have hw268_0 := hx268_0
                   obtain rfl : ad266 = ad268 := (by injection e268)
                   replace hx268_0 := cB HB.out hx268_0
                   replace hx268_1 := cB HB.out hx268_1
                   replace p268 := eq_true p268
                   replace q268 := eq_true q268
                   have p270 : 0 ≤ (x5_3 : Int) := of_decide_eq_true (by first | (with_reducible assumption) | assumption)
                   have q270 : x5_3 < (l0.length : Int) := of_decide_eq_true (by first | (with_reducible assumption) | assumption)
                   obtain ⟨ad270, e270, hx270_0, hx270_1⟩ := at_T31 HR0.out x5_3 p270 q270
                   have hw270_1 := hx270_1
                   have hw270_0 := hx270_0
                   obtain rfl : ad266 = ad270 := (by injection e270)
                   replace hx270_0 := cB HB.out hx270_0
                   replace hx270_1 := cB HB.out hx270_1
                   replace p270 := eq_true p270
                   replace q270 := eq_true q270
                   have p271 : 0 ≤ (t264 : Int) := of_decide_eq_true (by first | (with_reducible assumption) | assumption)
                   have q271 : t264 < (l0.length : Int) := of_decide_eq_true (by first | (with_reducible assumption) | assumption)
                   obtain ⟨ad271, e271, hx271_0, hx271_1⟩ := at_T31 HR0.out t264 p271 q271
                   have hw271_1 := hx271_1
                   have hw271_0 := hx271_0
                   obtain rfl : ad266 = ad271 := (by injection e271)
                   replace hx271_0 := cB HB.out hx271_0
                   replace hx271_1 := cB HB.out hx271_1
                   replace p271 := eq_true p271
                   replace q271 := eq_true q271
                   have p272 : 0 ≤ (t265 : Int) := of_decide_eq_true (by first | (with_reducible assumption) | assumption)
                   have q272 : t265 < (l0.length : Int) := of_decide_eq_true (by first | (with_reducible assumption) | assumption)
                   obtain ⟨ad272, e272, hx272_0, hx272_1⟩ := at_T31 HR0.out t265 p272 q272
                   have hw272_1 := hx272_1
                   have hw272_0 := hx272_0
                   obtain rfl : ad266 = ad272 := (by injection e272)
                   replace hx272_0 := cB HB.out hx272_0
                   replace hx272_1 := cB HB.out hx272_1
                   replace p272 := eq_true p272
                   replace q272 := eq_true q272
                   refine start_ (n := 44) (S := fun w' => w'.cell? (ad266.add ((x5_3).toNat * 2)) = some (.int .i64 ((rd_T31 l0 x5_3).f0)) ∧ w'.cell? ⟨(ad266.add ((x5_3).toNat * 2)).block, (ad266.add ((x5_3).toNat * 2)).off + 1, none⟩ = some (.int .i64 ((rd_T31 l0 x5_3).f1)) ∧ w'.cell? (ad266.add ((t264).toNat * 2)) = some (.int .i64 ((rd_T31 l0 t264).f0)) ∧ w'.cell? ⟨(ad266.add ((t264).toNat * 2)).block, (ad266.add ((t264).toNat * 2)).off + 1, none⟩ = some (.int .i64 ((rd_T31 l0 t264).f1)) ∧ w'.cell? (ad266.add ((t265).toNat * 2)) = some (.int .i64 ((rd_T31 l0 t265).f0)) ∧ w'.cell? ⟨(ad266.add ((t265).toNat * 2)).block, (ad266.add ((t265).toNat * 2)).off + 1, none⟩ = some (.int .i64 ((rd_T31 l0 t265).f1)) ∧ w'.cell? (ad266.add ((x5_3).toNat * 2)) = some (.int .i64 ((rd_T31 l0 x5_3).f0)) ∧ w'.cell? ⟨(ad266.add ((x5_3).toNat * 2)).block, (ad266.add ((x5_3).toNat * 2)).off + 1, none⟩ = some (.int .i64 ((rd_T31 l0 x5_3).f1)) ∧ w'.cell? (ad266.add ((t264).toNat * 2)) = some (.int .i64 ((rd_T31 l0 t264).f0)) ∧ w'.cell? ⟨(ad266.add ((t264).toNat * 2)).block, (ad266.add ((t264).toNat * 2)).off + 1, none⟩ = some (.int .i64 ((rd_T31 l0 t264).f1)) ∧ w'.cell? (ad266.add ((t265).toNat * 2)) = some (.int .i64 ((rd_T31 l0 t265).f0)) ∧ w'.cell? ⟨(ad266.add ((t265).toNat * 2)).block, (ad266.add ((t265).toNat * 2)).off + 1, none⟩ = some (.int .i64 ((rd_T31 l0 t265).f1))) (ds := []) (Bs 0 44) (by kernel_rfl) rfl rfl ⟨(cB HB.out hw266_0), (cB HB.out hw266_1), (cB HB.out hw267_0), (cB HB.out hw267_1), (cB HB.out hw268_0), (cB HB.out hw268_1), (cB HB.out hw270_0), (cB HB.out hw270_1), (cB HB.out hw271_0), (cB HB.out hw271_1), (cB HB.out hw272_0), (cB HB.out hw272_1)⟩ (fun hHeld => ?_); refine with_tabW silversideref01_Simple.tab14 silversideref01_Simple.bits14 (fun HT_ HW_ => ?_)
                   replace HB := Aside0.mk (show Below w.heap.size w (wr.drewN (ndA + ndB)).drew from ⟨HB.out.os, HB.out.tape, HB.out.output, HB.out.size, HB.out.block⟩)
                   replace hx266_0 := (show World.cell? (wr.drewN (ndA + ndB)).drew _ = _ from hx266_0)
                   replace hx266_1 := (show World.cell? (wr.drewN (ndA + ndB)).drew _ = _ from hx266_1)
                   replace hx267_0 := (show World.cell? (wr.drewN (ndA + ndB)).drew _ = _ from hx267_0)
                   replace hx267_1 := (show World.cell? (wr.drewN (ndA + ndB)).drew _ = _ from hx267_1)
                   replace hx268_0 := (show World.cell? (wr.drewN (ndA + ndB)).drew _ = _ from hx268_0)
                   replace hx268_1 := (show World.cell? (wr.drewN (ndA + ndB)).drew _ = _ from hx268_1)
                   replace hx270_0 := (show World.cell? (wr.drewN (ndA + ndB)).drew _ = _ from hx270_0)
                   replace hx270_1 := (show World.cell? (wr.drewN (ndA + ndB)).drew _ = _ from hx270_1)
                   replace hx271_0 := (show World.cell? (wr.drewN (ndA + ndB)).drew _ = _ from hx271_0)
                   replace hx271_1 := (show World.cell? (wr.drewN (ndA + ndB)).drew _ = _ from hx271_1)
                   replace hx272_0 := (show World.cell? (wr.drewN (ndA + ndB)).drew _ = _ from hx272_0)
                   replace hx272_1 := (show World.cell? (wr.drewN (ndA + ndB)).drew _ = _ from hx272_1)
                   generalize (wr.drewN (ndA + ndB)).drew = w31 at HB hx266_0 hx266_1 hx267_0 hx267_1 hx268_0 hx268_1 hx270_0 hx270_1 hx271_0 hx271_1 hx272_0 hx272_1 hHeld ⊢
                   refine pure_ (i := 0) (N := some 49) (v := ?_) (a' := ?_) (Bs 1 44) rfl rfl (any_of HT_.out (by kernel_rfl)) (fun _ _ _ h => h) (Or.inl ⟨by rfl, ?_⟩) ?_ ?_; rotate_left
                   ·intro w'; go_simp; with_reducible rfl
                   rotate_left
                   ·simp only [Act.put, sA, sB, sC, i64_w, i32_w]; rfl
                   refine pure_ (i := 1) (N := some 50) (v := ?_) (a' := ?_) (Bs 2 44) rfl rfl (any_of HT_.out (by kernel_rfl)) (fun _ _ _ h => h) (Or.inl ⟨by rfl, ?_⟩) ?_ ?_; rotate_left
                   ·intro w'; go_simp; with_reducible rfl
                   rotate_left
                   ·simp only [Act.put, sA, sB, sC, i64_w, i32_w]; rfl
                   refine pure_ (i := 2) (N := some 51) (v := ?_) (a' := ?_) (Bs 3 44) rfl rfl (any_of HT_.out (by kernel_rfl)) (fun _ _ _ h => h) (Or.inl ⟨by rfl, ?_⟩) ?_ ?_; rotate_left
                   ·intro w'; go_simp; with_reducible rfl
                   rotate_left
                   ·simp only [Act.put, sA, sB, sC, i64_w, i32_w]; rfl
                   refine pure_ (i := 4) (N := some 53) (v := ?_) (a' := ?_) (Br [3,1,1,39]) rfl rfl (any_of HT_.out (by kernel_rfl)) (fun _ _ _ h => h) (Or.inl ⟨by rfl, ?_⟩) ?_ ?_; rotate_left
                   ·intro w'; go_simp; with_reducible rfl
                   rotate_left
                   ·simp only [Act.put, sA, sB, sC, i64_w, i32_w]; rfl
                   refine pure_ (i := 5) (N := some 54) (v := ?_) (a' := ?_) (Br [3,1,2,38]) rfl rfl (any_of HT_.out (by kernel_rfl)) (fun _ _ _ h => h) (Or.inl ⟨by rfl, ?_⟩) ?_ ?_; rotate_left
                   ·intro w'; go_simp; with_reducible rfl
                   rotate_left
                   ·simp only [Act.put, sA, sB, sC, i64_w, i32_w]; rfl
                   refine pure_ (i := 6) (N := some 55) (v := ?_) (a' := ?_) (Br [3,1,3,37]) rfl rfl (any_of HT_.out (by kernel_rfl)) (fun _ _ _ h => h) (Or.inl ⟨by rfl, ?_⟩) ?_ ?_; rotate_left
                   ·intro w'; go_simp; with_reducible rfl
                   rotate_left
                   ·simp only [Act.put, sA, sB, sC, i64_w, i32_w]; rfl
                   refine pure_ (i := 8) (N := some 57) (v := ?_) (a' := ?_) (Br [3,1,3,1,1,35]) rfl rfl (any_of HT_.out (by kernel_rfl)) (fun _ _ _ h => h) (Or.inl ⟨by rfl, ?_⟩) ?_ ?_; rotate_left
                   ·intro w'; go_simp; with_reducible rfl
                   rotate_left
                   ·simp only [Act.put, sA, sB, sC, i64_w, i32_w]; rfl
                   refine pure_ (i := 9) (N := some 58) (v := ?_) (a' := ?_) (Br [3,1,3,1,2,34]) rfl rfl (any_of HT_.out (by kernel_rfl)) (fun _ _ _ h => h) (Or.inl ⟨by rfl, ?_⟩) ?_ ?_; rotate_left
                   ·intro w'; go_simp; with_reducible rfl
                   rotate_left
                   ·simp only [Act.put, sA, sB, sC, i64_w, i32_w]; rfl
                   refine pure_ (i := 10) (N := some 59) (v := ?_) (a' := ?_) (Br [3,1,3,1,3,33]) rfl rfl (any_of HT_.out (by kernel_rfl)) (fun _ _ _ h => h) (Or.inl ⟨by rfl, ?_⟩) ?_ ?_; rotate_left
                   ·intro w'; go_simp; with_reducible rfl
                   rotate_left
                   ·simp only [Act.put, sA, sB, sC, i64_w, i32_w]; rfl
                   refine take_ (i := 3) (N := some 52) (v := ?_) (a' := ?_) (Br [7,1,3,33]) rfl rfl (take_ofW HT_.out HW_.out (by kernel_rfl)) (fun _ _ _ h => h) (Or.inl ⟨by rfl, ?_⟩) hHeld ?_ ?_; rotate_left
                   ·rintro w' ⟨s0, s1, s2, s3, s4, s5, s6, s7, s8, s9, s10, s11⟩; go_simp; with_reducible rfl
                   rotate_left
                   ·simp only [Act.put, sA, sB, sC, i64_w, i32_w]; rfl
                   refine take_ (i := 7) (N := some 56) (v := ?_) (a' := ?_) (Bs 11 44) rfl rfl (take_ofW HT_.out HW_.out (by kernel_rfl)) (fun _ _ _ h => h) (Or.inl ⟨by rfl, ?_⟩) hHeld ?_ ?_; rotate_left
                   ·rintro w' ⟨s0, s1, s2, s3, s4, s5, s6, s7, s8, s9, s10, s11⟩; go_simp; with_reducible rfl
                   rotate_left
                   ·simp only [Act.put, sA, sB, sC, i64_w, i32_w]; rfl
                   refine take_ (i := 11) (N := some 60) (v := ?_) (a' := ?_) (Bs 12 44) rfl rfl (take_ofW HT_.out HW_.out (by kernel_rfl)) (fun _ _ _ h => h) (Or.inl ⟨by rfl, ?_⟩) hHeld ?_ ?_; rotate_left
                   ·rintro w' ⟨s0, s1, s2, s3, s4, s5, s6, s7, s8, s9, s10, s11⟩; go_simp; with_reducible rfl
                   rotate_left
                   ·simp only [Act.put, sA, sB, sC, i64_w, i32_w]; rfl
                   refine one_ (i := 12) (N := some 61) (Bs 13 44) rfl rfl (one_of HT_.out (by kernel_rfl)) (by decide) (fun K hK => ?_)
                   refine goes_ Try.func31 (by kernel_rfl) rfl #[.agg #[.int .i64 ((rd_T31 l0 x5_3).f0), .int .i64 ((rd_T31 l0 x5_3).f1)], .agg #[.int .i64 ((rd_T31 l0 t264).f0), .int .i64 ((rd_T31 l0 t264).f1)], .agg #[.int .i64 ((rd_T31 l0 t265).f0), .int .i64 ((rd_T31 l0 t265).f1)]] (by rfl) rfl rfl (by (try simp only [List.map_toArray, List.map_cons, List.map_nil]); first | done | rfl | (simp only [List.length_drop, List.length_take]; rfl)) ?_
                   with_reducible refine (silversideref01_Turn.calls ((rd_T31 l0 x5_3).f0) ((rd_T31 l0 x5_3).f1) ((rd_T31 l0 t264).f0) ((rd_T31 l0 t264).f1) ((rd_T31 l0 t265).f0) ((rd_T31 l0 t265).f1) t269 _ A27.out).mono ?_
                   rintro e w32 ⟨rfl, hb⟩
                   refine ⟨_, rfl, ?_⟩
                   have n0_ := Aside0.mk (below_step (by repeat (first | (with_reducible first | exact HB.out | apply lA | apply lN | apply lD) | exact HB.out)) hb)
                   clear HB
                   have HB := n0_
                   clear n0_
                   (try clear hb)
                   (try clear hb2)
                   (try clear hk)
                   (try clear hi)
                   refine hK.out _ _ ⟨(cB HB.out hw266_0), (cB HB.out hw266_1), (cB HB.out hw267_0), (cB HB.out hw267_1), (cB HB.out hw268_0), (cB HB.out hw268_1), (cB HB.out hw270_0), (cB HB.out hw270_1), (cB HB.out hw271_0), (cB HB.out hw271_1), (cB HB.out hw272_0), (cB HB.out hw272_1)⟩ (fun hHeld => ?_)
                   clear hK K
                   refine norm_ (a' := ?_) ?_ ?_
                   rotate_left
                   ·show Act.put _ (some 61) _ = _
                    simp only [Act.put, sA, sB, sC, i64_w, i32_w]
                    rfl
                   refine pure_ (i := 13) (N := some 62) (v := ?_) (a' := ?_) (Bs 14 44) rfl rfl (any_of HT_.out (by kernel_rfl)) (fun _ _ _ h => h) (Or.inl ⟨by rfl, ?_⟩) ?_ ?_; rotate_left
                   ·intro w'; go_simp; with_reducible rfl
                   rotate_left
                   ·simp only [Act.put, sA, sB, sC, i64_w, i32_w]; rfl
                   refine pure_ (i := 14) (N := some 63) (v := ?_) (a' := ?_) (Bs 15 44) rfl rfl (any_of HT_.out (by kernel_rfl)) (fun _ _ _ h => h) (Or.inl ⟨by rfl, ?_⟩) ?_ ?_; rotate_left
                   ·intro w'; go_simp; with_reducible rfl
                   rotate_left
                   ·simp only [Act.put, sA, sB, sC, i64_w, i32_w]; rfl
                   refine pure_ (i := 15) (N := some 64) (v := ?_) (a' := ?_) (Bs 16 44) rfl rfl (any_of HT_.out (by kernel_rfl)) (fun _ _ _ h => h) (Or.inl ⟨by rfl, ?_⟩) ?_ ?_; rotate_left
                   ·intro w'; go_simp; with_reducible rfl
                   rotate_left
                   ·simp only [Act.put, sA, sB, sC, i64_w, i32_w]; rfl
                   refine pure_ (i := 16) (N := some 65) (v := ?_) (a' := ?_) (Bs 17 44) rfl rfl (any_of HT_.out (by kernel_rfl)) (fun _ _ _ h => h) (Or.inl ⟨by rfl, ?_⟩) ?_ ?_; rotate_left
                   ·intro w'; go_simp; with_reducible rfl
                   rotate_left
                   ·simp only [Act.put, sA, sB, sC, i64_w, i32_w]; rfl
                   refine pure_ (i := 17) (N := some 66) (v := ?_) (a' := ?_) (Bs 18 44) rfl rfl (any_of HT_.out (by kernel_rfl)) (fun _ _ _ h => h) (Or.inl ⟨by rfl, ?_⟩) ?_ ?_; rotate_left
                   ·intro w'; go_simp; with_reducible rfl
                   rotate_left
                   ·simp only [Act.put, sA, sB, sC, i64_w, i32_w]; rfl
                   refine pure_ (i := 19) (N := some 68) (v := ?_) (a' := ?_) (Br [18,1,1,24]) rfl rfl (any_of HT_.out (by kernel_rfl)) (fun _ _ _ h => h) (Or.inl ⟨by rfl, ?_⟩) ?_ ?_; rotate_left
                   ·intro w'; go_simp; with_reducible rfl
                   rotate_left
                   ·simp only [Act.put, sA, sB, sC, i64_w, i32_w]; rfl
                   refine pure_ (i := 20) (N := some 69) (v := ?_) (a' := ?_) (Br [18,1,2,23]) rfl rfl (any_of HT_.out (by kernel_rfl)) (fun _ _ _ h => h) (Or.inl ⟨by rfl, ?_⟩) ?_ ?_; rotate_left
                   ·intro w'; go_simp; with_reducible rfl
                   rotate_left
                   ·simp only [Act.put, sA, sB, sC, i64_w, i32_w]; rfl
                   refine pure_ (i := 21) (N := some 70) (v := ?_) (a' := ?_) (Br [18,1,3,22]) rfl rfl (any_of HT_.out (by kernel_rfl)) (fun _ _ _ h => h) (Or.inl ⟨by rfl, ?_⟩) ?_ ?_; rotate_left
                   ·intro w'; go_simp; with_reducible rfl
                   rotate_left
                   ·simp only [Act.put, sA, sB, sC, i64_w, i32_w]; rfl
                   refine pure_ (i := 23) (N := some 72) (v := ?_) (a' := ?_) (Br [18,1,3,1,1,20]) rfl rfl (any_of HT_.out (by kernel_rfl)) (fun _ _ _ h => h) (Or.inl ⟨by rfl, ?_⟩) ?_ ?_; rotate_left
                   ·intro w'; go_simp; with_reducible rfl
                   rotate_left
                   ·simp only [Act.put, sA, sB, sC, i64_w, i32_w]; rfl
                   refine pure_ (i := 24) (N := some 73) (v := ?_) (a' := ?_) (Br [18,1,3,1,2,19]) rfl rfl (any_of HT_.out (by kernel_rfl)) (fun _ _ _ h => h) (Or.inl ⟨by rfl, ?_⟩) ?_ ?_; rotate_left
                   ·intro w'; go_simp; with_reducible rfl
                   rotate_left
                   ·simp only [Act.put, sA, sB, sC, i64_w, i32_w]; rfl
                   refine pure_ (i := 25) (N := some 74) (v := ?_) (a' := ?_) (Br [18,1,3,1,3,18]) rfl rfl (any_of HT_.out (by kernel_rfl)) (fun _ _ _ h => h) (Or.inl ⟨by rfl, ?_⟩) ?_ ?_; rotate_left
                   ·intro w'; go_simp; with_reducible rfl
                   rotate_left
                   ·simp only [Act.put, sA, sB, sC, i64_w, i32_w]; rfl
                   refine take_ (i := 18) (N := some 67) (v := ?_) (a' := ?_) (Br [22,1,3,18]) rfl rfl (take_ofW HT_.out HW_.out (by kernel_rfl)) (fun _ _ _ h => h) (Or.inl ⟨by rfl, ?_⟩) hHeld ?_ ?_; rotate_left
                   ·rintro w' ⟨s0, s1, s2, s3, s4, s5, s6, s7, s8, s9, s10, s11⟩; go_simp; with_reducible rfl
                   rotate_left
                   ·simp only [Act.put, sA, sB, sC, i64_w, i32_w]; rfl
                   refine take_ (i := 22) (N := some 71) (v := ?_) (a' := ?_) (Bs 26 44) rfl rfl (take_ofW HT_.out HW_.out (by kernel_rfl)) (fun _ _ _ h => h) (Or.inl ⟨by rfl, ?_⟩) hHeld ?_ ?_; rotate_left
                   ·rintro w' ⟨s0, s1, s2, s3, s4, s5, s6, s7, s8, s9, s10, s11⟩; go_simp; with_reducible rfl
                   rotate_left
                   ·simp only [Act.put, sA, sB, sC, i64_w, i32_w]; rfl
                   refine take_ (i := 26) (N := some 75) (v := ?_) (a' := ?_) (Bs 27 44) rfl rfl (take_ofW HT_.out HW_.out (by kernel_rfl)) (fun _ _ _ h => h) (Or.inl ⟨by rfl, ?_⟩) hHeld ?_ ?_; rotate_left
                   ·rintro w' ⟨s0, s1, s2, s3, s4, s5, s6, s7, s8, s9, s10, s11⟩; go_simp; with_reducible rfl
                   rotate_left
                   ·simp only [Act.put, sA, sB, sC, i64_w, i32_w]; rfl
                   refine one_ (i := 27) (N := some 76) (Bs 28 44) rfl rfl (one_of HT_.out (by kernel_rfl)) (by decide) (fun K hK => ?_)
                   refine goes_ Try.func59 (by kernel_rfl) rfl #[.agg #[.int .i64 ((rd_T31 l0 x5_3).f0), .int .i64 ((rd_T31 l0 x5_3).f1)], .agg #[.int .i64 ((rd_T31 l0 t264).f0), .int .i64 ((rd_T31 l0 t264).f1)], .agg #[.int .i64 ((rd_T31 l0 t265).f0), .int .i64 ((rd_T31 l0 t265).f1)]] (by rfl) rfl rfl (by (try simp only [List.map_toArray, List.map_cons, List.map_nil]); first | done | rfl | (simp only [List.length_drop, List.length_take]; rfl)) ?_
                   with_reducible refine (silversideref01_on.calls ((rd_T31 l0 x5_3).f0) ((rd_T31 l0 x5_3).f1) ((rd_T31 l0 t264).f0) ((rd_T31 l0 t264).f1) ((rd_T31 l0 t265).f0) ((rd_T31 l0 t265).f1) true _ A29.out).mono ?_
                   rintro e w33 ⟨rfl, hb⟩
                   refine ⟨_, rfl, ?_⟩
                   have n0_ := Aside0.mk (below_step (by repeat (first | (with_reducible first | exact HB.out | apply lA | apply lN | apply lD) | exact HB.out)) hb)
                   clear HB
                   have HB := n0_
                   clear n0_
                   (try clear hb)
                   (try clear hb2)
                   (try clear hk)
                   (try clear hi)
                   refine hK.out _ _ ⟨(cB HB.out hw266_0), (cB HB.out hw266_1), (cB HB.out hw267_0), (cB HB.out hw267_1), (cB HB.out hw268_0), (cB HB.out hw268_1), (cB HB.out hw270_0), (cB HB.out hw270_1), (cB HB.out hw271_0), (cB HB.out hw271_1), (cB HB.out hw272_0), (cB HB.out hw272_1)⟩ (fun hHeld => ?_)
                   clear hK K
                   refine norm_ (a' := ?_) ?_ ?_
                   rotate_left
                   ·show Act.put _ (some 76) _ = _
                    simp only [Act.put, sA, sB, sC, i64_w, i32_w]
                    rfl
                   refine pure_ (i := 28) (N := some 77) (v := ?_) (a' := ?_) (Bs 29 44) rfl rfl (any_of HT_.out (by kernel_rfl)) (fun _ _ _ h => h) (Or.inl ⟨by rfl, ?_⟩) ?_ ?_; rotate_left
                   ·intro w'; go_simp; with_reducible rfl
                   rotate_left
                   ·simp only [Act.put, sA, sB, sC, i64_w, i32_w]; rfl
                   refine pure_ (i := 29) (N := some 78) (v := undef) (a' := ?_) (Bs 30 44) rfl rfl (any_of HT_.out (by kernel_rfl)) (fun _ _ _ h => h) (Or.inr ⟨by rfl, rfl⟩) ?_ ?_; rotate_left
                   ·simp only [Act.put, sA, sB, sC, i64_w, i32_w]; rfl
                   refine pure_ (i := 30) (N := some 79) (v := undef) (a' := ?_) (Bs 31 44) rfl rfl (any_of HT_.out (by kernel_rfl)) (fun _ _ _ h => h) (Or.inr ⟨by rfl, rfl⟩) ?_ ?_; rotate_left
                   ·simp only [Act.put, sA, sB, sC, i64_w, i32_w]; rfl
                   refine pure_ (i := 31) (N := some 80) (v := undef) (a' := ?_) (Bs 32 44) rfl rfl (any_of HT_.out (by kernel_rfl)) (fun _ _ _ h => h) (Or.inr ⟨by rfl, rfl⟩) ?_ ?_; rotate_left
                   ·simp only [Act.put, sA, sB, sC, i64_w, i32_w]; rfl
                   refine pure_ (i := 32) (N := some 81) (v := undef) (a' := ?_) (Bs 33 44) rfl rfl (any_of HT_.out (by kernel_rfl)) (fun _ _ _ h => h) (Or.inr ⟨by rfl, rfl⟩) ?_ ?_; rotate_left
                   ·simp only [Act.put, sA, sB, sC, i64_w, i32_w]; rfl
                   refine pure_ (i := 33) (N := some 82) (v := undef) (a' := ?_) (Bs 34 44) rfl rfl (any_of HT_.out (by kernel_rfl)) (fun _ _ _ h => h) (Or.inr ⟨by rfl, rfl⟩) ?_ ?_; rotate_left
                   ·simp only [Act.put, sA, sB, sC, i64_w, i32_w]; rfl
                   refine pure_ (i := 34) (N := some 83) (v := undef) (a' := ?_) (Bs 35 44) rfl rfl (any_of HT_.out (by kernel_rfl)) (fun _ _ _ h => h) (Or.inr ⟨by rfl, rfl⟩) ?_ ?_; rotate_left
                   ·simp only [Act.put, sA, sB, sC, i64_w, i32_w]; rfl
                   refine pure_ (i := 35) (N := some 84) (v := undef) (a' := ?_) (Bs 36 44) rfl rfl (any_of HT_.out (by kernel_rfl)) (fun _ _ _ h => h) (Or.inr ⟨by rfl, rfl⟩) ?_ ?_; rotate_left
                   ·simp only [Act.put, sA, sB, sC, i64_w, i32_w]; rfl
                   refine pure_ (i := 36) (N := some 85) (v := undef) (a' := ?_) (Bs 37 44) rfl rfl (any_of HT_.out (by kernel_rfl)) (fun _ _ _ h => h) (Or.inr ⟨by rfl, rfl⟩) ?_ ?_; rotate_left
                   ·simp only [Act.put, sA, sB, sC, i64_w, i32_w]; rfl
                   refine pure_ (i := 37) (N := some 86) (v := undef) (a' := ?_) (Bs 38 44) rfl rfl (any_of HT_.out (by kernel_rfl)) (fun _ _ _ h => h) (Or.inr ⟨by rfl, rfl⟩) ?_ ?_; rotate_left
                   ·simp only [Act.put, sA, sB, sC, i64_w, i32_w]; rfl
                   refine pure_ (i := 38) (N := some 87) (v := undef) (a' := ?_) (Bs 39 44) rfl rfl (any_of HT_.out (by kernel_rfl)) (fun _ _ _ h => h) (Or.inr ⟨by rfl, rfl⟩) ?_ ?_; rotate_left
                   ·simp only [Act.put, sA, sB, sC, i64_w, i32_w]; rfl
                   refine pure_ (i := 39) (N := some 88) (v := undef) (a' := ?_) (Bs 40 44) rfl rfl (any_of HT_.out (by kernel_rfl)) (fun _ _ _ h => h) (Or.inr ⟨by rfl, rfl⟩) ?_ ?_; rotate_left
                   ·simp only [Act.put, sA, sB, sC, i64_w, i32_w]; rfl
                   refine pure_ (i := 40) (N := some 89) (v := undef) (a' := ?_) (Bs 41 44) rfl rfl (any_of HT_.out (by kernel_rfl)) (fun _ _ _ h => h) (Or.inr ⟨by rfl, rfl⟩) ?_ ?_; rotate_left
                   ·simp only [Act.put, sA, sB, sC, i64_w, i32_w]; rfl
                   refine pure_ (i := 41) (N := some 90) (v := undef) (a' := ?_) (Bs 42 44) rfl rfl (any_of HT_.out (by kernel_rfl)) (fun _ _ _ h => h) (Or.inr ⟨by rfl, rfl⟩) ?_ ?_; rotate_left
                   ·simp only [Act.put, sA, sB, sC, i64_w, i32_w]; rfl
                   refine pure_ (i := 42) (N := some 91) (v := ?_) (a' := ?_) (Bs 43 44) rfl rfl (any_of HT_.out (by kernel_rfl)) (fun _ _ _ h => h) (Or.inl ⟨by rfl, ?_⟩) ?_ ?_; rotate_left
                   ·intro w'; go_simp; with_reducible rfl
                   rotate_left
                   ·simp only [Act.put, sA, sB, sC, i64_w, i32_w]; rfl
                   refine pure_ (i := 43) (N := some 92) (v := ?_) (a' := ?_) (Bs 44 44) rfl rfl (any_of HT_.out (by kernel_rfl)) (fun _ _ _ h => h) (Or.inl ⟨by rfl, ?_⟩) ?_ ?_; rotate_left
                   ·intro w'; go_simp; with_reducible rfl
                   rotate_left
                   ·simp only [Act.put, sA, sB, sC, i64_w, i32_w]; rfl
                   refine done_ (done_of HT_.out (by kernel_rfl)) ?_
                   try go_wp2
                   go_meet
                   case rel => exact ⟨_, (true), (by first | rfl | (simp; done) | (simp [*]; done)), H', ⟨by have := HJ1.out; have := HK2.out; have := HK3.out; first | omega | exact Nat.le_refl _⟩, ⟨by repeat (first | (with_reducible first | exact HB.out | apply lA | apply lN | apply lD) | exact HB.out)⟩⟩
                  ·replace c30 := Bool.eq_false_iff.mpr c30
                   subst c30
                   have H1 : ((silversideref01_on.f ((rd_T31 l0 t264).f0) ((rd_T31 l0 t264).f1) ((rd_T31 l0 t265).f0) ((rd_T31 l0 t265).f1) ((rd_T31 l0 x5_3).f0) ((rd_T31 l0 x5_3).f1)).bind fun t277 => (silversideref01_Simple.j3 k3 l0 (l0.length : Int) x5_3 t264 t277)) = some r := by rw [if_neg (show ¬ (false = true) by decide)] at H; exact H
                   clear H
                   have H := H1
                   clear H1
                   replace H := Option.bind_eq_some_iff.mp H
                   obtain ⟨t277, A340, H⟩ := H
                   replace H : (silversideref01_Simple.j3 k3 l0 (l0.length : Int) x5_3 t264 t277) = some r := H
                   have A34 := Aside0.mk A340
                   clear A340
                   have H' := Aside0.mk H
                   clear H
                   try go_wp2
                   have n0_ := Aside0.mk (lD HB.out)
                   clear HB
                   have HB := n0_
                   clear n0_
                   have p266 : 0 ≤ (x5_3 : Int) := of_decide_eq_true (by first | (with_reducible assumption) | assumption)
                   have q266 : x5_3 < (l0.length : Int) := of_decide_eq_true (by first | (with_reducible assumption) | assumption)
                   obtain ⟨ad266, e266, hx266_0, hx266_1⟩ := at_T31 HR0.out x5_3 p266 q266
                   have hw266_1 := hx266_1
                   have hw266_0 := hx266_0
                   cases e266
                   replace hx266_0 := cB HB.out hx266_0
                   replace hx266_1 := cB HB.out hx266_1
                   replace p266 := eq_true p266
                   replace q266 := eq_true q266
                   have p267 : 0 ≤ (t264 : Int) := of_decide_eq_true (by first | (with_reducible assumption) | assumption)
                   have q267 : t264 < (l0.length : Int) := of_decide_eq_true (by first | (with_reducible assumption) | assumption)
                   obtain ⟨ad267, e267, hx267_0, hx267_1⟩ := at_T31 HR0.out t264 p267 q267
                   have hw267_1 := hx267_1
                   have hw267_0 := hx267_0
                   obtain rfl : ad266 = ad267 := (by injection e267)
                   replace hx267_0 := cB HB.out hx267_0
                   replace hx267_1 := cB HB.out hx267_1
                   replace p267 := eq_true p267
                   replace q267 := eq_true q267
                   have p268 : 0 ≤ (t265 : Int) := of_decide_eq_true (by first | (with_reducible assumption) | assumption)
                   have q268 : t265 < (l0.length : Int) := of_decide_eq_true (by first | (with_reducible assumption) | assumption)
                   obtain ⟨ad268, e268, hx268_0, hx268_1⟩ := at_T31 HR0.out t265 p268 q268
                   have hw268_1 := hx268_1
                   have hw268_0 := hx268_0
                   obtain rfl : ad266 = ad268 := (by injection e268)
                   replace hx268_0 := cB HB.out hx268_0
                   replace hx268_1 := cB HB.out hx268_1
                   replace p268 := eq_true p268
                   replace q268 := eq_true q268
                   have p270 : 0 ≤ (x5_3 : Int) := of_decide_eq_true (by first | (with_reducible assumption) | assumption)
                   have q270 : x5_3 < (l0.length : Int) := of_decide_eq_true (by first | (with_reducible assumption) | assumption)
                   obtain ⟨ad270, e270, hx270_0, hx270_1⟩ := at_T31 HR0.out x5_3 p270 q270
                   have hw270_1 := hx270_1
                   have hw270_0 := hx270_0
                   obtain rfl : ad266 = ad270 := (by injection e270)
                   replace hx270_0 := cB HB.out hx270_0
                   replace hx270_1 := cB HB.out hx270_1
                   replace p270 := eq_true p270
                   replace q270 := eq_true q270
                   have p271 : 0 ≤ (t264 : Int) := of_decide_eq_true (by first | (with_reducible assumption) | assumption)
                   have q271 : t264 < (l0.length : Int) := of_decide_eq_true (by first | (with_reducible assumption) | assumption)
                   obtain ⟨ad271, e271, hx271_0, hx271_1⟩ := at_T31 HR0.out t264 p271 q271
                   have hw271_1 := hx271_1
                   have hw271_0 := hx271_0
                   obtain rfl : ad266 = ad271 := (by injection e271)
                   replace hx271_0 := cB HB.out hx271_0
                   replace hx271_1 := cB HB.out hx271_1
                   replace p271 := eq_true p271
                   replace q271 := eq_true q271
                   have p272 : 0 ≤ (t265 : Int) := of_decide_eq_true (by first | (with_reducible assumption) | assumption)
                   have q272 : t265 < (l0.length : Int) := of_decide_eq_true (by first | (with_reducible assumption) | assumption)
                   obtain ⟨ad272, e272, hx272_0, hx272_1⟩ := at_T31 HR0.out t265 p272 q272
                   have hw272_1 := hx272_1
                   have hw272_0 := hx272_0
                   obtain rfl : ad266 = ad272 := (by injection e272)
                   replace hx272_0 := cB HB.out hx272_0
                   replace hx272_1 := cB HB.out hx272_1
                   replace p272 := eq_true p272
                   replace q272 := eq_true q272
                   have p274 : 0 ≤ (t264 : Int) := of_decide_eq_true (by first | (with_reducible assumption) | assumption)
                   have q274 : t264 < (l0.length : Int) := of_decide_eq_true (by first | (with_reducible assumption) | assumption)
                   obtain ⟨ad274, e274, hx274_0, hx274_1⟩ := at_T31 HR0.out t264 p274 q274
                   have hw274_1 := hx274_1
                   have hw274_0 := hx274_0
                   obtain rfl : ad266 = ad274 := (by injection e274)
                   replace hx274_0 := cB HB.out hx274_0
                   replace hx274_1 := cB HB.out hx274_1
                   replace p274 := eq_true p274
                   replace q274 := eq_true q274
                   have p275 : 0 ≤ (t265 : Int) := of_decide_eq_true (by first | (with_reducible assumption) | assumption)
                   have q275 : t265 < (l0.length : Int) := of_decide_eq_true (by first | (with_reducible assumption) | assumption)
                   obtain ⟨ad275, e275, hx275_0, hx275_1⟩ := at_T31 HR0.out t265 p275 q275
                   have hw275_1 := hx275_1
                   have hw275_0 := hx275_0
                   obtain rfl : ad266 = ad275 := (by injection e275)
                   replace hx275_0 := cB HB.out hx275_0
                   replace hx275_1 := cB HB.out hx275_1
                   replace p275 := eq_true p275
                   replace q275 := eq_true q275
                   have p276 : 0 ≤ (x5_3 : Int) := of_decide_eq_true (by first | (with_reducible assumption) | assumption)
                   have q276 : x5_3 < (l0.length : Int) := of_decide_eq_true (by first | (with_reducible assumption) | assumption)
                   obtain ⟨ad276, e276, hx276_0, hx276_1⟩ := at_T31 HR0.out x5_3 p276 q276
                   have hw276_1 := hx276_1
                   have hw276_0 := hx276_0
                   obtain rfl : ad266 = ad276 := (by injection e276)
                   replace hx276_0 := cB HB.out hx276_0
                   replace hx276_1 := cB HB.out hx276_1
                   replace p276 := eq_true p276
                   replace q276 := eq_true q276
                   refine start_ (n := 44) (S := fun w' => w'.cell? (ad266.add ((x5_3).toNat * 2)) = some (.int .i64 ((rd_T31 l0 x5_3).f0)) ∧ w'.cell? ⟨(ad266.add ((x5_3).toNat * 2)).block, (ad266.add ((x5_3).toNat * 2)).off + 1, none⟩ = some (.int .i64 ((rd_T31 l0 x5_3).f1)) ∧ w'.cell? (ad266.add ((t264).toNat * 2)) = some (.int .i64 ((rd_T31 l0 t264).f0)) ∧ w'.cell? ⟨(ad266.add ((t264).toNat * 2)).block, (ad266.add ((t264).toNat * 2)).off + 1, none⟩ = some (.int .i64 ((rd_T31 l0 t264).f1)) ∧ w'.cell? (ad266.add ((t265).toNat * 2)) = some (.int .i64 ((rd_T31 l0 t265).f0)) ∧ w'.cell? ⟨(ad266.add ((t265).toNat * 2)).block, (ad266.add ((t265).toNat * 2)).off + 1, none⟩ = some (.int .i64 ((rd_T31 l0 t265).f1)) ∧ w'.cell? (ad266.add ((x5_3).toNat * 2)) = some (.int .i64 ((rd_T31 l0 x5_3).f0)) ∧ w'.cell? ⟨(ad266.add ((x5_3).toNat * 2)).block, (ad266.add ((x5_3).toNat * 2)).off + 1, none⟩ = some (.int .i64 ((rd_T31 l0 x5_3).f1)) ∧ w'.cell? (ad266.add ((t264).toNat * 2)) = some (.int .i64 ((rd_T31 l0 t264).f0)) ∧ w'.cell? ⟨(ad266.add ((t264).toNat * 2)).block, (ad266.add ((t264).toNat * 2)).off + 1, none⟩ = some (.int .i64 ((rd_T31 l0 t264).f1)) ∧ w'.cell? (ad266.add ((t265).toNat * 2)) = some (.int .i64 ((rd_T31 l0 t265).f0)) ∧ w'.cell? ⟨(ad266.add ((t265).toNat * 2)).block, (ad266.add ((t265).toNat * 2)).off + 1, none⟩ = some (.int .i64 ((rd_T31 l0 t265).f1)) ∧ w'.cell? (ad266.add ((t264).toNat * 2)) = some (.int .i64 ((rd_T31 l0 t264).f0)) ∧ w'.cell? ⟨(ad266.add ((t264).toNat * 2)).block, (ad266.add ((t264).toNat * 2)).off + 1, none⟩ = some (.int .i64 ((rd_T31 l0 t264).f1)) ∧ w'.cell? (ad266.add ((t265).toNat * 2)) = some (.int .i64 ((rd_T31 l0 t265).f0)) ∧ w'.cell? ⟨(ad266.add ((t265).toNat * 2)).block, (ad266.add ((t265).toNat * 2)).off + 1, none⟩ = some (.int .i64 ((rd_T31 l0 t265).f1)) ∧ w'.cell? (ad266.add ((x5_3).toNat * 2)) = some (.int .i64 ((rd_T31 l0 x5_3).f0)) ∧ w'.cell? ⟨(ad266.add ((x5_3).toNat * 2)).block, (ad266.add ((x5_3).toNat * 2)).off + 1, none⟩ = some (.int .i64 ((rd_T31 l0 x5_3).f1))) (ds := []) (Bs 0 44) (by kernel_rfl) rfl rfl ⟨(cB HB.out hw266_0), (cB HB.out hw266_1), (cB HB.out hw267_0), (cB HB.out hw267_1), (cB HB.out hw268_0), (cB HB.out hw268_1), (cB HB.out hw270_0), (cB HB.out hw270_1), (cB HB.out hw271_0), (cB HB.out hw271_1), (cB HB.out hw272_0), (cB HB.out hw272_1), (cB HB.out hw274_0), (cB HB.out hw274_1), (cB HB.out hw275_0), (cB HB.out hw275_1), (cB HB.out hw276_0), (cB HB.out hw276_1)⟩ (fun hHeld => ?_); refine with_tabW silversideref01_Simple.tab14 silversideref01_Simple.bits14 (fun HT_ HW_ => ?_)
                   replace HB := Aside0.mk (show Below w.heap.size w (wr.drewN (ndA + ndB)).drew from ⟨HB.out.os, HB.out.tape, HB.out.output, HB.out.size, HB.out.block⟩)
                   replace hx266_0 := (show World.cell? (wr.drewN (ndA + ndB)).drew _ = _ from hx266_0)
                   replace hx266_1 := (show World.cell? (wr.drewN (ndA + ndB)).drew _ = _ from hx266_1)
                   replace hx267_0 := (show World.cell? (wr.drewN (ndA + ndB)).drew _ = _ from hx267_0)
                   replace hx267_1 := (show World.cell? (wr.drewN (ndA + ndB)).drew _ = _ from hx267_1)
                   replace hx268_0 := (show World.cell? (wr.drewN (ndA + ndB)).drew _ = _ from hx268_0)
                   replace hx268_1 := (show World.cell? (wr.drewN (ndA + ndB)).drew _ = _ from hx268_1)
                   replace hx270_0 := (show World.cell? (wr.drewN (ndA + ndB)).drew _ = _ from hx270_0)
                   replace hx270_1 := (show World.cell? (wr.drewN (ndA + ndB)).drew _ = _ from hx270_1)
                   replace hx271_0 := (show World.cell? (wr.drewN (ndA + ndB)).drew _ = _ from hx271_0)
                   replace hx271_1 := (show World.cell? (wr.drewN (ndA + ndB)).drew _ = _ from hx271_1)
                   replace hx272_0 := (show World.cell? (wr.drewN (ndA + ndB)).drew _ = _ from hx272_0)
                   replace hx272_1 := (show World.cell? (wr.drewN (ndA + ndB)).drew _ = _ from hx272_1)
                   replace hx274_0 := (show World.cell? (wr.drewN (ndA + ndB)).drew _ = _ from hx274_0)
                   replace hx274_1 := (show World.cell? (wr.drewN (ndA + ndB)).drew _ = _ from hx274_1)
                   replace hx275_0 := (show World.cell? (wr.drewN (ndA + ndB)).drew _ = _ from hx275_0)
                   replace hx275_1 := (show World.cell? (wr.drewN (ndA + ndB)).drew _ = _ from hx275_1)
                   replace hx276_0 := (show World.cell? (wr.drewN (ndA + ndB)).drew _ = _ from hx276_0)
                   replace hx276_1 := (show World.cell? (wr.drewN (ndA + ndB)).drew _ = _ from hx276_1)
                   generalize (wr.drewN (ndA + ndB)).drew = w35 at HB hx266_0 hx266_1 hx267_0 hx267_1 hx268_0 hx268_1 hx270_0 hx270_1 hx271_0 hx271_1 hx272_0 hx272_1 hx274_0 hx274_1 hx275_0 hx275_1 hx276_0 hx276_1 hHeld ⊢
                   refine pure_ (i := 0) (N := some 49) (v := ?_) (a' := ?_) (Bs 1 44) rfl rfl (any_of HT_.out (by kernel_rfl)) (fun _ _ _ h => h) (Or.inl ⟨by rfl, ?_⟩) ?_ ?_; rotate_left
                   ·intro w'; go_simp; with_reducible rfl
                   rotate_left
                   ·simp only [Act.put, sA, sB, sC, i64_w, i32_w]; rfl
                   refine pure_ (i := 1) (N := some 50) (v := ?_) (a' := ?_) (Bs 2 44) rfl rfl (any_of HT_.out (by kernel_rfl)) (fun _ _ _ h => h) (Or.inl ⟨by rfl, ?_⟩) ?_ ?_; rotate_left
                   ·intro w'; go_simp; with_reducible rfl
                   rotate_left
                   ·simp only [Act.put, sA, sB, sC, i64_w, i32_w]; rfl
                   refine pure_ (i := 2) (N := some 51) (v := ?_) (a' := ?_) (Bs 3 44) rfl rfl (any_of HT_.out (by kernel_rfl)) (fun _ _ _ h => h) (Or.inl ⟨by rfl, ?_⟩) ?_ ?_; rotate_left
                   ·intro w'; go_simp; with_reducible rfl
                   rotate_left
                   ·simp only [Act.put, sA, sB, sC, i64_w, i32_w]; rfl
                   refine pure_ (i := 4) (N := some 53) (v := ?_) (a' := ?_) (Br [3,1,1,39]) rfl rfl (any_of HT_.out (by kernel_rfl)) (fun _ _ _ h => h) (Or.inl ⟨by rfl, ?_⟩) ?_ ?_; rotate_left
                   ·intro w'; go_simp; with_reducible rfl
                   rotate_left
                   ·simp only [Act.put, sA, sB, sC, i64_w, i32_w]; rfl
                   refine pure_ (i := 5) (N := some 54) (v := ?_) (a' := ?_) (Br [3,1,2,38]) rfl rfl (any_of HT_.out (by kernel_rfl)) (fun _ _ _ h => h) (Or.inl ⟨by rfl, ?_⟩) ?_ ?_; rotate_left
                   ·intro w'; go_simp; with_reducible rfl
                   rotate_left
                   ·simp only [Act.put, sA, sB, sC, i64_w, i32_w]; rfl
                   refine pure_ (i := 6) (N := some 55) (v := ?_) (a' := ?_) (Br [3,1,3,37]) rfl rfl (any_of HT_.out (by kernel_rfl)) (fun _ _ _ h => h) (Or.inl ⟨by rfl, ?_⟩) ?_ ?_; rotate_left
                   ·intro w'; go_simp; with_reducible rfl
                   rotate_left
                   ·simp only [Act.put, sA, sB, sC, i64_w, i32_w]; rfl
                   refine pure_ (i := 8) (N := some 57) (v := ?_) (a' := ?_) (Br [3,1,3,1,1,35]) rfl rfl (any_of HT_.out (by kernel_rfl)) (fun _ _ _ h => h) (Or.inl ⟨by rfl, ?_⟩) ?_ ?_; rotate_left
                   ·intro w'; go_simp; with_reducible rfl
                   rotate_left
                   ·simp only [Act.put, sA, sB, sC, i64_w, i32_w]; rfl
                   refine pure_ (i := 9) (N := some 58) (v := ?_) (a' := ?_) (Br [3,1,3,1,2,34]) rfl rfl (any_of HT_.out (by kernel_rfl)) (fun _ _ _ h => h) (Or.inl ⟨by rfl, ?_⟩) ?_ ?_; rotate_left
                   ·intro w'; go_simp; with_reducible rfl
                   rotate_left
                   ·simp only [Act.put, sA, sB, sC, i64_w, i32_w]; rfl
                   refine pure_ (i := 10) (N := some 59) (v := ?_) (a' := ?_) (Br [3,1,3,1,3,33]) rfl rfl (any_of HT_.out (by kernel_rfl)) (fun _ _ _ h => h) (Or.inl ⟨by rfl, ?_⟩) ?_ ?_; rotate_left
                   ·intro w'; go_simp; with_reducible rfl
                   rotate_left
                   ·simp only [Act.put, sA, sB, sC, i64_w, i32_w]; rfl
                   refine take_ (i := 3) (N := some 52) (v := ?_) (a' := ?_) (Br [7,1,3,33]) rfl rfl (take_ofW HT_.out HW_.out (by kernel_rfl)) (fun _ _ _ h => h) (Or.inl ⟨by rfl, ?_⟩) hHeld ?_ ?_; rotate_left
                   ·rintro w' ⟨s0, s1, s2, s3, s4, s5, s6, s7, s8, s9, s10, s11, s12, s13, s14, s15, s16, s17⟩; go_simp; with_reducible rfl
                   rotate_left
                   ·simp only [Act.put, sA, sB, sC, i64_w, i32_w]; rfl
                   refine take_ (i := 7) (N := some 56) (v := ?_) (a' := ?_) (Bs 11 44) rfl rfl (take_ofW HT_.out HW_.out (by kernel_rfl)) (fun _ _ _ h => h) (Or.inl ⟨by rfl, ?_⟩) hHeld ?_ ?_; rotate_left
                   ·rintro w' ⟨s0, s1, s2, s3, s4, s5, s6, s7, s8, s9, s10, s11, s12, s13, s14, s15, s16, s17⟩; go_simp; with_reducible rfl
                   rotate_left
                   ·simp only [Act.put, sA, sB, sC, i64_w, i32_w]; rfl
                   refine take_ (i := 11) (N := some 60) (v := ?_) (a' := ?_) (Bs 12 44) rfl rfl (take_ofW HT_.out HW_.out (by kernel_rfl)) (fun _ _ _ h => h) (Or.inl ⟨by rfl, ?_⟩) hHeld ?_ ?_; rotate_left
                   ·rintro w' ⟨s0, s1, s2, s3, s4, s5, s6, s7, s8, s9, s10, s11, s12, s13, s14, s15, s16, s17⟩; go_simp; with_reducible rfl
                   rotate_left
                   ·simp only [Act.put, sA, sB, sC, i64_w, i32_w]; rfl
                   refine one_ (i := 12) (N := some 61) (Bs 13 44) rfl rfl (one_of HT_.out (by kernel_rfl)) (by decide) (fun K hK => ?_)
                   refine goes_ Try.func31 (by kernel_rfl) rfl #[.agg #[.int .i64 ((rd_T31 l0 x5_3).f0), .int .i64 ((rd_T31 l0 x5_3).f1)], .agg #[.int .i64 ((rd_T31 l0 t264).f0), .int .i64 ((rd_T31 l0 t264).f1)], .agg #[.int .i64 ((rd_T31 l0 t265).f0), .int .i64 ((rd_T31 l0 t265).f1)]] (by rfl) rfl rfl (by (try simp only [List.map_toArray, List.map_cons, List.map_nil]); first | done | rfl | (simp only [List.length_drop, List.length_take]; rfl)) ?_
                   with_reducible refine (silversideref01_Turn.calls ((rd_T31 l0 x5_3).f0) ((rd_T31 l0 x5_3).f1) ((rd_T31 l0 t264).f0) ((rd_T31 l0 t264).f1) ((rd_T31 l0 t265).f0) ((rd_T31 l0 t265).f1) t269 _ A27.out).mono ?_
                   rintro e w36 ⟨rfl, hb⟩
                   refine ⟨_, rfl, ?_⟩
                   have n0_ := Aside0.mk (below_step (by repeat (first | (with_reducible first | exact HB.out | apply lA | apply lN | apply lD) | exact HB.out)) hb)
                   clear HB
                   have HB := n0_
                   clear n0_
                   (try clear hb)
                   (try clear hb2)
                   (try clear hk)
                   (try clear hi)
                   refine hK.out _ _ ⟨(cB HB.out hw266_0), (cB HB.out hw266_1), (cB HB.out hw267_0), (cB HB.out hw267_1), (cB HB.out hw268_0), (cB HB.out hw268_1), (cB HB.out hw270_0), (cB HB.out hw270_1), (cB HB.out hw271_0), (cB HB.out hw271_1), (cB HB.out hw272_0), (cB HB.out hw272_1), (cB HB.out hw274_0), (cB HB.out hw274_1), (cB HB.out hw275_0), (cB HB.out hw275_1), (cB HB.out hw276_0), (cB HB.out hw276_1)⟩ (fun hHeld => ?_)
                   clear hK K
                   refine norm_ (a' := ?_) ?_ ?_
                   rotate_left
                   ·show Act.put _ (some 61) _ = _
                    simp only [Act.put, sA, sB, sC, i64_w, i32_w]
                    rfl
                   refine pure_ (i := 13) (N := some 62) (v := ?_) (a' := ?_) (Bs 14 44) rfl rfl (any_of HT_.out (by kernel_rfl)) (fun _ _ _ h => h) (Or.inl ⟨by rfl, ?_⟩) ?_ ?_; rotate_left
                   ·intro w'; go_simp; with_reducible rfl
                   rotate_left
                   ·simp only [Act.put, sA, sB, sC, i64_w, i32_w]; rfl
                   refine pure_ (i := 14) (N := some 63) (v := ?_) (a' := ?_) (Bs 15 44) rfl rfl (any_of HT_.out (by kernel_rfl)) (fun _ _ _ h => h) (Or.inl ⟨by rfl, ?_⟩) ?_ ?_; rotate_left
                   ·intro w'; go_simp; with_reducible rfl
                   rotate_left
                   ·simp only [Act.put, sA, sB, sC, i64_w, i32_w]; rfl
                   refine pure_ (i := 15) (N := some 64) (v := ?_) (a' := ?_) (Bs 16 44) rfl rfl (any_of HT_.out (by kernel_rfl)) (fun _ _ _ h => h) (Or.inl ⟨by rfl, ?_⟩) ?_ ?_; rotate_left
                   ·intro w'; go_simp; with_reducible rfl
                   rotate_left
                   ·simp only [Act.put, sA, sB, sC, i64_w, i32_w]; rfl
                   refine pure_ (i := 16) (N := some 65) (v := ?_) (a' := ?_) (Bs 17 44) rfl rfl (any_of HT_.out (by kernel_rfl)) (fun _ _ _ h => h) (Or.inl ⟨by rfl, ?_⟩) ?_ ?_; rotate_left
                   ·intro w'; go_simp; with_reducible rfl
                   rotate_left
                   ·simp only [Act.put, sA, sB, sC, i64_w, i32_w]; rfl
                   refine pure_ (i := 17) (N := some 66) (v := ?_) (a' := ?_) (Bs 18 44) rfl rfl (any_of HT_.out (by kernel_rfl)) (fun _ _ _ h => h) (Or.inl ⟨by rfl, ?_⟩) ?_ ?_; rotate_left
                   ·intro w'; go_simp; with_reducible rfl
                   rotate_left
                   ·simp only [Act.put, sA, sB, sC, i64_w, i32_w]; rfl
                   refine pure_ (i := 19) (N := some 68) (v := ?_) (a' := ?_) (Br [18,1,1,24]) rfl rfl (any_of HT_.out (by kernel_rfl)) (fun _ _ _ h => h) (Or.inl ⟨by rfl, ?_⟩) ?_ ?_; rotate_left
                   ·intro w'; go_simp; with_reducible rfl
                   rotate_left
                   ·simp only [Act.put, sA, sB, sC, i64_w, i32_w]; rfl
                   refine pure_ (i := 20) (N := some 69) (v := ?_) (a' := ?_) (Br [18,1,2,23]) rfl rfl (any_of HT_.out (by kernel_rfl)) (fun _ _ _ h => h) (Or.inl ⟨by rfl, ?_⟩) ?_ ?_; rotate_left
                   ·intro w'; go_simp; with_reducible rfl
                   rotate_left
                   ·simp only [Act.put, sA, sB, sC, i64_w, i32_w]; rfl
                   refine pure_ (i := 21) (N := some 70) (v := ?_) (a' := ?_) (Br [18,1,3,22]) rfl rfl (any_of HT_.out (by kernel_rfl)) (fun _ _ _ h => h) (Or.inl ⟨by rfl, ?_⟩) ?_ ?_; rotate_left
                   ·intro w'; go_simp; with_reducible rfl
                   rotate_left
                   ·simp only [Act.put, sA, sB, sC, i64_w, i32_w]; rfl
                   refine pure_ (i := 23) (N := some 72) (v := ?_) (a' := ?_) (Br [18,1,3,1,1,20]) rfl rfl (any_of HT_.out (by kernel_rfl)) (fun _ _ _ h => h) (Or.inl ⟨by rfl, ?_⟩) ?_ ?_; rotate_left
                   ·intro w'; go_simp; with_reducible rfl
                   rotate_left
                   ·simp only [Act.put, sA, sB, sC, i64_w, i32_w]; rfl
                   refine pure_ (i := 24) (N := some 73) (v := ?_) (a' := ?_) (Br [18,1,3,1,2,19]) rfl rfl (any_of HT_.out (by kernel_rfl)) (fun _ _ _ h => h) (Or.inl ⟨by rfl, ?_⟩) ?_ ?_; rotate_left
                   ·intro w'; go_simp; with_reducible rfl
                   rotate_left
                   ·simp only [Act.put, sA, sB, sC, i64_w, i32_w]; rfl
                   refine pure_ (i := 25) (N := some 74) (v := ?_) (a' := ?_) (Br [18,1,3,1,3,18]) rfl rfl (any_of HT_.out (by kernel_rfl)) (fun _ _ _ h => h) (Or.inl ⟨by rfl, ?_⟩) ?_ ?_; rotate_left
                   ·intro w'; go_simp; with_reducible rfl
                   rotate_left
                   ·simp only [Act.put, sA, sB, sC, i64_w, i32_w]; rfl
                   refine take_ (i := 18) (N := some 67) (v := ?_) (a' := ?_) (Br [22,1,3,18]) rfl rfl (take_ofW HT_.out HW_.out (by kernel_rfl)) (fun _ _ _ h => h) (Or.inl ⟨by rfl, ?_⟩) hHeld ?_ ?_; rotate_left
                   ·rintro w' ⟨s0, s1, s2, s3, s4, s5, s6, s7, s8, s9, s10, s11, s12, s13, s14, s15, s16, s17⟩; go_simp; with_reducible rfl
                   rotate_left
                   ·simp only [Act.put, sA, sB, sC, i64_w, i32_w]; rfl
                   refine take_ (i := 22) (N := some 71) (v := ?_) (a' := ?_) (Bs 26 44) rfl rfl (take_ofW HT_.out HW_.out (by kernel_rfl)) (fun _ _ _ h => h) (Or.inl ⟨by rfl, ?_⟩) hHeld ?_ ?_; rotate_left
                   ·rintro w' ⟨s0, s1, s2, s3, s4, s5, s6, s7, s8, s9, s10, s11, s12, s13, s14, s15, s16, s17⟩; go_simp; with_reducible rfl
                   rotate_left
                   ·simp only [Act.put, sA, sB, sC, i64_w, i32_w]; rfl
                   refine take_ (i := 26) (N := some 75) (v := ?_) (a' := ?_) (Bs 27 44) rfl rfl (take_ofW HT_.out HW_.out (by kernel_rfl)) (fun _ _ _ h => h) (Or.inl ⟨by rfl, ?_⟩) hHeld ?_ ?_; rotate_left
                   ·rintro w' ⟨s0, s1, s2, s3, s4, s5, s6, s7, s8, s9, s10, s11, s12, s13, s14, s15, s16, s17⟩; go_simp; with_reducible rfl
                   rotate_left
                   ·simp only [Act.put, sA, sB, sC, i64_w, i32_w]; rfl
                   refine one_ (i := 27) (N := some 76) (Bs 28 44) rfl rfl (one_of HT_.out (by kernel_rfl)) (by decide) (fun K hK => ?_)
                   refine goes_ Try.func59 (by kernel_rfl) rfl #[.agg #[.int .i64 ((rd_T31 l0 x5_3).f0), .int .i64 ((rd_T31 l0 x5_3).f1)], .agg #[.int .i64 ((rd_T31 l0 t264).f0), .int .i64 ((rd_T31 l0 t264).f1)], .agg #[.int .i64 ((rd_T31 l0 t265).f0), .int .i64 ((rd_T31 l0 t265).f1)]] (by rfl) rfl rfl (by (try simp only [List.map_toArray, List.map_cons, List.map_nil]); first | done | rfl | (simp only [List.length_drop, List.length_take]; rfl)) ?_
                   with_reducible refine (silversideref01_on.calls ((rd_T31 l0 x5_3).f0) ((rd_T31 l0 x5_3).f1) ((rd_T31 l0 t264).f0) ((rd_T31 l0 t264).f1) ((rd_T31 l0 t265).f0) ((rd_T31 l0 t265).f1) false _ A29.out).mono ?_
                   rintro e w37 ⟨rfl, hb⟩
                   refine ⟨_, rfl, ?_⟩
                   have n0_ := Aside0.mk (below_step (by repeat (first | (with_reducible first | exact HB.out | apply lA | apply lN | apply lD) | exact HB.out)) hb)
                   clear HB
                   have HB := n0_
                   clear n0_
                   (try clear hb)
                   (try clear hb2)
                   (try clear hk)
                   (try clear hi)
                   refine hK.out _ _ ⟨(cB HB.out hw266_0), (cB HB.out hw266_1), (cB HB.out hw267_0), (cB HB.out hw267_1), (cB HB.out hw268_0), (cB HB.out hw268_1), (cB HB.out hw270_0), (cB HB.out hw270_1), (cB HB.out hw271_0), (cB HB.out hw271_1), (cB HB.out hw272_0), (cB HB.out hw272_1), (cB HB.out hw274_0), (cB HB.out hw274_1), (cB HB.out hw275_0), (cB HB.out hw275_1), (cB HB.out hw276_0), (cB HB.out hw276_1)⟩ (fun hHeld => ?_)
                   clear hK K
                   refine norm_ (a' := ?_) ?_ ?_
                   rotate_left
                   ·show Act.put _ (some 76) _ = _
                    simp only [Act.put, sA, sB, sC, i64_w, i32_w]
                    rfl
                   refine pure_ (i := 28) (N := some 77) (v := ?_) (a' := ?_) (Bs 29 44) rfl rfl (any_of HT_.out (by kernel_rfl)) (fun _ _ _ h => h) (Or.inl ⟨by rfl, ?_⟩) ?_ ?_; rotate_left
                   ·intro w'; go_simp; with_reducible rfl
                   rotate_left
                   ·simp only [Act.put, sA, sB, sC, i64_w, i32_w]; rfl
                   refine pure_ (i := 29) (N := some 78) (v := ?_) (a' := ?_) (Bs 30 44) rfl rfl (any_of HT_.out (by kernel_rfl)) (fun _ _ _ h => h) (Or.inl ⟨by rfl, ?_⟩) ?_ ?_; rotate_left
                   ·intro w'; go_simp; with_reducible rfl
                   rotate_left
                   ·simp only [Act.put, sA, sB, sC, i64_w, i32_w]; rfl
                   refine pure_ (i := 30) (N := some 79) (v := ?_) (a' := ?_) (Bs 31 44) rfl rfl (any_of HT_.out (by kernel_rfl)) (fun _ _ _ h => h) (Or.inl ⟨by rfl, ?_⟩) ?_ ?_; rotate_left
                   ·intro w'; go_simp; with_reducible rfl
                   rotate_left
                   ·simp only [Act.put, sA, sB, sC, i64_w, i32_w]; rfl
                   refine pure_ (i := 31) (N := some 80) (v := ?_) (a' := ?_) (Bs 32 44) rfl rfl (any_of HT_.out (by kernel_rfl)) (fun _ _ _ h => h) (Or.inl ⟨by rfl, ?_⟩) ?_ ?_; rotate_left
                   ·intro w'; go_simp; with_reducible rfl
                   rotate_left
                   ·simp only [Act.put, sA, sB, sC, i64_w, i32_w]; rfl
                   refine pure_ (i := 33) (N := some 82) (v := ?_) (a' := ?_) (Br [32,1,1,10]) rfl rfl (any_of HT_.out (by kernel_rfl)) (fun _ _ _ h => h) (Or.inl ⟨by rfl, ?_⟩) ?_ ?_; rotate_left
                   ·intro w'; go_simp; with_reducible rfl
                   rotate_left
                   ·simp only [Act.put, sA, sB, sC, i64_w, i32_w]; rfl
                   refine pure_ (i := 34) (N := some 83) (v := ?_) (a' := ?_) (Br [32,1,2,9]) rfl rfl (any_of HT_.out (by kernel_rfl)) (fun _ _ _ h => h) (Or.inl ⟨by rfl, ?_⟩) ?_ ?_; rotate_left
                   ·intro w'; go_simp; with_reducible rfl
                   rotate_left
                   ·simp only [Act.put, sA, sB, sC, i64_w, i32_w]; rfl
                   refine pure_ (i := 35) (N := some 84) (v := ?_) (a' := ?_) (Br [32,1,3,8]) rfl rfl (any_of HT_.out (by kernel_rfl)) (fun _ _ _ h => h) (Or.inl ⟨by rfl, ?_⟩) ?_ ?_; rotate_left
                   ·intro w'; go_simp; with_reducible rfl
                   rotate_left
                   ·simp only [Act.put, sA, sB, sC, i64_w, i32_w]; rfl
                   refine pure_ (i := 37) (N := some 86) (v := ?_) (a' := ?_) (Br [32,1,3,1,1,6]) rfl rfl (any_of HT_.out (by kernel_rfl)) (fun _ _ _ h => h) (Or.inl ⟨by rfl, ?_⟩) ?_ ?_; rotate_left
                   ·intro w'; go_simp; with_reducible rfl
                   rotate_left
                   ·simp only [Act.put, sA, sB, sC, i64_w, i32_w]; rfl
                   refine pure_ (i := 38) (N := some 87) (v := ?_) (a' := ?_) (Br [32,1,3,1,2,5]) rfl rfl (any_of HT_.out (by kernel_rfl)) (fun _ _ _ h => h) (Or.inl ⟨by rfl, ?_⟩) ?_ ?_; rotate_left
                   ·intro w'; go_simp; with_reducible rfl
                   rotate_left
                   ·simp only [Act.put, sA, sB, sC, i64_w, i32_w]; rfl
                   refine pure_ (i := 39) (N := some 88) (v := ?_) (a' := ?_) (Br [32,1,3,1,3,4]) rfl rfl (any_of HT_.out (by kernel_rfl)) (fun _ _ _ h => h) (Or.inl ⟨by rfl, ?_⟩) ?_ ?_; rotate_left
                   ·intro w'; go_simp; with_reducible rfl
                   rotate_left
                   ·simp only [Act.put, sA, sB, sC, i64_w, i32_w]; rfl
                   refine take_ (i := 32) (N := some 81) (v := ?_) (a' := ?_) (Br [36,1,3,4]) rfl rfl (take_ofW HT_.out HW_.out (by kernel_rfl)) (fun _ _ _ h => h) (Or.inl ⟨by rfl, ?_⟩) hHeld ?_ ?_; rotate_left
                   ·rintro w' ⟨s0, s1, s2, s3, s4, s5, s6, s7, s8, s9, s10, s11, s12, s13, s14, s15, s16, s17⟩; go_simp; with_reducible rfl
                   rotate_left
                   ·simp only [Act.put, sA, sB, sC, i64_w, i32_w]; rfl
                   refine take_ (i := 36) (N := some 85) (v := ?_) (a' := ?_) (Bs 40 44) rfl rfl (take_ofW HT_.out HW_.out (by kernel_rfl)) (fun _ _ _ h => h) (Or.inl ⟨by rfl, ?_⟩) hHeld ?_ ?_; rotate_left
                   ·rintro w' ⟨s0, s1, s2, s3, s4, s5, s6, s7, s8, s9, s10, s11, s12, s13, s14, s15, s16, s17⟩; go_simp; with_reducible rfl
                   rotate_left
                   ·simp only [Act.put, sA, sB, sC, i64_w, i32_w]; rfl
                   refine take_ (i := 40) (N := some 89) (v := ?_) (a' := ?_) (Bs 41 44) rfl rfl (take_ofW HT_.out HW_.out (by kernel_rfl)) (fun _ _ _ h => h) (Or.inl ⟨by rfl, ?_⟩) hHeld ?_ ?_; rotate_left
                   ·rintro w' ⟨s0, s1, s2, s3, s4, s5, s6, s7, s8, s9, s10, s11, s12, s13, s14, s15, s16, s17⟩; go_simp; with_reducible rfl
                   rotate_left
                   ·simp only [Act.put, sA, sB, sC, i64_w, i32_w]; rfl
                   refine one_ (i := 41) (N := some 90) (Bs 42 44) rfl rfl (one_of HT_.out (by kernel_rfl)) (by decide) (fun K hK => ?_)
                   refine goes_ Try.func59 (by kernel_rfl) rfl #[.agg #[.int .i64 ((rd_T31 l0 t264).f0), .int .i64 ((rd_T31 l0 t264).f1)], .agg #[.int .i64 ((rd_T31 l0 t265).f0), .int .i64 ((rd_T31 l0 t265).f1)], .agg #[.int .i64 ((rd_T31 l0 x5_3).f0), .int .i64 ((rd_T31 l0 x5_3).f1)]] (by rfl) rfl rfl (by (try simp only [List.map_toArray, List.map_cons, List.map_nil]); first | done | rfl | (simp only [List.length_drop, List.length_take]; rfl)) ?_
                   with_reducible refine (silversideref01_on.calls ((rd_T31 l0 t264).f0) ((rd_T31 l0 t264).f1) ((rd_T31 l0 t265).f0) ((rd_T31 l0 t265).f1) ((rd_T31 l0 x5_3).f0) ((rd_T31 l0 x5_3).f1) t277 _ A34.out).mono ?_
                   rintro e w38 ⟨rfl, hb⟩
                   refine ⟨_, rfl, ?_⟩
                   have n0_ := Aside0.mk (below_step (by repeat (first | (with_reducible first | exact HB.out | apply lA | apply lN | apply lD) | exact HB.out)) hb)
                   clear HB
                   have HB := n0_
                   clear n0_
                   (try clear hb)
                   (try clear hb2)
                   (try clear hk)
                   (try clear hi)
                   refine hK.out _ _ ⟨(cB HB.out hw266_0), (cB HB.out hw266_1), (cB HB.out hw267_0), (cB HB.out hw267_1), (cB HB.out hw268_0), (cB HB.out hw268_1), (cB HB.out hw270_0), (cB HB.out hw270_1), (cB HB.out hw271_0), (cB HB.out hw271_1), (cB HB.out hw272_0), (cB HB.out hw272_1), (cB HB.out hw274_0), (cB HB.out hw274_1), (cB HB.out hw275_0), (cB HB.out hw275_1), (cB HB.out hw276_0), (cB HB.out hw276_1)⟩ (fun hHeld => ?_)
                   clear hK K
                   refine norm_ (a' := ?_) ?_ ?_
                   rotate_left
                   ·show Act.put _ (some 90) _ = _
                    simp only [Act.put, sA, sB, sC, i64_w, i32_w]
                    rfl
                   refine pure_ (i := 42) (N := some 91) (v := ?_) (a' := ?_) (Bs 43 44) rfl rfl (any_of HT_.out (by kernel_rfl)) (fun _ _ _ h => h) (Or.inl ⟨by rfl, ?_⟩) ?_ ?_; rotate_left
                   ·intro w'; go_simp; with_reducible rfl
                   rotate_left
                   ·simp only [Act.put, sA, sB, sC, i64_w, i32_w]; rfl
                   refine pure_ (i := 43) (N := some 92) (v := ?_) (a' := ?_) (Bs 44 44) rfl rfl (any_of HT_.out (by kernel_rfl)) (fun _ _ _ h => h) (Or.inl ⟨by rfl, ?_⟩) ?_ ?_; rotate_left
                   ·intro w'; go_simp; with_reducible rfl
                   rotate_left
                   ·simp only [Act.put, sA, sB, sC, i64_w, i32_w]; rfl
                   refine done_ (done_of HT_.out (by kernel_rfl)) ?_
                   try go_wp2
                   go_meet
                   case rel => exact ⟨_, (t277), (by first | rfl | (simp; done) | (simp [*]; done)), H', ⟨by have := HJ1.out; have := HK2.out; have := HK3.out; first | omega | exact Nat.le_refl _⟩, ⟨by repeat (first | (with_reducible first | exact HB.out | apply lA | apply lN | apply lD) | exact HB.out)⟩⟩
                 ·rw [if_neg c28] at H
                  have c28b0 : (t269 == 0) = false := beq_eq_false_iff_ne.mpr c28
                  have c28b1 : (t269 != 0) = true := bne_iff_ne.mpr c28
                  have H' := Aside0.mk H
                  clear H
                  try go_wp2
                  have n0_ := Aside0.mk (lD HB.out)
                  clear HB
                  have HB := n0_
                  clear n0_
                  have p266 : 0 ≤ (x5_3 : Int) := of_decide_eq_true (by first | (with_reducible assumption) | assumption)
                  have q266 : x5_3 < (l0.length : Int) := of_decide_eq_true (by first | (with_reducible assumption) | assumption)
                  obtain ⟨ad266, e266, hx266_0, hx266_1⟩ := at_T31 HR0.out x5_3 p266 q266
                  have hw266_1 := hx266_1
                  have hw266_0 := hx266_0
                  cases e266
                  replace hx266_0 := cB HB.out hx266_0
                  replace hx266_1 := cB HB.out hx266_1
                  replace p266 := eq_true p266
                  replace q266 := eq_true q266
                  have p267 : 0 ≤ (t264 : Int) := of_decide_eq_true (by first | (with_reducible assumption) | assumption)
                  have q267 : t264 < (l0.length : Int) := of_decide_eq_true (by first | (with_reducible assumption) | assumption)
                  obtain ⟨ad267, e267, hx267_0, hx267_1⟩ := at_T31 HR0.out t264 p267 q267
                  have hw267_1 := hx267_1
                  have hw267_0 := hx267_0
                  obtain rfl : ad266 = ad267 := (by injection e267)
                  replace hx267_0 := cB HB.out hx267_0
                  replace hx267_1 := cB HB.out hx267_1
                  replace p267 := eq_true p267
                  replace q267 := eq_true q267
                  have p268 : 0 ≤ (t265 : Int) := of_decide_eq_true (by first | (with_reducible assumption) | assumption)
                  have q268 : t265 < (l0.length : Int) := of_decide_eq_true (by first | (with_reducible assumption) | assumption)
                  obtain ⟨ad268, e268, hx268_0, hx268_1⟩ := at_T31 HR0.out t265 p268 q268
                  have hw268_1 := hx268_1
                  have hw268_0 := hx268_0
                  obtain rfl : ad266 = ad268 := (by injection e268)
                  replace hx268_0 := cB HB.out hx268_0
                  replace hx268_1 := cB HB.out hx268_1
                  replace p268 := eq_true p268
                  replace q268 := eq_true q268
                  refine start_ (n := 44) (S := fun w' => w'.cell? (ad266.add ((x5_3).toNat * 2)) = some (.int .i64 ((rd_T31 l0 x5_3).f0)) ∧ w'.cell? ⟨(ad266.add ((x5_3).toNat * 2)).block, (ad266.add ((x5_3).toNat * 2)).off + 1, none⟩ = some (.int .i64 ((rd_T31 l0 x5_3).f1)) ∧ w'.cell? (ad266.add ((t264).toNat * 2)) = some (.int .i64 ((rd_T31 l0 t264).f0)) ∧ w'.cell? ⟨(ad266.add ((t264).toNat * 2)).block, (ad266.add ((t264).toNat * 2)).off + 1, none⟩ = some (.int .i64 ((rd_T31 l0 t264).f1)) ∧ w'.cell? (ad266.add ((t265).toNat * 2)) = some (.int .i64 ((rd_T31 l0 t265).f0)) ∧ w'.cell? ⟨(ad266.add ((t265).toNat * 2)).block, (ad266.add ((t265).toNat * 2)).off + 1, none⟩ = some (.int .i64 ((rd_T31 l0 t265).f1))) (ds := []) (Bs 0 44) (by kernel_rfl) rfl rfl ⟨(cB HB.out hw266_0), (cB HB.out hw266_1), (cB HB.out hw267_0), (cB HB.out hw267_1), (cB HB.out hw268_0), (cB HB.out hw268_1)⟩ (fun hHeld => ?_); refine with_tabW silversideref01_Simple.tab14 silversideref01_Simple.bits14 (fun HT_ HW_ => ?_)
                  replace HB := Aside0.mk (show Below w.heap.size w (wr.drewN (ndA + ndB)).drew from ⟨HB.out.os, HB.out.tape, HB.out.output, HB.out.size, HB.out.block⟩)
                  replace hx266_0 := (show World.cell? (wr.drewN (ndA + ndB)).drew _ = _ from hx266_0)
                  replace hx266_1 := (show World.cell? (wr.drewN (ndA + ndB)).drew _ = _ from hx266_1)
                  replace hx267_0 := (show World.cell? (wr.drewN (ndA + ndB)).drew _ = _ from hx267_0)
                  replace hx267_1 := (show World.cell? (wr.drewN (ndA + ndB)).drew _ = _ from hx267_1)
                  replace hx268_0 := (show World.cell? (wr.drewN (ndA + ndB)).drew _ = _ from hx268_0)
                  replace hx268_1 := (show World.cell? (wr.drewN (ndA + ndB)).drew _ = _ from hx268_1)
                  generalize (wr.drewN (ndA + ndB)).drew = w39 at HB hx266_0 hx266_1 hx267_0 hx267_1 hx268_0 hx268_1 hHeld ⊢
                  refine pure_ (i := 0) (N := some 49) (v := ?_) (a' := ?_) (Bs 1 44) rfl rfl (any_of HT_.out (by kernel_rfl)) (fun _ _ _ h => h) (Or.inl ⟨by rfl, ?_⟩) ?_ ?_; rotate_left
                  ·intro w'; go_simp; with_reducible rfl
                  rotate_left
                  ·simp only [Act.put, sA, sB, sC, i64_w, i32_w]; rfl
                  refine pure_ (i := 1) (N := some 50) (v := ?_) (a' := ?_) (Bs 2 44) rfl rfl (any_of HT_.out (by kernel_rfl)) (fun _ _ _ h => h) (Or.inl ⟨by rfl, ?_⟩) ?_ ?_; rotate_left
                  ·intro w'; go_simp; with_reducible rfl
                  rotate_left
                  ·simp only [Act.put, sA, sB, sC, i64_w, i32_w]; rfl
                  refine pure_ (i := 2) (N := some 51) (v := ?_) (a' := ?_) (Bs 3 44) rfl rfl (any_of HT_.out (by kernel_rfl)) (fun _ _ _ h => h) (Or.inl ⟨by rfl, ?_⟩) ?_ ?_; rotate_left
                  ·intro w'; go_simp; with_reducible rfl
                  rotate_left
                  ·simp only [Act.put, sA, sB, sC, i64_w, i32_w]; rfl
                  refine pure_ (i := 4) (N := some 53) (v := ?_) (a' := ?_) (Br [3,1,1,39]) rfl rfl (any_of HT_.out (by kernel_rfl)) (fun _ _ _ h => h) (Or.inl ⟨by rfl, ?_⟩) ?_ ?_; rotate_left
                  ·intro w'; go_simp; with_reducible rfl
                  rotate_left
                  ·simp only [Act.put, sA, sB, sC, i64_w, i32_w]; rfl
                  refine pure_ (i := 5) (N := some 54) (v := ?_) (a' := ?_) (Br [3,1,2,38]) rfl rfl (any_of HT_.out (by kernel_rfl)) (fun _ _ _ h => h) (Or.inl ⟨by rfl, ?_⟩) ?_ ?_; rotate_left
                  ·intro w'; go_simp; with_reducible rfl
                  rotate_left
                  ·simp only [Act.put, sA, sB, sC, i64_w, i32_w]; rfl
                  refine pure_ (i := 6) (N := some 55) (v := ?_) (a' := ?_) (Br [3,1,3,37]) rfl rfl (any_of HT_.out (by kernel_rfl)) (fun _ _ _ h => h) (Or.inl ⟨by rfl, ?_⟩) ?_ ?_; rotate_left
                  ·intro w'; go_simp; with_reducible rfl
                  rotate_left
                  ·simp only [Act.put, sA, sB, sC, i64_w, i32_w]; rfl
                  refine pure_ (i := 8) (N := some 57) (v := ?_) (a' := ?_) (Br [3,1,3,1,1,35]) rfl rfl (any_of HT_.out (by kernel_rfl)) (fun _ _ _ h => h) (Or.inl ⟨by rfl, ?_⟩) ?_ ?_; rotate_left
                  ·intro w'; go_simp; with_reducible rfl
                  rotate_left
                  ·simp only [Act.put, sA, sB, sC, i64_w, i32_w]; rfl
                  refine pure_ (i := 9) (N := some 58) (v := ?_) (a' := ?_) (Br [3,1,3,1,2,34]) rfl rfl (any_of HT_.out (by kernel_rfl)) (fun _ _ _ h => h) (Or.inl ⟨by rfl, ?_⟩) ?_ ?_; rotate_left
                  ·intro w'; go_simp; with_reducible rfl
                  rotate_left
                  ·simp only [Act.put, sA, sB, sC, i64_w, i32_w]; rfl
                  refine pure_ (i := 10) (N := some 59) (v := ?_) (a' := ?_) (Br [3,1,3,1,3,33]) rfl rfl (any_of HT_.out (by kernel_rfl)) (fun _ _ _ h => h) (Or.inl ⟨by rfl, ?_⟩) ?_ ?_; rotate_left
                  ·intro w'; go_simp; with_reducible rfl
                  rotate_left
                  ·simp only [Act.put, sA, sB, sC, i64_w, i32_w]; rfl
                  refine take_ (i := 3) (N := some 52) (v := ?_) (a' := ?_) (Br [7,1,3,33]) rfl rfl (take_ofW HT_.out HW_.out (by kernel_rfl)) (fun _ _ _ h => h) (Or.inl ⟨by rfl, ?_⟩) hHeld ?_ ?_; rotate_left
                  ·rintro w' ⟨s0, s1, s2, s3, s4, s5⟩; go_simp; with_reducible rfl
                  rotate_left
                  ·simp only [Act.put, sA, sB, sC, i64_w, i32_w]; rfl
                  refine take_ (i := 7) (N := some 56) (v := ?_) (a' := ?_) (Bs 11 44) rfl rfl (take_ofW HT_.out HW_.out (by kernel_rfl)) (fun _ _ _ h => h) (Or.inl ⟨by rfl, ?_⟩) hHeld ?_ ?_; rotate_left
                  ·rintro w' ⟨s0, s1, s2, s3, s4, s5⟩; go_simp; with_reducible rfl
                  rotate_left
                  ·simp only [Act.put, sA, sB, sC, i64_w, i32_w]; rfl
                  refine take_ (i := 11) (N := some 60) (v := ?_) (a' := ?_) (Bs 12 44) rfl rfl (take_ofW HT_.out HW_.out (by kernel_rfl)) (fun _ _ _ h => h) (Or.inl ⟨by rfl, ?_⟩) hHeld ?_ ?_; rotate_left
                  ·rintro w' ⟨s0, s1, s2, s3, s4, s5⟩; go_simp; with_reducible rfl
                  rotate_left
                  ·simp only [Act.put, sA, sB, sC, i64_w, i32_w]; rfl
                  refine one_ (i := 12) (N := some 61) (Bs 13 44) rfl rfl (one_of HT_.out (by kernel_rfl)) (by decide) (fun K hK => ?_)
                  refine goes_ Try.func31 (by kernel_rfl) rfl #[.agg #[.int .i64 ((rd_T31 l0 x5_3).f0), .int .i64 ((rd_T31 l0 x5_3).f1)], .agg #[.int .i64 ((rd_T31 l0 t264).f0), .int .i64 ((rd_T31 l0 t264).f1)], .agg #[.int .i64 ((rd_T31 l0 t265).f0), .int .i64 ((rd_T31 l0 t265).f1)]] (by rfl) rfl rfl (by (try simp only [List.map_toArray, List.map_cons, List.map_nil]); first | done | rfl | (simp only [List.length_drop, List.length_take]; rfl)) ?_
                  with_reducible refine (silversideref01_Turn.calls ((rd_T31 l0 x5_3).f0) ((rd_T31 l0 x5_3).f1) ((rd_T31 l0 t264).f0) ((rd_T31 l0 t264).f1) ((rd_T31 l0 t265).f0) ((rd_T31 l0 t265).f1) t269 _ A27.out).mono ?_
                  rintro e w40 ⟨rfl, hb⟩
                  refine ⟨_, rfl, ?_⟩
                  have n0_ := Aside0.mk (below_step (by repeat (first | (with_reducible first | exact HB.out | apply lA | apply lN | apply lD) | exact HB.out)) hb)
                  clear HB
                  have HB := n0_
                  clear n0_
                  (try clear hb)
                  (try clear hb2)
                  (try clear hk)
                  (try clear hi)
                  refine hK.out _ _ ⟨(cB HB.out hw266_0), (cB HB.out hw266_1), (cB HB.out hw267_0), (cB HB.out hw267_1), (cB HB.out hw268_0), (cB HB.out hw268_1)⟩ (fun hHeld => ?_)
                  clear hK K
                  refine norm_ (a' := ?_) ?_ ?_
                  rotate_left
                  ·show Act.put _ (some 61) _ = _
                   simp only [Act.put, sA, sB, sC, i64_w, i32_w]
                   rfl
                  refine pure_ (i := 13) (N := some 62) (v := ?_) (a' := ?_) (Bs 14 44) rfl rfl (any_of HT_.out (by kernel_rfl)) (fun _ _ _ h => h) (Or.inl ⟨by rfl, ?_⟩) ?_ ?_; rotate_left
                  ·intro w'; go_simp; with_reducible rfl
                  rotate_left
                  ·simp only [Act.put, sA, sB, sC, i64_w, i32_w]; rfl
                  refine pure_ (i := 14) (N := some 63) (v := ?_) (a' := ?_) (Bs 15 44) rfl rfl (any_of HT_.out (by kernel_rfl)) (fun _ _ _ h => h) (Or.inl ⟨by rfl, ?_⟩) ?_ ?_; rotate_left
                  ·intro w'; go_simp; with_reducible rfl
                  rotate_left
                  ·simp only [Act.put, sA, sB, sC, i64_w, i32_w]; rfl
                  refine pure_ (i := 15) (N := some 64) (v := undef) (a' := ?_) (Bs 16 44) rfl rfl (any_of HT_.out (by kernel_rfl)) (fun _ _ _ h => h) (Or.inr ⟨by rfl, rfl⟩) ?_ ?_; rotate_left
                  ·simp only [Act.put, sA, sB, sC, i64_w, i32_w]; rfl
                  refine pure_ (i := 16) (N := some 65) (v := undef) (a' := ?_) (Bs 17 44) rfl rfl (any_of HT_.out (by kernel_rfl)) (fun _ _ _ h => h) (Or.inr ⟨by rfl, rfl⟩) ?_ ?_; rotate_left
                  ·simp only [Act.put, sA, sB, sC, i64_w, i32_w]; rfl
                  refine pure_ (i := 17) (N := some 66) (v := undef) (a' := ?_) (Bs 18 44) rfl rfl (any_of HT_.out (by kernel_rfl)) (fun _ _ _ h => h) (Or.inr ⟨by rfl, rfl⟩) ?_ ?_; rotate_left
                  ·simp only [Act.put, sA, sB, sC, i64_w, i32_w]; rfl
                  refine pure_ (i := 18) (N := some 67) (v := undef) (a' := ?_) (Bs 19 44) rfl rfl (any_of HT_.out (by kernel_rfl)) (fun _ _ _ h => h) (Or.inr ⟨by rfl, rfl⟩) ?_ ?_; rotate_left
                  ·simp only [Act.put, sA, sB, sC, i64_w, i32_w]; rfl
                  refine pure_ (i := 19) (N := some 68) (v := undef) (a' := ?_) (Bs 20 44) rfl rfl (any_of HT_.out (by kernel_rfl)) (fun _ _ _ h => h) (Or.inr ⟨by rfl, rfl⟩) ?_ ?_; rotate_left
                  ·simp only [Act.put, sA, sB, sC, i64_w, i32_w]; rfl
                  refine pure_ (i := 20) (N := some 69) (v := undef) (a' := ?_) (Bs 21 44) rfl rfl (any_of HT_.out (by kernel_rfl)) (fun _ _ _ h => h) (Or.inr ⟨by rfl, rfl⟩) ?_ ?_; rotate_left
                  ·simp only [Act.put, sA, sB, sC, i64_w, i32_w]; rfl
                  refine pure_ (i := 21) (N := some 70) (v := undef) (a' := ?_) (Bs 22 44) rfl rfl (any_of HT_.out (by kernel_rfl)) (fun _ _ _ h => h) (Or.inr ⟨by rfl, rfl⟩) ?_ ?_; rotate_left
                  ·simp only [Act.put, sA, sB, sC, i64_w, i32_w]; rfl
                  refine pure_ (i := 22) (N := some 71) (v := undef) (a' := ?_) (Bs 23 44) rfl rfl (any_of HT_.out (by kernel_rfl)) (fun _ _ _ h => h) (Or.inr ⟨by rfl, rfl⟩) ?_ ?_; rotate_left
                  ·simp only [Act.put, sA, sB, sC, i64_w, i32_w]; rfl
                  refine pure_ (i := 23) (N := some 72) (v := undef) (a' := ?_) (Bs 24 44) rfl rfl (any_of HT_.out (by kernel_rfl)) (fun _ _ _ h => h) (Or.inr ⟨by rfl, rfl⟩) ?_ ?_; rotate_left
                  ·simp only [Act.put, sA, sB, sC, i64_w, i32_w]; rfl
                  refine pure_ (i := 24) (N := some 73) (v := undef) (a' := ?_) (Bs 25 44) rfl rfl (any_of HT_.out (by kernel_rfl)) (fun _ _ _ h => h) (Or.inr ⟨by rfl, rfl⟩) ?_ ?_; rotate_left
                  ·simp only [Act.put, sA, sB, sC, i64_w, i32_w]; rfl
                  refine pure_ (i := 25) (N := some 74) (v := undef) (a' := ?_) (Bs 26 44) rfl rfl (any_of HT_.out (by kernel_rfl)) (fun _ _ _ h => h) (Or.inr ⟨by rfl, rfl⟩) ?_ ?_; rotate_left
                  ·simp only [Act.put, sA, sB, sC, i64_w, i32_w]; rfl
                  refine pure_ (i := 26) (N := some 75) (v := undef) (a' := ?_) (Bs 27 44) rfl rfl (any_of HT_.out (by kernel_rfl)) (fun _ _ _ h => h) (Or.inr ⟨by rfl, rfl⟩) ?_ ?_; rotate_left
                  ·simp only [Act.put, sA, sB, sC, i64_w, i32_w]; rfl
                  refine pure_ (i := 27) (N := some 76) (v := undef) (a' := ?_) (Bs 28 44) rfl rfl (any_of HT_.out (by kernel_rfl)) (fun _ _ _ h => h) (Or.inr ⟨by rfl, rfl⟩) ?_ ?_; rotate_left
                  ·simp only [Act.put, sA, sB, sC, i64_w, i32_w]; rfl
                  refine pure_ (i := 28) (N := some 77) (v := undef) (a' := ?_) (Bs 29 44) rfl rfl (any_of HT_.out (by kernel_rfl)) (fun _ _ _ h => h) (Or.inr ⟨by rfl, rfl⟩) ?_ ?_; rotate_left
                  ·simp only [Act.put, sA, sB, sC, i64_w, i32_w]; rfl
                  refine pure_ (i := 29) (N := some 78) (v := undef) (a' := ?_) (Bs 30 44) rfl rfl (any_of HT_.out (by kernel_rfl)) (fun _ _ _ h => h) (Or.inr ⟨by rfl, rfl⟩) ?_ ?_; rotate_left
                  ·simp only [Act.put, sA, sB, sC, i64_w, i32_w]; rfl
                  refine pure_ (i := 30) (N := some 79) (v := undef) (a' := ?_) (Bs 31 44) rfl rfl (any_of HT_.out (by kernel_rfl)) (fun _ _ _ h => h) (Or.inr ⟨by rfl, rfl⟩) ?_ ?_; rotate_left
                  ·simp only [Act.put, sA, sB, sC, i64_w, i32_w]; rfl
                  refine pure_ (i := 31) (N := some 80) (v := undef) (a' := ?_) (Bs 32 44) rfl rfl (any_of HT_.out (by kernel_rfl)) (fun _ _ _ h => h) (Or.inr ⟨by rfl, rfl⟩) ?_ ?_; rotate_left
                  ·simp only [Act.put, sA, sB, sC, i64_w, i32_w]; rfl
                  refine pure_ (i := 32) (N := some 81) (v := undef) (a' := ?_) (Bs 33 44) rfl rfl (any_of HT_.out (by kernel_rfl)) (fun _ _ _ h => h) (Or.inr ⟨by rfl, rfl⟩) ?_ ?_; rotate_left
                  ·simp only [Act.put, sA, sB, sC, i64_w, i32_w]; rfl
                  refine pure_ (i := 33) (N := some 82) (v := undef) (a' := ?_) (Bs 34 44) rfl rfl (any_of HT_.out (by kernel_rfl)) (fun _ _ _ h => h) (Or.inr ⟨by rfl, rfl⟩) ?_ ?_; rotate_left
                  ·simp only [Act.put, sA, sB, sC, i64_w, i32_w]; rfl
                  refine pure_ (i := 34) (N := some 83) (v := undef) (a' := ?_) (Bs 35 44) rfl rfl (any_of HT_.out (by kernel_rfl)) (fun _ _ _ h => h) (Or.inr ⟨by rfl, rfl⟩) ?_ ?_; rotate_left
                  ·simp only [Act.put, sA, sB, sC, i64_w, i32_w]; rfl
                  refine pure_ (i := 35) (N := some 84) (v := undef) (a' := ?_) (Bs 36 44) rfl rfl (any_of HT_.out (by kernel_rfl)) (fun _ _ _ h => h) (Or.inr ⟨by rfl, rfl⟩) ?_ ?_; rotate_left
                  ·simp only [Act.put, sA, sB, sC, i64_w, i32_w]; rfl
                  refine pure_ (i := 36) (N := some 85) (v := undef) (a' := ?_) (Bs 37 44) rfl rfl (any_of HT_.out (by kernel_rfl)) (fun _ _ _ h => h) (Or.inr ⟨by rfl, rfl⟩) ?_ ?_; rotate_left
                  ·simp only [Act.put, sA, sB, sC, i64_w, i32_w]; rfl
                  refine pure_ (i := 37) (N := some 86) (v := undef) (a' := ?_) (Bs 38 44) rfl rfl (any_of HT_.out (by kernel_rfl)) (fun _ _ _ h => h) (Or.inr ⟨by rfl, rfl⟩) ?_ ?_; rotate_left
                  ·simp only [Act.put, sA, sB, sC, i64_w, i32_w]; rfl
                  refine pure_ (i := 38) (N := some 87) (v := undef) (a' := ?_) (Bs 39 44) rfl rfl (any_of HT_.out (by kernel_rfl)) (fun _ _ _ h => h) (Or.inr ⟨by rfl, rfl⟩) ?_ ?_; rotate_left
                  ·simp only [Act.put, sA, sB, sC, i64_w, i32_w]; rfl
                  refine pure_ (i := 39) (N := some 88) (v := undef) (a' := ?_) (Bs 40 44) rfl rfl (any_of HT_.out (by kernel_rfl)) (fun _ _ _ h => h) (Or.inr ⟨by rfl, rfl⟩) ?_ ?_; rotate_left
                  ·simp only [Act.put, sA, sB, sC, i64_w, i32_w]; rfl
                  refine pure_ (i := 40) (N := some 89) (v := undef) (a' := ?_) (Bs 41 44) rfl rfl (any_of HT_.out (by kernel_rfl)) (fun _ _ _ h => h) (Or.inr ⟨by rfl, rfl⟩) ?_ ?_; rotate_left
                  ·simp only [Act.put, sA, sB, sC, i64_w, i32_w]; rfl
                  refine pure_ (i := 41) (N := some 90) (v := undef) (a' := ?_) (Bs 42 44) rfl rfl (any_of HT_.out (by kernel_rfl)) (fun _ _ _ h => h) (Or.inr ⟨by rfl, rfl⟩) ?_ ?_; rotate_left
                  ·simp only [Act.put, sA, sB, sC, i64_w, i32_w]; rfl
                  refine pure_ (i := 42) (N := some 91) (v := undef) (a' := ?_) (Bs 43 44) rfl rfl (any_of HT_.out (by kernel_rfl)) (fun _ _ _ h => h) (Or.inr ⟨by rfl, rfl⟩) ?_ ?_; rotate_left
                  ·simp only [Act.put, sA, sB, sC, i64_w, i32_w]; rfl
                  refine pure_ (i := 43) (N := some 92) (v := ?_) (a' := ?_) (Bs 44 44) rfl rfl (any_of HT_.out (by kernel_rfl)) (fun _ _ _ h => h) (Or.inl ⟨by rfl, ?_⟩) ?_ ?_; rotate_left
                  ·intro w'; go_simp; with_reducible rfl
                  rotate_left
                  ·simp only [Act.put, sA, sB, sC, i64_w, i32_w]; rfl
                  refine done_ (done_of HT_.out (by kernel_rfl)) ?_
                  try go_wp2
                  go_meet
                  case rel => exact ⟨_, (false), (by first | rfl | (simp; done) | (simp [*]; done)), H', ⟨by have := HJ1.out; have := HK2.out; have := HK3.out; first | omega | exact Nat.le_refl _⟩, ⟨by repeat (first | (with_reducible first | exact HB.out | apply lA | apply lN | apply lD) | exact HB.out)⟩⟩
                ·rw [if_neg c26] at H
                 exact absurd H (by simp)
               ·rw [if_neg c25] at H
                exact absurd H (by simp)
              ·rw [if_neg c24] at H
               exact absurd H (by simp)
             ·rw [if_neg c23] at H
              exact absurd H (by simp)
            ·rw [if_neg c22] at H
             exact absurd H (by simp)
           ·rw [if_neg c21] at H
            exact absurd H (by simp)
          case rest =>
           clear HC20
           try clear c2
           try clear p2
           try clear q2
           try clear hx2
           try clear c3
           try clear c5
           try clear c21
           try clear c22
           try clear c23
           try clear c24
           try clear c25
           try clear c26
           try clear p26
           try clear q26
           try clear hx26
           try clear c28
           try clear c28b0
           try clear c28b1
           try clear c31
           try clear hx266_0
           try clear hx266_1
           try clear hx267_0
           try clear hx267_1
           try clear hx268_0
           try clear hx268_1
           try clear p266
           try clear p267
           try clear p268
           try clear q266
           try clear q267
           try clear q268
           obtain ⟨kq, x92_19, rfl, HA, HJ19, HB⟩ := hcut
           cases kq with
           | zero => exact absurd HA.out (by simp [silversideref01_Simple.j3])
           | succ kj19 =>
            have H := HA.out
            clear HA
            simp only [silversideref01_Simple.j3] at H
            by_cases c41 : x92_19 = true
            ·subst c41
             have H1 : (some false) = some r := by rw [if_pos rfl] at H; exact H
             clear H
             have H := H1
             clear H1
             obtain rfl := Option.some.inj H
             go_wp2
             go_ret
             exact ⟨by first | rfl | (simp [errW_none, errW_some] <;> rfl) | (simp [*, errW_none, errW_some] <;> rfl), by repeat (first | (with_reducible first | exact HB.out | apply lA | apply lN | apply lD) | exact HB.out)⟩
            ·replace c41 := Bool.eq_false_iff.mpr c41
             subst c41
             have H1 : (silversideref01_Simple.l2 kj19 l0 (l0.length : Int) x5_3 t264 (wrap64 (x5_3 + 2))) = some r := by rw [if_neg (show ¬ (false = true) by decide)] at H; exact H
             clear H
             have H := H1
             clear H1
             have H' := Aside0.mk H
             clear H
             go_wp2
             go_loopg [8] kj19 (fun kq v8 w' => ∃ (x8_5 : Int), v8 = .int .i64 x8_5 ∧ Aside0 (silversideref01_Simple.l2 kq l0 (l0.length : Int) x5_3 t264 x8_5 = some r) ∧ Aside0 (kq ≤ kj19) ∧ Aside0 (Below w.heap.size w w'))
             case atStart => exact ⟨(wrap64 (x5_3 + 2)), (by first | rfl | (simp; done) | (simp [*]; done)), H', ⟨Nat.le_refl _⟩, ⟨by repeat (first | (with_reducible first | exact HB.out | apply lA | apply lN | apply lD) | exact HB.out)⟩⟩
             case round =>
              clear H'
              try clear c2
              try clear p2
              try clear q2
              try clear hx2
              try clear c3
              try clear c4
              try clear c5
              try clear p6
              try clear c21
              try clear c22
              try clear c23
              try clear c24
              try clear c25
              try clear c26
              try clear p26
              try clear q26
              try clear hx26
              try clear c28
              try clear c28b0
              try clear c28b1
              try clear c31
              try clear c41
              try clear hx266_0
              try clear hx266_1
              try clear hx267_0
              try clear hx267_1
              try clear hx268_0
              try clear hx268_1
              try clear p2
              try clear p26
              try clear p266
              try clear p267
              try clear p268
              try clear q2
              try clear q26
              try clear q266
              try clear q267
              try clear q268
              obtain ⟨x8_5, rfl, HA, HK5, HB⟩ := hrel
              cases gk with
              | zero => exact absurd HA.out (by simp [silversideref01_Simple.l2])
              | succ k5 =>
               have H := HA.out
               clear HA
               simp only [silversideref01_Simple.l2] at H
               by_cases c42 : x8_5 < (l0.length : Int)
               ·rw [if_pos c42] at H
                have c42b0 : decide (x8_5 < (l0.length : Int)) = true := decide_eq_true c42
                clear c42
                replace H := Option.bind_eq_some_iff.mp H
                obtain ⟨t278, A430, H⟩ := H
                replace H : (if t278 = x5_3 then (silversideref01_Simple.l2 k5 l0 (l0.length : Int) x5_3 t264 (wrap64 (x8_5 + 1))) else (if 0 ≤ x5_3 then (if x5_3 < (l0.length : Int) then (if 0 ≤ t264 then (if t264 < (l0.length : Int) then (if 0 ≤ x8_5 then (if x8_5 < (l0.length : Int) then ((silversideref01_next.f x8_5 (l0.length : Int)).bind fun t282 => (if 0 ≤ t282 then (if t282 < (l0.length : Int) then ((silversideref01_meet.f k5 ((rd_T31 l0 x5_3).f0) ((rd_T31 l0 x5_3).f1) ((rd_T31 l0 t264).f0) ((rd_T31 l0 t264).f1) ((rd_T31 l0 x8_5).f0) ((rd_T31 l0 x8_5).f1) ((rd_T31 l0 t282).f0) ((rd_T31 l0 t282).f1)).bind fun t284 => (if t284 = true then (some false) else (silversideref01_Simple.l2 k5 l0 (l0.length : Int) x5_3 t264 (wrap64 (x8_5 + 1))))) else (none)) else (none))) else (none)) else (none)) else (none)) else (none)) else (none)) else (none))) = some r := H
                have A43 := Aside0.mk A430
                clear A430
                by_cases c44 : t278 = x5_3
                ·rw [if_pos c44] at H
                 have c44b0 : (t278 == x5_3) = true := beq_iff_eq.mpr c44
                 have c44b1 : (t278 != x5_3) = false := bne_eq_false_iff_eq.mpr c44
                 clear c44
                 have H' := Aside0.mk H
                 clear H
                 try go_wp2
                 have n0_ := Aside0.mk (lD HB.out)
                 clear HB
                 have HB := n0_
                 clear n0_
                 refine start_ (n := 26) (S := fun w' => True) (ds := []) (Bs 0 26) (by kernel_rfl) rfl rfl trivial (fun hHeld => ?_); refine with_tabW silversideref01_Simple.tab19 silversideref01_Simple.bits19 (fun HT_ HW_ => ?_)
                 generalize wr.drew = w45 at HB hHeld ⊢
                 refine pure_ (i := 0) (N := some 100) (v := ?_) (a' := ?_) (Bs 1 26) rfl rfl (any_of HT_.out (by kernel_rfl)) (fun _ _ _ h => h) (Or.inl ⟨by rfl, ?_⟩) ?_ ?_; rotate_left
                 ·intro w'; go_simp; with_reducible rfl
                 rotate_left
                 ·simp only [Act.put, sA, sB, sC, i64_w, i32_w]; rfl
                 refine pure_ (i := 1) (N := some 101) (v := ?_) (a' := ?_) (Bs 2 26) rfl rfl (any_of HT_.out (by kernel_rfl)) (fun _ _ _ h => h) (Or.inl ⟨by rfl, ?_⟩) ?_ ?_; rotate_left
                 ·intro w'; go_simp; with_reducible rfl
                 rotate_left
                 ·simp only [Act.put, sA, sB, sC, i64_w, i32_w]; rfl
                 refine pure_ (i := 3) (N := some 103) (v := ?_) (a' := ?_) (Br [2,1,1,22]) rfl rfl (any_of HT_.out (by kernel_rfl)) (fun _ _ _ h => h) (Or.inl ⟨by rfl, ?_⟩) ?_ ?_; rotate_left
                 ·intro w'; go_simp; with_reducible rfl
                 rotate_left
                 ·simp only [Act.put, sA, sB, sC, i64_w, i32_w]; rfl
                 refine one_ (i := 2) (N := some 102) (Bs 4 26) rfl rfl (one_of HT_.out (by kernel_rfl)) (by decide) (fun K hK => ?_)
                 refine goes_ Try.func54 (by kernel_rfl) rfl #[.int .i64 x8_5, .int .i64 (l0.length : Int)] (by rfl) rfl rfl (by (try simp only [List.map_toArray, List.map_cons, List.map_nil]); first | done | rfl | (simp only [List.length_drop, List.length_take]; rfl)) ?_
                 with_reducible refine (silversideref01_next.calls x8_5 (l0.length : Int) t278 _ A43.out).mono ?_
                 rintro e w' ⟨rfl, ⟨nd, rfl⟩⟩
                 refine ⟨_, rfl, ?_⟩
                 refine hK.out _ _ trivial (fun hHeld => ?_)
                 clear hK K
                 refine norm_ (a' := ?_) ?_ ?_
                 rotate_left
                 ·show Act.put _ (some 102) _ = _
                  simp only [Act.put, sA, sB, sC, i64_w, i32_w]
                  rfl
                 refine pure_ (i := 4) (N := some 104) (v := ?_) (a' := ?_) (Bs 5 26) rfl rfl (any_of HT_.out (by kernel_rfl)) (fun _ _ _ h => h) (Or.inl ⟨by rfl, ?_⟩) ?_ ?_; rotate_left
                 ·intro w'; go_simp; with_reducible rfl
                 rotate_left
                 ·simp only [Act.put, sA, sB, sC, i64_w, i32_w]; rfl
                 refine pure_ (i := 5) (N := some 105) (v := ?_) (a' := ?_) (Bs 6 26) rfl rfl (any_of HT_.out (by kernel_rfl)) (fun _ _ _ h => h) (Or.inl ⟨by rfl, ?_⟩) ?_ ?_; rotate_left
                 ·intro w'; go_simp; with_reducible rfl
                 rotate_left
                 ·simp only [Act.put, sA, sB, sC, i64_w, i32_w]; rfl
                 refine pure_ (i := 6) (N := some 106) (v := undef) (a' := ?_) (Bs 7 26) rfl rfl (any_of HT_.out (by kernel_rfl)) (fun _ _ _ h => h) (Or.inr ⟨by rfl, rfl⟩) ?_ ?_; rotate_left
                 ·simp only [Act.put, sA, sB, sC, i64_w, i32_w]; rfl
                 refine pure_ (i := 7) (N := some 107) (v := undef) (a' := ?_) (Bs 8 26) rfl rfl (any_of HT_.out (by kernel_rfl)) (fun _ _ _ h => h) (Or.inr ⟨by rfl, rfl⟩) ?_ ?_; rotate_left
                 ·simp only [Act.put, sA, sB, sC, i64_w, i32_w]; rfl
                 refine pure_ (i := 8) (N := some 108) (v := undef) (a' := ?_) (Bs 9 26) rfl rfl (any_of HT_.out (by kernel_rfl)) (fun _ _ _ h => h) (Or.inr ⟨by rfl, rfl⟩) ?_ ?_; rotate_left
                 ·simp only [Act.put, sA, sB, sC, i64_w, i32_w]; rfl
                 refine pure_ (i := 9) (N := some 109) (v := undef) (a' := ?_) (Bs 10 26) rfl rfl (any_of HT_.out (by kernel_rfl)) (fun _ _ _ h => h) (Or.inr ⟨by rfl, rfl⟩) ?_ ?_; rotate_left
                 ·simp only [Act.put, sA, sB, sC, i64_w, i32_w]; rfl
                 refine pure_ (i := 10) (N := some 110) (v := undef) (a' := ?_) (Bs 11 26) rfl rfl (any_of HT_.out (by kernel_rfl)) (fun _ _ _ h => h) (Or.inr ⟨by rfl, rfl⟩) ?_ ?_; rotate_left
                 ·simp only [Act.put, sA, sB, sC, i64_w, i32_w]; rfl
                 refine pure_ (i := 11) (N := some 111) (v := undef) (a' := ?_) (Bs 12 26) rfl rfl (any_of HT_.out (by kernel_rfl)) (fun _ _ _ h => h) (Or.inr ⟨by rfl, rfl⟩) ?_ ?_; rotate_left
                 ·simp only [Act.put, sA, sB, sC, i64_w, i32_w]; rfl
                 refine pure_ (i := 12) (N := some 112) (v := undef) (a' := ?_) (Bs 13 26) rfl rfl (any_of HT_.out (by kernel_rfl)) (fun _ _ _ h => h) (Or.inr ⟨by rfl, rfl⟩) ?_ ?_; rotate_left
                 ·simp only [Act.put, sA, sB, sC, i64_w, i32_w]; rfl
                 refine pure_ (i := 13) (N := some 113) (v := undef) (a' := ?_) (Bs 14 26) rfl rfl (any_of HT_.out (by kernel_rfl)) (fun _ _ _ h => h) (Or.inr ⟨by rfl, rfl⟩) ?_ ?_; rotate_left
                 ·simp only [Act.put, sA, sB, sC, i64_w, i32_w]; rfl
                 refine pure_ (i := 14) (N := some 114) (v := undef) (a' := ?_) (Bs 15 26) rfl rfl (any_of HT_.out (by kernel_rfl)) (fun _ _ _ h => h) (Or.inr ⟨by rfl, rfl⟩) ?_ ?_; rotate_left
                 ·simp only [Act.put, sA, sB, sC, i64_w, i32_w]; rfl
                 refine pure_ (i := 15) (N := some 115) (v := undef) (a' := ?_) (Bs 16 26) rfl rfl (any_of HT_.out (by kernel_rfl)) (fun _ _ _ h => h) (Or.inr ⟨by rfl, rfl⟩) ?_ ?_; rotate_left
                 ·simp only [Act.put, sA, sB, sC, i64_w, i32_w]; rfl
                 refine pure_ (i := 16) (N := some 116) (v := undef) (a' := ?_) (Bs 17 26) rfl rfl (any_of HT_.out (by kernel_rfl)) (fun _ _ _ h => h) (Or.inr ⟨by rfl, rfl⟩) ?_ ?_; rotate_left
                 ·simp only [Act.put, sA, sB, sC, i64_w, i32_w]; rfl
                 refine pure_ (i := 17) (N := some 117) (v := undef) (a' := ?_) (Bs 18 26) rfl rfl (any_of HT_.out (by kernel_rfl)) (fun _ _ _ h => h) (Or.inr ⟨by rfl, rfl⟩) ?_ ?_; rotate_left
                 ·simp only [Act.put, sA, sB, sC, i64_w, i32_w]; rfl
                 refine pure_ (i := 18) (N := some 118) (v := undef) (a' := ?_) (Bs 19 26) rfl rfl (any_of HT_.out (by kernel_rfl)) (fun _ _ _ h => h) (Or.inr ⟨by rfl, rfl⟩) ?_ ?_; rotate_left
                 ·simp only [Act.put, sA, sB, sC, i64_w, i32_w]; rfl
                 refine pure_ (i := 19) (N := some 119) (v := undef) (a' := ?_) (Bs 20 26) rfl rfl (any_of HT_.out (by kernel_rfl)) (fun _ _ _ h => h) (Or.inr ⟨by rfl, rfl⟩) ?_ ?_; rotate_left
                 ·simp only [Act.put, sA, sB, sC, i64_w, i32_w]; rfl
                 refine pure_ (i := 20) (N := some 120) (v := undef) (a' := ?_) (Bs 21 26) rfl rfl (any_of HT_.out (by kernel_rfl)) (fun _ _ _ h => h) (Or.inr ⟨by rfl, rfl⟩) ?_ ?_; rotate_left
                 ·simp only [Act.put, sA, sB, sC, i64_w, i32_w]; rfl
                 refine pure_ (i := 21) (N := some 121) (v := undef) (a' := ?_) (Bs 22 26) rfl rfl (any_of HT_.out (by kernel_rfl)) (fun _ _ _ h => h) (Or.inr ⟨by rfl, rfl⟩) ?_ ?_; rotate_left
                 ·simp only [Act.put, sA, sB, sC, i64_w, i32_w]; rfl
                 refine pure_ (i := 22) (N := some 122) (v := undef) (a' := ?_) (Bs 23 26) rfl rfl (any_of HT_.out (by kernel_rfl)) (fun _ _ _ h => h) (Or.inr ⟨by rfl, rfl⟩) ?_ ?_; rotate_left
                 ·simp only [Act.put, sA, sB, sC, i64_w, i32_w]; rfl
                 refine pure_ (i := 23) (N := some 123) (v := undef) (a' := ?_) (Bs 24 26) rfl rfl (any_of HT_.out (by kernel_rfl)) (fun _ _ _ h => h) (Or.inr ⟨by rfl, rfl⟩) ?_ ?_; rotate_left
                 ·simp only [Act.put, sA, sB, sC, i64_w, i32_w]; rfl
                 refine pure_ (i := 24) (N := some 124) (v := undef) (a' := ?_) (Bs 25 26) rfl rfl (any_of HT_.out (by kernel_rfl)) (fun _ _ _ h => h) (Or.inr ⟨by rfl, rfl⟩) ?_ ?_; rotate_left
                 ·simp only [Act.put, sA, sB, sC, i64_w, i32_w]; rfl
                 refine pure_ (i := 25) (N := some 125) (v := ?_) (a' := ?_) (Bs 26 26) rfl rfl (any_of HT_.out (by kernel_rfl)) (fun _ _ _ h => h) (Or.inl ⟨by rfl, ?_⟩) ?_ ?_; rotate_left
                 ·intro w'; go_simp; with_reducible rfl
                 rotate_left
                 ·simp only [Act.put, sA, sB, sC, i64_w, i32_w]; rfl
                 refine done_ (done_of HT_.out (by kernel_rfl)) ?_
                 try go_wp2
                 go_roundg k5
                 case measure => have := HJ1.out; have := HK2.out; have := HK3.out; have := HJ19.out; have := HK5.out; omega
                 case rel => exact ⟨(wrap64 (x8_5 + 1)), (by first | rfl | (simp; done) | (simp [*]; done)), H', ⟨by have := HJ1.out; have := HK2.out; have := HK3.out; have := HJ19.out; have := HK5.out; omega⟩, ⟨by repeat (first | (with_reducible first | exact HB.out | apply lA | apply lN | apply lD) | exact HB.out)⟩⟩
                ·rw [if_neg c44] at H
                 have c44b0 : (t278 == x5_3) = false := beq_eq_false_iff_ne.mpr c44
                 have c44b1 : (t278 != x5_3) = true := bne_iff_ne.mpr c44
                 by_cases c46 : 0 ≤ x5_3
                 ·rw [if_pos c46] at H
                  have c46b0 : decide (0 ≤ x5_3) = true := decide_eq_true c46
                  clear c46
                  by_cases c47 : x5_3 < (l0.length : Int)
                  ·rw [if_pos c47] at H
                   have c47b0 : decide (x5_3 < (l0.length : Int)) = true := decide_eq_true c47
                   clear c47
                   by_cases c48 : 0 ≤ t264
                   ·rw [if_pos c48] at H
                    have c48b0 : decide (0 ≤ t264) = true := decide_eq_true c48
                    clear c48
                    by_cases c49 : t264 < (l0.length : Int)
                    ·rw [if_pos c49] at H
                     have c49b0 : decide (t264 < (l0.length : Int)) = true := decide_eq_true c49
                     clear c49
                     by_cases c50 : 0 ≤ x8_5
                     ·rw [if_pos c50] at H
                      have c50b0 : decide (0 ≤ x8_5) = true := decide_eq_true c50
                      clear c50
                      by_cases c51 : x8_5 < (l0.length : Int)
                      ·rw [if_pos c51] at H
                       have c51b0 : decide (x8_5 < (l0.length : Int)) = true := decide_eq_true c51
                       clear c51
                       replace H := Option.bind_eq_some_iff.mp H
                       obtain ⟨t282, A520, H⟩ := H
                       replace H : (if 0 ≤ t282 then (if t282 < (l0.length : Int) then ((silversideref01_meet.f k5 ((rd_T31 l0 x5_3).f0) ((rd_T31 l0 x5_3).f1) ((rd_T31 l0 t264).f0) ((rd_T31 l0 t264).f1) ((rd_T31 l0 x8_5).f0) ((rd_T31 l0 x8_5).f1) ((rd_T31 l0 t282).f0) ((rd_T31 l0 t282).f1)).bind fun t284 => (if t284 = true then (some false) else (silversideref01_Simple.l2 k5 l0 (l0.length : Int) x5_3 t264 (wrap64 (x8_5 + 1))))) else (none)) else (none)) = some r := H
                       have A52 := Aside0.mk A520
                       clear A520
                       by_cases c53 : 0 ≤ t282
                       ·rw [if_pos c53] at H
                        have c53b0 : decide (0 ≤ t282) = true := decide_eq_true c53
                        clear c53
                        by_cases c54 : t282 < (l0.length : Int)
                        ·rw [if_pos c54] at H
                         have c54b0 : decide (t282 < (l0.length : Int)) = true := decide_eq_true c54
                         clear c54
                         replace H := Option.bind_eq_some_iff.mp H
                         obtain ⟨t284, A550, H⟩ := H
                         replace H : (if t284 = true then (some false) else (silversideref01_Simple.l2 k5 l0 (l0.length : Int) x5_3 t264 (wrap64 (x8_5 + 1)))) = some r := H
                         have A55 := Aside0.mk A550
                         clear A550
                         by_cases c56 : t284 = true
                         ·subst c56
                          have H1 : (some false) = some r := by rw [if_pos rfl] at H; exact H
                          clear H
                          have H := H1
                          clear H1
                          obtain rfl := Option.some.inj H
                          try go_wp2
                          have n0_ := Aside0.mk (lD HB.out)
                          clear HB
                          have HB := n0_
                          clear n0_
                          have p279 : 0 ≤ (x5_3 : Int) := of_decide_eq_true (by first | (with_reducible assumption) | assumption)
                          have q279 : x5_3 < (l0.length : Int) := of_decide_eq_true (by first | (with_reducible assumption) | assumption)
                          obtain ⟨ad279, e279, hx279_0, hx279_1⟩ := at_T31 HR0.out x5_3 p279 q279
                          have hw279_1 := hx279_1
                          have hw279_0 := hx279_0
                          cases e279
                          replace hx279_0 := cB HB.out hx279_0
                          replace hx279_1 := cB HB.out hx279_1
                          replace p279 := eq_true p279
                          replace q279 := eq_true q279
                          have p280 : 0 ≤ (t264 : Int) := of_decide_eq_true (by first | (with_reducible assumption) | assumption)
                          have q280 : t264 < (l0.length : Int) := of_decide_eq_true (by first | (with_reducible assumption) | assumption)
                          obtain ⟨ad280, e280, hx280_0, hx280_1⟩ := at_T31 HR0.out t264 p280 q280
                          have hw280_1 := hx280_1
                          have hw280_0 := hx280_0
                          obtain rfl : ad279 = ad280 := (by injection e280)
                          replace hx280_0 := cB HB.out hx280_0
                          replace hx280_1 := cB HB.out hx280_1
                          replace p280 := eq_true p280
                          replace q280 := eq_true q280
                          have p281 : 0 ≤ (x8_5 : Int) := of_decide_eq_true (by first | (with_reducible assumption) | assumption)
                          have q281 : x8_5 < (l0.length : Int) := of_decide_eq_true (by first | (with_reducible assumption) | assumption)
                          obtain ⟨ad281, e281, hx281_0, hx281_1⟩ := at_T31 HR0.out x8_5 p281 q281
                          have hw281_1 := hx281_1
                          have hw281_0 := hx281_0
                          obtain rfl : ad279 = ad281 := (by injection e281)
                          replace hx281_0 := cB HB.out hx281_0
                          replace hx281_1 := cB HB.out hx281_1
                          replace p281 := eq_true p281
                          replace q281 := eq_true q281
                          have p283 : 0 ≤ (t282 : Int) := of_decide_eq_true (by first | (with_reducible assumption) | assumption)
                          have q283 : t282 < (l0.length : Int) := of_decide_eq_true (by first | (with_reducible assumption) | assumption)
                          obtain ⟨ad283, e283, hx283_0, hx283_1⟩ := at_T31 HR0.out t282 p283 q283
                          have hw283_1 := hx283_1
                          have hw283_0 := hx283_0
                          obtain rfl : ad279 = ad283 := (by injection e283)
                          replace hx283_0 := cB HB.out hx283_0
                          replace hx283_1 := cB HB.out hx283_1
                          replace p283 := eq_true p283
                          replace q283 := eq_true q283
                          refine start_ (n := 26) (S := fun w' => w'.cell? (ad279.add ((x5_3).toNat * 2)) = some (.int .i64 ((rd_T31 l0 x5_3).f0)) ∧ w'.cell? ⟨(ad279.add ((x5_3).toNat * 2)).block, (ad279.add ((x5_3).toNat * 2)).off + 1, none⟩ = some (.int .i64 ((rd_T31 l0 x5_3).f1)) ∧ w'.cell? (ad279.add ((t264).toNat * 2)) = some (.int .i64 ((rd_T31 l0 t264).f0)) ∧ w'.cell? ⟨(ad279.add ((t264).toNat * 2)).block, (ad279.add ((t264).toNat * 2)).off + 1, none⟩ = some (.int .i64 ((rd_T31 l0 t264).f1)) ∧ w'.cell? (ad279.add ((x8_5).toNat * 2)) = some (.int .i64 ((rd_T31 l0 x8_5).f0)) ∧ w'.cell? ⟨(ad279.add ((x8_5).toNat * 2)).block, (ad279.add ((x8_5).toNat * 2)).off + 1, none⟩ = some (.int .i64 ((rd_T31 l0 x8_5).f1)) ∧ w'.cell? (ad279.add ((t282).toNat * 2)) = some (.int .i64 ((rd_T31 l0 t282).f0)) ∧ w'.cell? ⟨(ad279.add ((t282).toNat * 2)).block, (ad279.add ((t282).toNat * 2)).off + 1, none⟩ = some (.int .i64 ((rd_T31 l0 t282).f1))) (ds := []) (Bs 0 26) (by kernel_rfl) rfl rfl ⟨(cB HB.out hw279_0), (cB HB.out hw279_1), (cB HB.out hw280_0), (cB HB.out hw280_1), (cB HB.out hw281_0), (cB HB.out hw281_1), (cB HB.out hw283_0), (cB HB.out hw283_1)⟩ (fun hHeld => ?_); refine with_tabW silversideref01_Simple.tab19 silversideref01_Simple.bits19 (fun HT_ HW_ => ?_)
                          generalize wr.drew = w57 at HB hx279_0 hx279_1 hx280_0 hx280_1 hx281_0 hx281_1 hx283_0 hx283_1 hHeld ⊢
                          refine pure_ (i := 0) (N := some 100) (v := ?_) (a' := ?_) (Bs 1 26) rfl rfl (any_of HT_.out (by kernel_rfl)) (fun _ _ _ h => h) (Or.inl ⟨by rfl, ?_⟩) ?_ ?_; rotate_left
                          ·intro w'; go_simp; with_reducible rfl
                          rotate_left
                          ·simp only [Act.put, sA, sB, sC, i64_w, i32_w]; rfl
                          refine pure_ (i := 1) (N := some 101) (v := ?_) (a' := ?_) (Bs 2 26) rfl rfl (any_of HT_.out (by kernel_rfl)) (fun _ _ _ h => h) (Or.inl ⟨by rfl, ?_⟩) ?_ ?_; rotate_left
                          ·intro w'; go_simp; with_reducible rfl
                          rotate_left
                          ·simp only [Act.put, sA, sB, sC, i64_w, i32_w]; rfl
                          refine pure_ (i := 3) (N := some 103) (v := ?_) (a' := ?_) (Br [2,1,1,22]) rfl rfl (any_of HT_.out (by kernel_rfl)) (fun _ _ _ h => h) (Or.inl ⟨by rfl, ?_⟩) ?_ ?_; rotate_left
                          ·intro w'; go_simp; with_reducible rfl
                          rotate_left
                          ·simp only [Act.put, sA, sB, sC, i64_w, i32_w]; rfl
                          refine one_ (i := 2) (N := some 102) (Bs 4 26) rfl rfl (one_of HT_.out (by kernel_rfl)) (by decide) (fun K hK => ?_)
                          refine goes_ Try.func54 (by kernel_rfl) rfl #[.int .i64 x8_5, .int .i64 (l0.length : Int)] (by rfl) rfl rfl (by (try simp only [List.map_toArray, List.map_cons, List.map_nil]); first | done | rfl | (simp only [List.length_drop, List.length_take]; rfl)) ?_
                          with_reducible refine (silversideref01_next.calls x8_5 (l0.length : Int) t278 _ A43.out).mono ?_
                          rintro e w' ⟨rfl, ⟨nd, rfl⟩⟩
                          refine ⟨_, rfl, ?_⟩
                          refine hK.out _ _ ⟨(cB HB.out hw279_0), (cB HB.out hw279_1), (cB HB.out hw280_0), (cB HB.out hw280_1), (cB HB.out hw281_0), (cB HB.out hw281_1), (cB HB.out hw283_0), (cB HB.out hw283_1)⟩ (fun hHeld => ?_)
                          clear hK K
                          refine norm_ (a' := ?_) ?_ ?_
                          rotate_left
                          ·show Act.put _ (some 102) _ = _
                           simp only [Act.put, sA, sB, sC, i64_w, i32_w]
                           rfl
                          refine pure_ (i := 4) (N := some 104) (v := ?_) (a' := ?_) (Bs 5 26) rfl rfl (any_of HT_.out (by kernel_rfl)) (fun _ _ _ h => h) (Or.inl ⟨by rfl, ?_⟩) ?_ ?_; rotate_left
                          ·intro w'; go_simp; with_reducible rfl
                          rotate_left
                          ·simp only [Act.put, sA, sB, sC, i64_w, i32_w]; rfl
                          refine pure_ (i := 5) (N := some 105) (v := ?_) (a' := ?_) (Bs 6 26) rfl rfl (any_of HT_.out (by kernel_rfl)) (fun _ _ _ h => h) (Or.inl ⟨by rfl, ?_⟩) ?_ ?_; rotate_left
                          ·intro w'; go_simp; with_reducible rfl
                          rotate_left
                          ·simp only [Act.put, sA, sB, sC, i64_w, i32_w]; rfl
                          refine pure_ (i := 6) (N := some 106) (v := ?_) (a' := ?_) (Bs 7 26) rfl rfl (any_of HT_.out (by kernel_rfl)) (fun _ _ _ h => h) (Or.inl ⟨by rfl, ?_⟩) ?_ ?_; rotate_left
                          ·intro w'; go_simp; with_reducible rfl
                          rotate_left
                          ·simp only [Act.put, sA, sB, sC, i64_w, i32_w]; rfl
                          refine pure_ (i := 7) (N := some 107) (v := ?_) (a' := ?_) (Bs 8 26) rfl rfl (any_of HT_.out (by kernel_rfl)) (fun _ _ _ h => h) (Or.inl ⟨by rfl, ?_⟩) ?_ ?_; rotate_left
                          ·intro w'; go_simp; with_reducible rfl
                          rotate_left
                          ·simp only [Act.put, sA, sB, sC, i64_w, i32_w]; rfl
                          refine pure_ (i := 8) (N := some 108) (v := ?_) (a' := ?_) (Bs 9 26) rfl rfl (any_of HT_.out (by kernel_rfl)) (fun _ _ _ h => h) (Or.inl ⟨by rfl, ?_⟩) ?_ ?_; rotate_left
                          ·intro w'; go_simp; with_reducible rfl
                          rotate_left
                          ·simp only [Act.put, sA, sB, sC, i64_w, i32_w]; rfl
                          refine pure_ (i := 10) (N := some 110) (v := ?_) (a' := ?_) (Br [9,1,1,15]) rfl rfl (any_of HT_.out (by kernel_rfl)) (fun _ _ _ h => h) (Or.inl ⟨by rfl, ?_⟩) ?_ ?_; rotate_left
                          ·intro w'; go_simp; with_reducible rfl
                          rotate_left
                          ·simp only [Act.put, sA, sB, sC, i64_w, i32_w]; rfl
                          refine pure_ (i := 11) (N := some 111) (v := ?_) (a' := ?_) (Br [9,1,2,14]) rfl rfl (any_of HT_.out (by kernel_rfl)) (fun _ _ _ h => h) (Or.inl ⟨by rfl, ?_⟩) ?_ ?_; rotate_left
                          ·intro w'; go_simp; with_reducible rfl
                          rotate_left
                          ·simp only [Act.put, sA, sB, sC, i64_w, i32_w]; rfl
                          refine pure_ (i := 12) (N := some 112) (v := ?_) (a' := ?_) (Br [9,1,3,13]) rfl rfl (any_of HT_.out (by kernel_rfl)) (fun _ _ _ h => h) (Or.inl ⟨by rfl, ?_⟩) ?_ ?_; rotate_left
                          ·intro w'; go_simp; with_reducible rfl
                          rotate_left
                          ·simp only [Act.put, sA, sB, sC, i64_w, i32_w]; rfl
                          refine pure_ (i := 14) (N := some 114) (v := ?_) (a' := ?_) (Br [9,1,3,1,1,11]) rfl rfl (any_of HT_.out (by kernel_rfl)) (fun _ _ _ h => h) (Or.inl ⟨by rfl, ?_⟩) ?_ ?_; rotate_left
                          ·intro w'; go_simp; with_reducible rfl
                          rotate_left
                          ·simp only [Act.put, sA, sB, sC, i64_w, i32_w]; rfl
                          refine pure_ (i := 15) (N := some 115) (v := ?_) (a' := ?_) (Br [9,1,3,1,2,10]) rfl rfl (any_of HT_.out (by kernel_rfl)) (fun _ _ _ h => h) (Or.inl ⟨by rfl, ?_⟩) ?_ ?_; rotate_left
                          ·intro w'; go_simp; with_reducible rfl
                          rotate_left
                          ·simp only [Act.put, sA, sB, sC, i64_w, i32_w]; rfl
                          refine pure_ (i := 16) (N := some 116) (v := ?_) (a' := ?_) (Br [9,1,3,1,3,9]) rfl rfl (any_of HT_.out (by kernel_rfl)) (fun _ _ _ h => h) (Or.inl ⟨by rfl, ?_⟩) ?_ ?_; rotate_left
                          ·intro w'; go_simp; with_reducible rfl
                          rotate_left
                          ·simp only [Act.put, sA, sB, sC, i64_w, i32_w]; rfl
                          refine pure_ (i := 18) (N := some 118) (v := ?_) (a' := ?_) (Br [9,1,3,1,3,1,1,7]) rfl rfl (any_of HT_.out (by kernel_rfl)) (fun _ _ _ h => h) (Or.inl ⟨by rfl, ?_⟩) ?_ ?_; rotate_left
                          ·intro w'; go_simp; with_reducible rfl
                          rotate_left
                          ·simp only [Act.put, sA, sB, sC, i64_w, i32_w]; rfl
                          refine pure_ (i := 19) (N := some 119) (v := ?_) (a' := ?_) (Br [9,1,3,1,3,1,2,6]) rfl rfl (any_of HT_.out (by kernel_rfl)) (fun _ _ _ h => h) (Or.inl ⟨by rfl, ?_⟩) ?_ ?_; rotate_left
                          ·intro w'; go_simp; with_reducible rfl
                          rotate_left
                          ·simp only [Act.put, sA, sB, sC, i64_w, i32_w]; rfl
                          refine pure_ (i := 20) (N := some 120) (v := ?_) (a' := ?_) (Br [9,1,3,1,3,1,3,5]) rfl rfl (any_of HT_.out (by kernel_rfl)) (fun _ _ _ h => h) (Or.inl ⟨by rfl, ?_⟩) ?_ ?_; rotate_left
                          ·intro w'; go_simp; with_reducible rfl
                          rotate_left
                          ·simp only [Act.put, sA, sB, sC, i64_w, i32_w]; rfl
                          refine take_ (i := 9) (N := some 109) (v := ?_) (a' := ?_) (Br [13,1,3,1,3,5]) rfl rfl (take_ofW HT_.out HW_.out (by kernel_rfl)) (fun _ _ _ h => h) (Or.inl ⟨by rfl, ?_⟩) hHeld ?_ ?_; rotate_left
                          ·rintro w' ⟨s0, s1, s2, s3, s4, s5, s6, s7⟩; go_simp; with_reducible rfl
                          rotate_left
                          ·simp only [Act.put, sA, sB, sC, i64_w, i32_w]; rfl
                          refine take_ (i := 13) (N := some 113) (v := ?_) (a' := ?_) (Br [17,1,3,5]) rfl rfl (take_ofW HT_.out HW_.out (by kernel_rfl)) (fun _ _ _ h => h) (Or.inl ⟨by rfl, ?_⟩) hHeld ?_ ?_; rotate_left
                          ·rintro w' ⟨s0, s1, s2, s3, s4, s5, s6, s7⟩; go_simp; with_reducible rfl
                          rotate_left
                          ·simp only [Act.put, sA, sB, sC, i64_w, i32_w]; rfl
                          refine take_ (i := 17) (N := some 117) (v := ?_) (a' := ?_) (Bs 21 26) rfl rfl (take_ofW HT_.out HW_.out (by kernel_rfl)) (fun _ _ _ h => h) (Or.inl ⟨by rfl, ?_⟩) hHeld ?_ ?_; rotate_left
                          ·rintro w' ⟨s0, s1, s2, s3, s4, s5, s6, s7⟩; go_simp; with_reducible rfl
                          rotate_left
                          ·simp only [Act.put, sA, sB, sC, i64_w, i32_w]; rfl
                          refine one_ (i := 21) (N := some 121) (Bs 22 26) rfl rfl (one_of HT_.out (by kernel_rfl)) (by decide) (fun K hK => ?_)
                          refine goes_ Try.func54 (by kernel_rfl) rfl #[.int .i64 x8_5, .int .i64 (l0.length : Int)] (by rfl) rfl rfl (by (try simp only [List.map_toArray, List.map_cons, List.map_nil]); first | done | rfl | (simp only [List.length_drop, List.length_take]; rfl)) ?_
                          with_reducible refine (silversideref01_next.calls x8_5 (l0.length : Int) t282 _ A52.out).mono ?_
                          rintro e w' ⟨rfl, ⟨nd, rfl⟩⟩
                          refine ⟨_, rfl, ?_⟩
                          refine hK.out _ _ ⟨(cB HB.out hw279_0), (cB HB.out hw279_1), (cB HB.out hw280_0), (cB HB.out hw280_1), (cB HB.out hw281_0), (cB HB.out hw281_1), (cB HB.out hw283_0), (cB HB.out hw283_1)⟩ (fun hHeld => ?_)
                          clear hK K
                          refine norm_ (a' := ?_) ?_ ?_
                          rotate_left
                          ·show Act.put _ (some 121) _ = _
                           simp only [Act.put, sA, sB, sC, i64_w, i32_w]
                           rfl
                          refine pure_ (i := 22) (N := some 122) (v := ?_) (a' := ?_) (Bs 23 26) rfl rfl (any_of HT_.out (by kernel_rfl)) (fun _ _ _ h => h) (Or.inl ⟨by rfl, ?_⟩) ?_ ?_; rotate_left
                          ·intro w'; go_simp; with_reducible rfl
                          rotate_left
                          ·simp only [Act.put, sA, sB, sC, i64_w, i32_w]; rfl
                          refine take_ (i := 23) (N := some 123) (v := ?_) (a' := ?_) (Bs 24 26) rfl rfl (take_ofW HT_.out HW_.out (by kernel_rfl)) (fun _ _ _ h => h) (Or.inl ⟨by rfl, ?_⟩) hHeld ?_ ?_; rotate_left
                          ·rintro w' ⟨s0, s1, s2, s3, s4, s5, s6, s7⟩; go_simp; with_reducible rfl
                          rotate_left
                          ·simp only [Act.put, sA, sB, sC, i64_w, i32_w]; rfl
                          refine one_ (i := 24) (N := some 124) (Bs 25 26) rfl rfl (one_of HT_.out (by kernel_rfl)) (by decide) (fun K hK => ?_)
                          refine goes_ Try.func60 (by kernel_rfl) rfl #[.agg #[.int .i64 ((rd_T31 l0 x5_3).f0), .int .i64 ((rd_T31 l0 x5_3).f1)], .agg #[.int .i64 ((rd_T31 l0 t264).f0), .int .i64 ((rd_T31 l0 t264).f1)], .agg #[.int .i64 ((rd_T31 l0 x8_5).f0), .int .i64 ((rd_T31 l0 x8_5).f1)], .agg #[.int .i64 ((rd_T31 l0 t282).f0), .int .i64 ((rd_T31 l0 t282).f1)]] (by rfl) rfl rfl (by (try simp only [List.map_toArray, List.map_cons, List.map_nil]); first | done | rfl | (simp only [List.length_drop, List.length_take]; rfl)) ?_
                          with_reducible refine (silversideref01_meet.calls k5 ((rd_T31 l0 x5_3).f0) ((rd_T31 l0 x5_3).f1) ((rd_T31 l0 t264).f0) ((rd_T31 l0 t264).f1) ((rd_T31 l0 x8_5).f0) ((rd_T31 l0 x8_5).f1) ((rd_T31 l0 t282).f0) ((rd_T31 l0 t282).f1) true _ A55.out).mono ?_
                          rintro e w58 ⟨rfl, hb⟩
                          refine ⟨_, rfl, ?_⟩
                          have n0_ := Aside0.mk (below_step (by repeat (first | (with_reducible first | exact HB.out | apply lA | apply lN | apply lD) | exact HB.out)) hb)
                          clear HB
                          have HB := n0_
                          clear n0_
                          (try clear hb)
                          (try clear hb2)
                          (try clear hk)
                          (try clear hi)
                          refine hK.out _ _ ⟨(cB HB.out hw279_0), (cB HB.out hw279_1), (cB HB.out hw280_0), (cB HB.out hw280_1), (cB HB.out hw281_0), (cB HB.out hw281_1), (cB HB.out hw283_0), (cB HB.out hw283_1)⟩ (fun hHeld => ?_)
                          clear hK K
                          refine norm_ (a' := ?_) ?_ ?_
                          rotate_left
                          ·show Act.put _ (some 124) _ = _
                           simp only [Act.put, sA, sB, sC, i64_w, i32_w]
                           rfl
                          refine pure_ (i := 25) (N := some 125) (v := ?_) (a' := ?_) (Bs 26 26) rfl rfl (any_of HT_.out (by kernel_rfl)) (fun _ _ _ h => h) (Or.inl ⟨by rfl, ?_⟩) ?_ ?_; rotate_left
                          ·intro w'; go_simp; with_reducible rfl
                          rotate_left
                          ·simp only [Act.put, sA, sB, sC, i64_w, i32_w]; rfl
                          refine done_ (done_of HT_.out (by kernel_rfl)) ?_
                          try go_wp2
                          go_ret
                          exact ⟨by first | rfl | (simp [errW_none, errW_some] <;> rfl) | (simp [*, errW_none, errW_some] <;> rfl), by repeat (first | (with_reducible first | exact HB.out | apply lA | apply lN | apply lD) | exact HB.out)⟩
                         ·replace c56 := Bool.eq_false_iff.mpr c56
                          subst c56
                          have H1 : (silversideref01_Simple.l2 k5 l0 (l0.length : Int) x5_3 t264 (wrap64 (x8_5 + 1))) = some r := by rw [if_neg (show ¬ (false = true) by decide)] at H; exact H
                          clear H
                          have H := H1
                          clear H1
                          have H' := Aside0.mk H
                          clear H
                          try go_wp2
                          have n0_ := Aside0.mk (lD HB.out)
                          clear HB
                          have HB := n0_
                          clear n0_
                          have p279 : 0 ≤ (x5_3 : Int) := of_decide_eq_true (by first | (with_reducible assumption) | assumption)
                          have q279 : x5_3 < (l0.length : Int) := of_decide_eq_true (by first | (with_reducible assumption) | assumption)
                          obtain ⟨ad279, e279, hx279_0, hx279_1⟩ := at_T31 HR0.out x5_3 p279 q279
                          have hw279_1 := hx279_1
                          have hw279_0 := hx279_0
                          cases e279
                          replace hx279_0 := cB HB.out hx279_0
                          replace hx279_1 := cB HB.out hx279_1
                          replace p279 := eq_true p279
                          replace q279 := eq_true q279
                          have p280 : 0 ≤ (t264 : Int) := of_decide_eq_true (by first | (with_reducible assumption) | assumption)
                          have q280 : t264 < (l0.length : Int) := of_decide_eq_true (by first | (with_reducible assumption) | assumption)
                          obtain ⟨ad280, e280, hx280_0, hx280_1⟩ := at_T31 HR0.out t264 p280 q280
                          have hw280_1 := hx280_1
                          have hw280_0 := hx280_0
                          obtain rfl : ad279 = ad280 := (by injection e280)
                          replace hx280_0 := cB HB.out hx280_0
                          replace hx280_1 := cB HB.out hx280_1
                          replace p280 := eq_true p280
                          replace q280 := eq_true q280
                          have p281 : 0 ≤ (x8_5 : Int) := of_decide_eq_true (by first | (with_reducible assumption) | assumption)
                          have q281 : x8_5 < (l0.length : Int) := of_decide_eq_true (by first | (with_reducible assumption) | assumption)
                          obtain ⟨ad281, e281, hx281_0, hx281_1⟩ := at_T31 HR0.out x8_5 p281 q281
                          have hw281_1 := hx281_1
                          have hw281_0 := hx281_0
                          obtain rfl : ad279 = ad281 := (by injection e281)
                          replace hx281_0 := cB HB.out hx281_0
                          replace hx281_1 := cB HB.out hx281_1
                          replace p281 := eq_true p281
                          replace q281 := eq_true q281
                          have p283 : 0 ≤ (t282 : Int) := of_decide_eq_true (by first | (with_reducible assumption) | assumption)
                          have q283 : t282 < (l0.length : Int) := of_decide_eq_true (by first | (with_reducible assumption) | assumption)
                          obtain ⟨ad283, e283, hx283_0, hx283_1⟩ := at_T31 HR0.out t282 p283 q283
                          have hw283_1 := hx283_1
                          have hw283_0 := hx283_0
                          obtain rfl : ad279 = ad283 := (by injection e283)
                          replace hx283_0 := cB HB.out hx283_0
                          replace hx283_1 := cB HB.out hx283_1
                          replace p283 := eq_true p283
                          replace q283 := eq_true q283
                          refine start_ (n := 26) (S := fun w' => w'.cell? (ad279.add ((x5_3).toNat * 2)) = some (.int .i64 ((rd_T31 l0 x5_3).f0)) ∧ w'.cell? ⟨(ad279.add ((x5_3).toNat * 2)).block, (ad279.add ((x5_3).toNat * 2)).off + 1, none⟩ = some (.int .i64 ((rd_T31 l0 x5_3).f1)) ∧ w'.cell? (ad279.add ((t264).toNat * 2)) = some (.int .i64 ((rd_T31 l0 t264).f0)) ∧ w'.cell? ⟨(ad279.add ((t264).toNat * 2)).block, (ad279.add ((t264).toNat * 2)).off + 1, none⟩ = some (.int .i64 ((rd_T31 l0 t264).f1)) ∧ w'.cell? (ad279.add ((x8_5).toNat * 2)) = some (.int .i64 ((rd_T31 l0 x8_5).f0)) ∧ w'.cell? ⟨(ad279.add ((x8_5).toNat * 2)).block, (ad279.add ((x8_5).toNat * 2)).off + 1, none⟩ = some (.int .i64 ((rd_T31 l0 x8_5).f1)) ∧ w'.cell? (ad279.add ((t282).toNat * 2)) = some (.int .i64 ((rd_T31 l0 t282).f0)) ∧ w'.cell? ⟨(ad279.add ((t282).toNat * 2)).block, (ad279.add ((t282).toNat * 2)).off + 1, none⟩ = some (.int .i64 ((rd_T31 l0 t282).f1))) (ds := []) (Bs 0 26) (by kernel_rfl) rfl rfl ⟨(cB HB.out hw279_0), (cB HB.out hw279_1), (cB HB.out hw280_0), (cB HB.out hw280_1), (cB HB.out hw281_0), (cB HB.out hw281_1), (cB HB.out hw283_0), (cB HB.out hw283_1)⟩ (fun hHeld => ?_); refine with_tabW silversideref01_Simple.tab19 silversideref01_Simple.bits19 (fun HT_ HW_ => ?_)
                          generalize wr.drew = w59 at HB hx279_0 hx279_1 hx280_0 hx280_1 hx281_0 hx281_1 hx283_0 hx283_1 hHeld ⊢
                          refine pure_ (i := 0) (N := some 100) (v := ?_) (a' := ?_) (Bs 1 26) rfl rfl (any_of HT_.out (by kernel_rfl)) (fun _ _ _ h => h) (Or.inl ⟨by rfl, ?_⟩) ?_ ?_; rotate_left
                          ·intro w'; go_simp; with_reducible rfl
                          rotate_left
                          ·simp only [Act.put, sA, sB, sC, i64_w, i32_w]; rfl
                          refine pure_ (i := 1) (N := some 101) (v := ?_) (a' := ?_) (Bs 2 26) rfl rfl (any_of HT_.out (by kernel_rfl)) (fun _ _ _ h => h) (Or.inl ⟨by rfl, ?_⟩) ?_ ?_; rotate_left
                          ·intro w'; go_simp; with_reducible rfl
                          rotate_left
                          ·simp only [Act.put, sA, sB, sC, i64_w, i32_w]; rfl
                          refine pure_ (i := 3) (N := some 103) (v := ?_) (a' := ?_) (Br [2,1,1,22]) rfl rfl (any_of HT_.out (by kernel_rfl)) (fun _ _ _ h => h) (Or.inl ⟨by rfl, ?_⟩) ?_ ?_; rotate_left
                          ·intro w'; go_simp; with_reducible rfl
                          rotate_left
                          ·simp only [Act.put, sA, sB, sC, i64_w, i32_w]; rfl
                          refine one_ (i := 2) (N := some 102) (Bs 4 26) rfl rfl (one_of HT_.out (by kernel_rfl)) (by decide) (fun K hK => ?_)
                          refine goes_ Try.func54 (by kernel_rfl) rfl #[.int .i64 x8_5, .int .i64 (l0.length : Int)] (by rfl) rfl rfl (by (try simp only [List.map_toArray, List.map_cons, List.map_nil]); first | done | rfl | (simp only [List.length_drop, List.length_take]; rfl)) ?_
                          with_reducible refine (silversideref01_next.calls x8_5 (l0.length : Int) t278 _ A43.out).mono ?_
                          rintro e w' ⟨rfl, ⟨nd, rfl⟩⟩
                          refine ⟨_, rfl, ?_⟩
                          refine hK.out _ _ ⟨(cB HB.out hw279_0), (cB HB.out hw279_1), (cB HB.out hw280_0), (cB HB.out hw280_1), (cB HB.out hw281_0), (cB HB.out hw281_1), (cB HB.out hw283_0), (cB HB.out hw283_1)⟩ (fun hHeld => ?_)
                          clear hK K
                          refine norm_ (a' := ?_) ?_ ?_
                          rotate_left
                          ·show Act.put _ (some 102) _ = _
                           simp only [Act.put, sA, sB, sC, i64_w, i32_w]
                           rfl
                          refine pure_ (i := 4) (N := some 104) (v := ?_) (a' := ?_) (Bs 5 26) rfl rfl (any_of HT_.out (by kernel_rfl)) (fun _ _ _ h => h) (Or.inl ⟨by rfl, ?_⟩) ?_ ?_; rotate_left
                          ·intro w'; go_simp; with_reducible rfl
                          rotate_left
                          ·simp only [Act.put, sA, sB, sC, i64_w, i32_w]; rfl
                          refine pure_ (i := 5) (N := some 105) (v := ?_) (a' := ?_) (Bs 6 26) rfl rfl (any_of HT_.out (by kernel_rfl)) (fun _ _ _ h => h) (Or.inl ⟨by rfl, ?_⟩) ?_ ?_; rotate_left
                          ·intro w'; go_simp; with_reducible rfl
                          rotate_left
                          ·simp only [Act.put, sA, sB, sC, i64_w, i32_w]; rfl
                          refine pure_ (i := 6) (N := some 106) (v := ?_) (a' := ?_) (Bs 7 26) rfl rfl (any_of HT_.out (by kernel_rfl)) (fun _ _ _ h => h) (Or.inl ⟨by rfl, ?_⟩) ?_ ?_; rotate_left
                          ·intro w'; go_simp; with_reducible rfl
                          rotate_left
                          ·simp only [Act.put, sA, sB, sC, i64_w, i32_w]; rfl
                          refine pure_ (i := 7) (N := some 107) (v := ?_) (a' := ?_) (Bs 8 26) rfl rfl (any_of HT_.out (by kernel_rfl)) (fun _ _ _ h => h) (Or.inl ⟨by rfl, ?_⟩) ?_ ?_; rotate_left
                          ·intro w'; go_simp; with_reducible rfl
                          rotate_left
                          ·simp only [Act.put, sA, sB, sC, i64_w, i32_w]; rfl
                          refine pure_ (i := 8) (N := some 108) (v := ?_) (a' := ?_) (Bs 9 26) rfl rfl (any_of HT_.out (by kernel_rfl)) (fun _ _ _ h => h) (Or.inl ⟨by rfl, ?_⟩) ?_ ?_; rotate_left
                          ·intro w'; go_simp; with_reducible rfl
                          rotate_left
                          ·simp only [Act.put, sA, sB, sC, i64_w, i32_w]; rfl
                          refine pure_ (i := 10) (N := some 110) (v := ?_) (a' := ?_) (Br [9,1,1,15]) rfl rfl (any_of HT_.out (by kernel_rfl)) (fun _ _ _ h => h) (Or.inl ⟨by rfl, ?_⟩) ?_ ?_; rotate_left
                          ·intro w'; go_simp; with_reducible rfl
                          rotate_left
                          ·simp only [Act.put, sA, sB, sC, i64_w, i32_w]; rfl
                          refine pure_ (i := 11) (N := some 111) (v := ?_) (a' := ?_) (Br [9,1,2,14]) rfl rfl (any_of HT_.out (by kernel_rfl)) (fun _ _ _ h => h) (Or.inl ⟨by rfl, ?_⟩) ?_ ?_; rotate_left
                          ·intro w'; go_simp; with_reducible rfl
                          rotate_left
                          ·simp only [Act.put, sA, sB, sC, i64_w, i32_w]; rfl
                          refine pure_ (i := 12) (N := some 112) (v := ?_) (a' := ?_) (Br [9,1,3,13]) rfl rfl (any_of HT_.out (by kernel_rfl)) (fun _ _ _ h => h) (Or.inl ⟨by rfl, ?_⟩) ?_ ?_; rotate_left
                          ·intro w'; go_simp; with_reducible rfl
                          rotate_left
                          ·simp only [Act.put, sA, sB, sC, i64_w, i32_w]; rfl
                          refine pure_ (i := 14) (N := some 114) (v := ?_) (a' := ?_) (Br [9,1,3,1,1,11]) rfl rfl (any_of HT_.out (by kernel_rfl)) (fun _ _ _ h => h) (Or.inl ⟨by rfl, ?_⟩) ?_ ?_; rotate_left
                          ·intro w'; go_simp; with_reducible rfl
                          rotate_left
                          ·simp only [Act.put, sA, sB, sC, i64_w, i32_w]; rfl
                          refine pure_ (i := 15) (N := some 115) (v := ?_) (a' := ?_) (Br [9,1,3,1,2,10]) rfl rfl (any_of HT_.out (by kernel_rfl)) (fun _ _ _ h => h) (Or.inl ⟨by rfl, ?_⟩) ?_ ?_; rotate_left
                          ·intro w'; go_simp; with_reducible rfl
                          rotate_left
                          ·simp only [Act.put, sA, sB, sC, i64_w, i32_w]; rfl
                          refine pure_ (i := 16) (N := some 116) (v := ?_) (a' := ?_) (Br [9,1,3,1,3,9]) rfl rfl (any_of HT_.out (by kernel_rfl)) (fun _ _ _ h => h) (Or.inl ⟨by rfl, ?_⟩) ?_ ?_; rotate_left
                          ·intro w'; go_simp; with_reducible rfl
                          rotate_left
                          ·simp only [Act.put, sA, sB, sC, i64_w, i32_w]; rfl
                          refine pure_ (i := 18) (N := some 118) (v := ?_) (a' := ?_) (Br [9,1,3,1,3,1,1,7]) rfl rfl (any_of HT_.out (by kernel_rfl)) (fun _ _ _ h => h) (Or.inl ⟨by rfl, ?_⟩) ?_ ?_; rotate_left
                          ·intro w'; go_simp; with_reducible rfl
                          rotate_left
                          ·simp only [Act.put, sA, sB, sC, i64_w, i32_w]; rfl
                          refine pure_ (i := 19) (N := some 119) (v := ?_) (a' := ?_) (Br [9,1,3,1,3,1,2,6]) rfl rfl (any_of HT_.out (by kernel_rfl)) (fun _ _ _ h => h) (Or.inl ⟨by rfl, ?_⟩) ?_ ?_; rotate_left
                          ·intro w'; go_simp; with_reducible rfl
                          rotate_left
                          ·simp only [Act.put, sA, sB, sC, i64_w, i32_w]; rfl
                          refine pure_ (i := 20) (N := some 120) (v := ?_) (a' := ?_) (Br [9,1,3,1,3,1,3,5]) rfl rfl (any_of HT_.out (by kernel_rfl)) (fun _ _ _ h => h) (Or.inl ⟨by rfl, ?_⟩) ?_ ?_; rotate_left
                          ·intro w'; go_simp; with_reducible rfl
                          rotate_left
                          ·simp only [Act.put, sA, sB, sC, i64_w, i32_w]; rfl
                          refine take_ (i := 9) (N := some 109) (v := ?_) (a' := ?_) (Br [13,1,3,1,3,5]) rfl rfl (take_ofW HT_.out HW_.out (by kernel_rfl)) (fun _ _ _ h => h) (Or.inl ⟨by rfl, ?_⟩) hHeld ?_ ?_; rotate_left
                          ·rintro w' ⟨s0, s1, s2, s3, s4, s5, s6, s7⟩; go_simp; with_reducible rfl
                          rotate_left
                          ·simp only [Act.put, sA, sB, sC, i64_w, i32_w]; rfl
                          refine take_ (i := 13) (N := some 113) (v := ?_) (a' := ?_) (Br [17,1,3,5]) rfl rfl (take_ofW HT_.out HW_.out (by kernel_rfl)) (fun _ _ _ h => h) (Or.inl ⟨by rfl, ?_⟩) hHeld ?_ ?_; rotate_left
                          ·rintro w' ⟨s0, s1, s2, s3, s4, s5, s6, s7⟩; go_simp; with_reducible rfl
                          rotate_left
                          ·simp only [Act.put, sA, sB, sC, i64_w, i32_w]; rfl
                          refine take_ (i := 17) (N := some 117) (v := ?_) (a' := ?_) (Bs 21 26) rfl rfl (take_ofW HT_.out HW_.out (by kernel_rfl)) (fun _ _ _ h => h) (Or.inl ⟨by rfl, ?_⟩) hHeld ?_ ?_; rotate_left
                          ·rintro w' ⟨s0, s1, s2, s3, s4, s5, s6, s7⟩; go_simp; with_reducible rfl
                          rotate_left
                          ·simp only [Act.put, sA, sB, sC, i64_w, i32_w]; rfl
                          refine one_ (i := 21) (N := some 121) (Bs 22 26) rfl rfl (one_of HT_.out (by kernel_rfl)) (by decide) (fun K hK => ?_)
                          refine goes_ Try.func54 (by kernel_rfl) rfl #[.int .i64 x8_5, .int .i64 (l0.length : Int)] (by rfl) rfl rfl (by (try simp only [List.map_toArray, List.map_cons, List.map_nil]); first | done | rfl | (simp only [List.length_drop, List.length_take]; rfl)) ?_
                          with_reducible refine (silversideref01_next.calls x8_5 (l0.length : Int) t282 _ A52.out).mono ?_
                          rintro e w' ⟨rfl, ⟨nd, rfl⟩⟩
                          refine ⟨_, rfl, ?_⟩
                          refine hK.out _ _ ⟨(cB HB.out hw279_0), (cB HB.out hw279_1), (cB HB.out hw280_0), (cB HB.out hw280_1), (cB HB.out hw281_0), (cB HB.out hw281_1), (cB HB.out hw283_0), (cB HB.out hw283_1)⟩ (fun hHeld => ?_)
                          clear hK K
                          refine norm_ (a' := ?_) ?_ ?_
                          rotate_left
                          ·show Act.put _ (some 121) _ = _
                           simp only [Act.put, sA, sB, sC, i64_w, i32_w]
                           rfl
                          refine pure_ (i := 22) (N := some 122) (v := ?_) (a' := ?_) (Bs 23 26) rfl rfl (any_of HT_.out (by kernel_rfl)) (fun _ _ _ h => h) (Or.inl ⟨by rfl, ?_⟩) ?_ ?_; rotate_left
                          ·intro w'; go_simp; with_reducible rfl
                          rotate_left
                          ·simp only [Act.put, sA, sB, sC, i64_w, i32_w]; rfl
                          refine take_ (i := 23) (N := some 123) (v := ?_) (a' := ?_) (Bs 24 26) rfl rfl (take_ofW HT_.out HW_.out (by kernel_rfl)) (fun _ _ _ h => h) (Or.inl ⟨by rfl, ?_⟩) hHeld ?_ ?_; rotate_left
                          ·rintro w' ⟨s0, s1, s2, s3, s4, s5, s6, s7⟩; go_simp; with_reducible rfl
                          rotate_left
                          ·simp only [Act.put, sA, sB, sC, i64_w, i32_w]; rfl
                          refine one_ (i := 24) (N := some 124) (Bs 25 26) rfl rfl (one_of HT_.out (by kernel_rfl)) (by decide) (fun K hK => ?_)
                          refine goes_ Try.func60 (by kernel_rfl) rfl #[.agg #[.int .i64 ((rd_T31 l0 x5_3).f0), .int .i64 ((rd_T31 l0 x5_3).f1)], .agg #[.int .i64 ((rd_T31 l0 t264).f0), .int .i64 ((rd_T31 l0 t264).f1)], .agg #[.int .i64 ((rd_T31 l0 x8_5).f0), .int .i64 ((rd_T31 l0 x8_5).f1)], .agg #[.int .i64 ((rd_T31 l0 t282).f0), .int .i64 ((rd_T31 l0 t282).f1)]] (by rfl) rfl rfl (by (try simp only [List.map_toArray, List.map_cons, List.map_nil]); first | done | rfl | (simp only [List.length_drop, List.length_take]; rfl)) ?_
                          with_reducible refine (silversideref01_meet.calls k5 ((rd_T31 l0 x5_3).f0) ((rd_T31 l0 x5_3).f1) ((rd_T31 l0 t264).f0) ((rd_T31 l0 t264).f1) ((rd_T31 l0 x8_5).f0) ((rd_T31 l0 x8_5).f1) ((rd_T31 l0 t282).f0) ((rd_T31 l0 t282).f1) false _ A55.out).mono ?_
                          rintro e w60 ⟨rfl, hb⟩
                          refine ⟨_, rfl, ?_⟩
                          have n0_ := Aside0.mk (below_step (by repeat (first | (with_reducible first | exact HB.out | apply lA | apply lN | apply lD) | exact HB.out)) hb)
                          clear HB
                          have HB := n0_
                          clear n0_
                          (try clear hb)
                          (try clear hb2)
                          (try clear hk)
                          (try clear hi)
                          refine hK.out _ _ ⟨(cB HB.out hw279_0), (cB HB.out hw279_1), (cB HB.out hw280_0), (cB HB.out hw280_1), (cB HB.out hw281_0), (cB HB.out hw281_1), (cB HB.out hw283_0), (cB HB.out hw283_1)⟩ (fun hHeld => ?_)
                          clear hK K
                          refine norm_ (a' := ?_) ?_ ?_
                          rotate_left
                          ·show Act.put _ (some 124) _ = _
                           simp only [Act.put, sA, sB, sC, i64_w, i32_w]
                           rfl
                          refine pure_ (i := 25) (N := some 125) (v := ?_) (a' := ?_) (Bs 26 26) rfl rfl (any_of HT_.out (by kernel_rfl)) (fun _ _ _ h => h) (Or.inl ⟨by rfl, ?_⟩) ?_ ?_; rotate_left
                          ·intro w'; go_simp; with_reducible rfl
                          rotate_left
                          ·simp only [Act.put, sA, sB, sC, i64_w, i32_w]; rfl
                          refine done_ (done_of HT_.out (by kernel_rfl)) ?_
                          try go_wp2
                          go_roundg k5
                          case measure => have := HJ1.out; have := HK2.out; have := HK3.out; have := HJ19.out; have := HK5.out; omega
                          case rel => exact ⟨(wrap64 (x8_5 + 1)), (by first | rfl | (simp; done) | (simp [*]; done)), H', ⟨by have := HJ1.out; have := HK2.out; have := HK3.out; have := HJ19.out; have := HK5.out; omega⟩, ⟨by repeat (first | (with_reducible first | exact HB.out | apply lA | apply lN | apply lD) | exact HB.out)⟩⟩
                        ·rw [if_neg c54] at H
                         exact absurd H (by simp)
                       ·rw [if_neg c53] at H
                        exact absurd H (by simp)
                      ·rw [if_neg c51] at H
                       exact absurd H (by simp)
                     ·rw [if_neg c50] at H
                      exact absurd H (by simp)
                    ·rw [if_neg c49] at H
                     exact absurd H (by simp)
                   ·rw [if_neg c48] at H
                    exact absurd H (by simp)
                  ·rw [if_neg c47] at H
                   exact absurd H (by simp)
                 ·rw [if_neg c46] at H
                  exact absurd H (by simp)
               ·rw [if_neg c42] at H
                have c42b0 : decide (x8_5 < (l0.length : Int)) = false := decide_eq_false c42
                clear c42
                have H' := Aside0.mk H
                clear H
                go_wp2
                go_roundg k5
                case measure => have := HJ1.out; have := HK2.out; have := HK3.out; have := HJ19.out; have := HK5.out; omega
                case rel => exact ⟨(wrap64 (x5_3 + 1)), (by first | rfl | (simp; done) | (simp [*]; done)), H', ⟨by have := HJ1.out; have := HK2.out; have := HK3.out; have := HJ19.out; have := HK5.out; omega⟩, ⟨by repeat (first | (with_reducible first | exact HB.out | apply lA | apply lN | apply lD) | exact HB.out)⟩⟩
         ·rw [if_neg c17] at H
          have c17b0 : decide (x5_3 < (l0.length : Int)) = false := decide_eq_false c17
          clear c17
          obtain rfl := Option.some.inj H
          go_wp2
          go_ret
          exact ⟨by first | rfl | (simp [errW_none, errW_some] <;> rfl) | (simp [*, errW_none, errW_some] <;> rfl), by repeat (first | (with_reducible first | exact HB.out | apply lA | apply lN | apply lD) | exact HB.out)⟩

end Go.Proofs.Ythaklbjcjoolcaa.P
namespace Go.Proofs.Ythaklbjcjoolcaa.P
open Go.RowKit Go.Proofs.YthaklbjcjoolcaaW.PrintWords Go.Proofs.YthaklbjcjoolcaaW.PrintLast Go.Proofs.YthaklbjcjoolcaaW.PrintMore
theorem refnext_is (i n : Nat) (h : i < n) (hn : n ≤ 4096) : silversideref01_next.f (i : Int) (n : Int) = some ((((i + 1) % n : Nat)) : Int) := by
  unfold silversideref01_next.f
  rw [w64i (by omega) (by omega)]
  by_cases h1 : i + 1 < n
  · rw [if_pos (by omega), Nat.mod_eq_of_lt h1]; rfl
  · have : i + 1 = n := by omega
    rw [if_neg (by omega), this, Nat.mod_self]; rfl
end Go.Proofs.Ythaklbjcjoolcaa.P
namespace Go.Proofs.Ythaklbjcjoolcaa.P
open Go.RowKit Go.Shelf Go.Sort Go.Proofs.YthaklbjcjoolcaaW.PrintWords Go.Proofs.YthaklbjcjoolcaaW.PrintLast Go.Proofs.YthaklbjcjoolcaaW.PrintMore
set_option linter.unusedVariables false
set_option linter.unusedSimpArgs false
/-- a point is on a segment -/
def onB (a b p : S31) : Bool := decide (crs a b p = 0) && (decide (mn a.f0 b.f0 ≤ p.f0) && (decide (p.f0 ≤ mx a.f0 b.f0) && (decide (mn a.f1 b.f1 ≤ p.f1) && decide (p.f1 ≤ mx a.f1 b.f1))))
end Go.Proofs.Ythaklbjcjoolcaa.P
namespace Go.Proofs.Ythaklbjcjoolcaa.P
open Go.RowKit Go.Proofs.YthaklbjcjoolcaaW.PrintWords Go.Proofs.YthaklbjcjoolcaaW.PrintLast Go.Proofs.YthaklbjcjoolcaaW.PrintMore
set_option linter.unusedVariables false
set_option linter.unusedSimpArgs false
theorem onB_crs {a b p : S31} (h : onB a b p = true) : crs a b p = 0 := by
  unfold onB at h
  simp only [Bool.and_eq_true, decide_eq_true_eq] at h
  exact h.1
theorem has_is {a b p : S31} (ha : okPt a = true) (hb : okPt b = true) (hp : okPt p = true) : plane_segment_has.f a.f0 a.f1 b.f0 b.f1 p.f0 p.f1 = some (onB a b p) := by
  unfold plane_segment_has.f onB
  rw [turn_is ha hb hp, Option.bind_some, within_is, within_is]
  simp only [Option.bind_some]
  by_cases h : crs a b p = 0
  · rw [if_pos (sgn_zero.2 h), h]
    by_cases h2 : mn a.f0 b.f0 ≤ p.f0 ∧ p.f0 ≤ mx a.f0 b.f0
    · rw [if_pos (decide_eq_true h2)]; simp [h2.1, h2.2]
    · rw [if_neg (by simpa using h2)]
      by_cases h3 : mn a.f0 b.f0 ≤ p.f0
      · have h4 : ¬ p.f0 ≤ mx a.f0 b.f0 := fun h4 => h2 ⟨h3, h4⟩
        simp [h4]
      · simp [h3]
  · rw [if_neg (fun h' => h (sgn_zero.1 h'))]; simp [h]
/-- two segments have a point in common -/
def meetB (a b c d : S31) : Bool := onB a b c || (onB a b d || (onB c d a || (onB c d b || (decide (sgn (crs a b c) * sgn (crs a b d) < 0) && decide (sgn (crs c d a) * sgn (crs c d b) < 0)))))
theorem w64_sgn (x y : Int) : wrap64 (sgn x * sgn y) = sgn x * sgn y := by
  have h := mul_bd (m := 1) (n := 1) (sgn_bd x) (sgn_bd y)
  exact w64i (by omega) (by omega)
theorem meets_is {a b c d : S31} (ha : okPt a = true) (hb : okPt b = true) (hc : okPt c = true) (hd : okPt d = true) (k : Nat) : plane_segment_meets.f (k + 1) a.f0 a.f1 b.f0 b.f1 c.f0 c.f1 d.f0 d.f1 = some (meetB a b c d) := by
  have hj : ∀ x : Bool, plane_segment_meets.j0 (k + 1) x a.f0 a.f1 b.f0 b.f1 c.f0 c.f1 d.f0 d.f1 = some (x || (decide (sgn (crs a b c) * sgn (crs a b d) < 0) && decide (sgn (crs c d a) * sgn (crs c d b) < 0))) := by
    intro x
    rw [plane_segment_meets.j0, turn_is ha hb hc, turn_is ha hb hd, turn_is hc hd ha, turn_is hc hd hb]
    simp only [Option.bind_some, w64_sgn]
    cases x
    · by_cases h : sgn (crs a b c) * sgn (crs a b d) < 0
      · simp [h]
      · simp [h]
    · rfl
  unfold plane_segment_meets.f meetB
  simp only [hj]
  rw [has_is ha hb hc, has_is ha hb hd, has_is hc hd ha, has_is hc hd hb]
  simp only [Option.bind_some]
  cases onB a b c <;> cases onB a b d <;> cases onB c d a <;> cases onB c d b <;> rfl
end Go.Proofs.Ythaklbjcjoolcaa.P
namespace Go.Proofs.Ythaklbjcjoolcaa.P
open Go.RowKit Go.Proofs.YthaklbjcjoolcaaW.PrintWords Go.Proofs.YthaklbjcjoolcaaW.PrintLast Go.Proofs.YthaklbjcjoolcaaW.PrintMore
set_option linter.unusedVariables false
set_option linter.unusedSimpArgs false
theorem on_is {a b p : S31} (ha : okPt a = true) (hb : okPt b = true) (hp : okPt p = true) : silversideref01_on.f a.f0 a.f1 b.f0 b.f1 p.f0 p.f1 = some (onB a b p) := by
  unfold silversideref01_on.f onB
  rw [refturn_same, turn_is ha hb hp, Option.bind_some]
  by_cases h : crs a b p = 0
  · rw [if_pos (sgn_zero.2 h), h]
    by_cases h1 : mn a.f0 b.f0 ≤ p.f0
    · rw [if_pos h1]
      by_cases h2 : p.f0 ≤ mx a.f0 b.f0
      · rw [if_pos h2]
        by_cases h3 : mn a.f1 b.f1 ≤ p.f1
        · rw [if_pos h3]; simp [h1, h2, h3]
        · rw [if_neg h3]; simp [h3]
      · rw [if_neg h2]; simp [h2]
    · rw [if_neg h1]; simp [h1]
  · rw [if_neg (fun h' => h (sgn_zero.1 h'))]; simp [h]
theorem refmeet_is {a b c d : S31} (ha : okPt a = true) (hb : okPt b = true) (hc : okPt c = true) (hd : okPt d = true) (k : Nat) : silversideref01_meet.f (k + 1) a.f0 a.f1 b.f0 b.f1 c.f0 c.f1 d.f0 d.f1 = some (meetB a b c d) := by
  have hj : ∀ x : Bool, silversideref01_meet.j0 (k + 1) x a.f0 a.f1 b.f0 b.f1 c.f0 c.f1 d.f0 d.f1 = some (x || (onB a b c || (onB a b d || (onB c d a || onB c d b)))) := by
    intro x
    rw [silversideref01_meet.j0, on_is ha hb hc, on_is ha hb hd, on_is hc hd ha, on_is hc hd hb]
    simp only [Option.bind_some]
    cases x <;> cases onB a b c <;> cases onB a b d <;> cases onB c d a <;> cases onB c d b <;> rfl
  unfold silversideref01_meet.f meetB
  simp only [refturn_same, hj]
  rw [turn_is ha hb hc, turn_is ha hb hd, turn_is hc hd ha, turn_is hc hd hb]
  simp only [Option.bind_some, w64_sgn]
  by_cases h : sgn (crs a b c) * sgn (crs a b d) < 0
  · rw [if_pos h, decide_eq_true h]
    generalize decide (sgn (crs c d a) * sgn (crs c d b) < 0) = z
    cases z <;> cases onB a b c <;> cases onB a b d <;> cases onB c d a <;> cases onB c d b <;> rfl
  · rw [if_neg h, decide_eq_false h]
    cases onB a b c <;> cases onB a b d <;> cases onB c d a <;> cases onB c d b <;> rfl
end Go.Proofs.Ythaklbjcjoolcaa.P
