/- Proved here: what functions that the law reaches compute, and plain laws of that. Put together by a program; a part was printed by one (wip/printplus.py). -/
import Derived.Test.YthaklbjcjoolcaaBPlaneTiles1
import Derived.Test.YthaklbjcjoolcaaBPlaneTiles4
import Derived.Test.YthaklbjcjoolcaaCPlaneTiles1
set_option linter.unusedVariables false
set_option linter.unusedSimpArgs false
namespace Go.Proofs.Ythaklbjcjoolcaa.P
open Go.RowKit YthaklbjcjoolcaaW.PrintWords YthaklbjcjoolcaaW.PrintLast YthaklbjcjoolcaaW.PrintMore
attribute [local go_sem] max2_int min2_int max_two min_two max_three min_three max_four min_four

attribute [local go_sem high] eqA31
mutual
def R1_Simple.j0 : Nat → List (S31) → Int → Bool → Option (Bool)
 | 0, _, _, _ => none
 | k + 1, x0, x3, x21 => if x21 = true then (some false) else (R1_Simple.l0 k x0 x3 0)
def R1_Simple.l0 : Nat → List (S31) → Int → Int → Option (Bool)
 | 0, _, _, _ => none
 | k + 1, x0, x3, x4 => if x4 < x3 then (if 0 ≤ x4 then (if x4 < (x0.length : Int) then ((R1_next.f x4 x3).bind fun t262 => (if 0 ≤ t262 then (if t262 < (x0.length : Int) then (if (((rd_T31 x0 x4).f0) == ((rd_T31 x0 t262).f0) && (((rd_T31 x0 x4).f1) == ((rd_T31 x0 t262).f1))) = true then (some false) else (R1_Simple.l0 k x0 x3 (wrap64 (x4 + 1)))) else (none)) else (none))) else (none)) else (none)) else (R1_Simple.l1 k x0 x3 0)
def R1_Simple.l1 : Nat → List (S31) → Int → Int → Option (Bool)
 | 0, _, _, _ => none
 | k + 1, x0, x3, x5 => if x5 < x3 then ((R1_next.f x5 x3).bind fun t264 => ((R1_next.f t264 x3).bind fun t265 => (if 0 ≤ x5 then (if x5 < (x0.length : Int) then (if 0 ≤ t264 then (if t264 < (x0.length : Int) then (if 0 ≤ t265 then (if t265 < (x0.length : Int) then ((R1_Turn.f ((rd_T31 x0 x5).f0) ((rd_T31 x0 x5).f1) ((rd_T31 x0 t264).f0) ((rd_T31 x0 t264).f1) ((rd_T31 x0 t265).f0) ((rd_T31 x0 t265).f1)).bind fun t269 => (if t269 = 0 then ((R1_on.f ((rd_T31 x0 x5).f0) ((rd_T31 x0 x5).f1) ((rd_T31 x0 t264).f0) ((rd_T31 x0 t264).f1) ((rd_T31 x0 t265).f0) ((rd_T31 x0 t265).f1)).bind fun t273 => (if t273 = true then (R1_Simple.j3 k x0 x3 x5 t264 true) else ((R1_on.f ((rd_T31 x0 t264).f0) ((rd_T31 x0 t264).f1) ((rd_T31 x0 t265).f0) ((rd_T31 x0 t265).f1) ((rd_T31 x0 x5).f0) ((rd_T31 x0 x5).f1)).bind fun t277 => (R1_Simple.j3 k x0 x3 x5 t264 t277)))) else (R1_Simple.j3 k x0 x3 x5 t264 false))) else (none)) else (none)) else (none)) else (none)) else (none)) else (none)))) else (some true)
def R1_Simple.j3 : Nat → List (S31) → Int → Int → Int → Bool → Option (Bool)
 | 0, _, _, _, _, _ => none
 | k + 1, x0, x3, x5, x6, x92 => if x92 = true then (some false) else (R1_Simple.l2 k x0 x3 x5 x6 (wrap64 (x5 + 2)))
def R1_Simple.l2 : Nat → List (S31) → Int → Int → Int → Int → Option (Bool)
 | 0, _, _, _, _, _ => none
 | k + 1, x0, x3, x5, x6, x8 => if x8 < x3 then ((R1_next.f x8 x3).bind fun t278 => (if t278 = x5 then (R1_Simple.l2 k x0 x3 x5 x6 (wrap64 (x8 + 1))) else (if 0 ≤ x5 then (if x5 < (x0.length : Int) then (if 0 ≤ x6 then (if x6 < (x0.length : Int) then (if 0 ≤ x8 then (if x8 < (x0.length : Int) then ((R1_next.f x8 x3).bind fun t282 => (if 0 ≤ t282 then (if t282 < (x0.length : Int) then ((R1_meet.f k ((rd_T31 x0 x5).f0) ((rd_T31 x0 x5).f1) ((rd_T31 x0 x6).f0) ((rd_T31 x0 x6).f1) ((rd_T31 x0 x8).f0) ((rd_T31 x0 x8).f1) ((rd_T31 x0 t282).f0) ((rd_T31 x0 t282).f1)).bind fun t284 => (if t284 = true then (some false) else (R1_Simple.l2 k x0 x3 x5 x6 (wrap64 (x8 + 1))))) else (none)) else (none))) else (none)) else (none)) else (none)) else (none)) else (none)) else (none)))) else (R1_Simple.l1 k x0 x3 (wrap64 (x5 + 1)))
end
def R1_Simple.f (k : Nat) (l0 : List (S31)) : Option (Bool) := if (l0.length : Int) < 3 then (R1_Simple.j0 k l0 (l0.length : Int) true) else (if (l0.length : Int) > 512 then (R1_Simple.j0 k l0 (l0.length : Int) true) else ((R1_Valids.f k l0).bind fun t260 => (R1_Simple.j0 k l0 (l0.length : Int) (!t260))))
theorem R1_Simple.mono_l : ∀ k, (∀ y0 y1 y2, LeO (R1_Simple.j0 k y0 y1 y2) (R1_Simple.j0 (k + 1) y0 y1 y2)) ∧ (∀ y0 y1 y2, LeO (R1_Simple.l0 k y0 y1 y2) (R1_Simple.l0 (k + 1) y0 y1 y2)) ∧ (∀ y0 y1 y2, LeO (R1_Simple.l1 k y0 y1 y2) (R1_Simple.l1 (k + 1) y0 y1 y2)) ∧ (∀ y0 y1 y2 y3 y4, LeO (R1_Simple.j3 k y0 y1 y2 y3 y4) (R1_Simple.j3 (k + 1) y0 y1 y2 y3 y4)) ∧ (∀ y0 y1 y2 y3 y4, LeO (R1_Simple.l2 k y0 y1 y2 y3 y4) (R1_Simple.l2 (k + 1) y0 y1 y2 y3 y4))
 | 0 => ⟨fun _ _ _ r h => by simp [R1_Simple.j0] at h, fun _ _ _ r h => by simp [R1_Simple.l0] at h, fun _ _ _ r h => by simp [R1_Simple.l1] at h, fun _ _ _ _ _ r h => by simp [R1_Simple.j3] at h, fun _ _ _ _ _ r h => by simp [R1_Simple.l2] at h⟩
 | k + 1 => by
  obtain ⟨ih0, ih1, ih2, ih3, ih4⟩ := R1_Simple.mono_l k
  refine ⟨?_, ?_, ?_, ?_, ?_⟩
  ·intro y0 y1 y2
   unfold R1_Simple.j0
   repeat' first
   | (with_reducible exact ih0 _ _ _)
   | (with_reducible exact ih1 _ _ _)
   | (with_reducible exact ih2 _ _ _)
   | (with_reducible exact ih3 _ _ _ _ _)
   | (with_reducible exact ih4 _ _ _ _ _)
   | (with_reducible exact R1_Valids.mono _ _)
   | (with_reducible exact R1_meet.mono _ _ _ _ _ _ _ _ _)
   | (with_reducible first | exact LeO.refl _ | exact LeO.none _ | refine LeO.ite ?_ ?_ | refine LeO.bind ?_ (fun _ => ?_))
   | exact ih0 _ _ _
   | exact ih1 _ _ _
   | exact ih2 _ _ _
   | exact ih3 _ _ _ _ _
   | exact ih4 _ _ _ _ _
   | exact R1_Valids.mono _ _
   | exact R1_meet.mono _ _ _ _ _ _ _ _ _
   | exact LeO.none _ | refine LeO.ite ?_ ?_ | refine LeO.bind ?_ (fun _ => ?_)
  ·intro y0 y1 y2
   unfold R1_Simple.l0
   repeat' first
   | (with_reducible exact ih0 _ _ _)
   | (with_reducible exact ih1 _ _ _)
   | (with_reducible exact ih2 _ _ _)
   | (with_reducible exact ih3 _ _ _ _ _)
   | (with_reducible exact ih4 _ _ _ _ _)
   | (with_reducible exact R1_Valids.mono _ _)
   | (with_reducible exact R1_meet.mono _ _ _ _ _ _ _ _ _)
   | (with_reducible first | exact LeO.refl _ | exact LeO.none _ | refine LeO.ite ?_ ?_ | refine LeO.bind ?_ (fun _ => ?_))
   | exact ih0 _ _ _
   | exact ih1 _ _ _
   | exact ih2 _ _ _
   | exact ih3 _ _ _ _ _
   | exact ih4 _ _ _ _ _
   | exact R1_Valids.mono _ _
   | exact R1_meet.mono _ _ _ _ _ _ _ _ _
   | exact LeO.none _ | refine LeO.ite ?_ ?_ | refine LeO.bind ?_ (fun _ => ?_)
  ·intro y0 y1 y2
   unfold R1_Simple.l1
   repeat' first
   | (with_reducible exact ih0 _ _ _)
   | (with_reducible exact ih1 _ _ _)
   | (with_reducible exact ih2 _ _ _)
   | (with_reducible exact ih3 _ _ _ _ _)
   | (with_reducible exact ih4 _ _ _ _ _)
   | (with_reducible exact R1_Valids.mono _ _)
   | (with_reducible exact R1_meet.mono _ _ _ _ _ _ _ _ _)
   | (with_reducible first | exact LeO.refl _ | exact LeO.none _ | refine LeO.ite ?_ ?_ | refine LeO.bind ?_ (fun _ => ?_))
   | exact ih0 _ _ _
   | exact ih1 _ _ _
   | exact ih2 _ _ _
   | exact ih3 _ _ _ _ _
   | exact ih4 _ _ _ _ _
   | exact R1_Valids.mono _ _
   | exact R1_meet.mono _ _ _ _ _ _ _ _ _
   | exact LeO.none _ | refine LeO.ite ?_ ?_ | refine LeO.bind ?_ (fun _ => ?_)
  ·intro y0 y1 y2 y3 y4
   unfold R1_Simple.j3
   repeat' first
   | (with_reducible exact ih0 _ _ _)
   | (with_reducible exact ih1 _ _ _)
   | (with_reducible exact ih2 _ _ _)
   | (with_reducible exact ih3 _ _ _ _ _)
   | (with_reducible exact ih4 _ _ _ _ _)
   | (with_reducible exact R1_Valids.mono _ _)
   | (with_reducible exact R1_meet.mono _ _ _ _ _ _ _ _ _)
   | (with_reducible first | exact LeO.refl _ | exact LeO.none _ | refine LeO.ite ?_ ?_ | refine LeO.bind ?_ (fun _ => ?_))
   | exact ih0 _ _ _
   | exact ih1 _ _ _
   | exact ih2 _ _ _
   | exact ih3 _ _ _ _ _
   | exact ih4 _ _ _ _ _
   | exact R1_Valids.mono _ _
   | exact R1_meet.mono _ _ _ _ _ _ _ _ _
   | exact LeO.none _ | refine LeO.ite ?_ ?_ | refine LeO.bind ?_ (fun _ => ?_)
  ·intro y0 y1 y2 y3 y4
   unfold R1_Simple.l2
   repeat' first
   | (with_reducible exact ih0 _ _ _)
   | (with_reducible exact ih1 _ _ _)
   | (with_reducible exact ih2 _ _ _)
   | (with_reducible exact ih3 _ _ _ _ _)
   | (with_reducible exact ih4 _ _ _ _ _)
   | (with_reducible exact R1_Valids.mono _ _)
   | (with_reducible exact R1_meet.mono _ _ _ _ _ _ _ _ _)
   | (with_reducible first | exact LeO.refl _ | exact LeO.none _ | refine LeO.ite ?_ ?_ | refine LeO.bind ?_ (fun _ => ?_))
   | exact ih0 _ _ _
   | exact ih1 _ _ _
   | exact ih2 _ _ _
   | exact ih3 _ _ _ _ _
   | exact ih4 _ _ _ _ _
   | exact R1_Valids.mono _ _
   | exact R1_meet.mono _ _ _ _ _ _ _ _ _
   | exact LeO.none _ | refine LeO.ite ?_ ?_ | refine LeO.bind ?_ (fun _ => ?_)
theorem R1_Simple.mono : ∀ a0 k, LeO (R1_Simple.f k a0) (R1_Simple.f (k + 1) a0) := by
 intro a0 k
 obtain ⟨ih0, ih1, ih2, ih3, ih4⟩ := R1_Simple.mono_l k
 unfold R1_Simple.f
 repeat' first
   | (with_reducible exact ih0 _ _ _)
   | (with_reducible exact ih1 _ _ _)
   | (with_reducible exact ih2 _ _ _)
   | (with_reducible exact ih3 _ _ _ _ _)
   | (with_reducible exact ih4 _ _ _ _ _)
   | (with_reducible exact R1_Valids.mono _ _)
   | (with_reducible exact R1_meet.mono _ _ _ _ _ _ _ _ _)
   | (with_reducible first | exact LeO.refl _ | exact LeO.none _ | refine LeO.ite ?_ ?_ | refine LeO.bind ?_ (fun _ => ?_))
   | exact ih0 _ _ _
   | exact ih1 _ _ _
   | exact ih2 _ _ _
   | exact ih3 _ _ _ _ _
   | exact ih4 _ _ _ _ _
   | exact R1_Valids.mono _ _
   | exact R1_meet.mono _ _ _ _ _ _ _ _ _
   | exact LeO.none _ | refine LeO.ite ?_ ?_ | refine LeO.bind ?_ (fun _ => ?_)
def R1_Simple.T7 : Bool × List (List Nat × List Nat) := (true, [([], []), ([], []), ([0, 1], [0, 1]), ([2], [2]), ([], []), ([], []), ([], []), ([5, 6], [5, 6]), ([4, 7], [4, 7]), ([8], [8]), ([3, 9], [3, 9])])
def R1_Simple.B7 : List Nat := [0, 0, 3, 7, 0, 0, 0, 96, 240, 496, 1023]
theorem R1_Simple.tab7 : rtab .any (opsOf Try.f26 7) = R1_Simple.T7 := by kernel_rfl
theorem R1_Simple.bits7 : waitsOk R1_Simple.T7.2 R1_Simple.B7 = true := by kernel_rfl
def R1_Simple.T14 : Bool × List (List Nat × List Nat) := (true, [([], []), ([], []), ([0, 1], [0, 1]), ([2], [2]), ([], []), ([], []), ([4, 5], [4, 5]), ([6], [6]), ([], []), ([], []), ([8, 9], [8, 9]), ([10], [10]), ([3, 7, 11], [3, 7, 11]), ([12], [12]), ([13, 12], [13]), ([14], [14]), ([14], [14]), ([15, 16, 14], [14, 15, 16]), ([17, 14], [14, 17]), ([14], [14]), ([14], [14]), ([19, 20, 14], [14, 19, 20]), ([21, 14], [14, 21]), ([14], [14]), ([14], [14]), ([23, 24, 14], [14, 23, 24]), ([25, 14], [14, 25]), ([18, 22, 26, 14, 14], [14, 18, 22, 26]), ([27, 27, 14], [14, 27]), ([28], [28]), ([28], [28]), ([29, 30, 28], [28, 29, 30]), ([31, 28], [28, 31]), ([28], [28]), ([28], [28]), ([33, 34, 28], [28, 33, 34]), ([35, 28], [28, 35]), ([28], [28]), ([28], [28]), ([37, 38, 28], [28, 37, 38]), ([39, 28], [28, 39]), ([32, 36, 40, 28, 28], [28, 32, 36, 40]), ([28, 41, 14], [14, 28, 41]), ([14, 42], [14, 42])])
def R1_Simple.B14 : List Nat := [0, 0, 3, 7, 0, 0, 48, 112, 0, 0, 768, 1792, 4095, 8191, 16383, 32767, 32767, 131071, 262143, 32767, 32767, 1605631, 3702783, 32767, 32767, 25198591, 58753023, 134217727, 268435455, 536870911, 536870911, 2147483647, 4294967295, 536870911, 536870911, 26306674687, 60666413055, 536870911, 536870911, 412853731327, 962609545215, 2199023255551, 4398046511103, 8796093022207]
theorem R1_Simple.tab14 : rtab .any (opsOf Try.f26 14) = R1_Simple.T14 := by kernel_rfl
theorem R1_Simple.bits14 : waitsOk R1_Simple.T14.2 R1_Simple.B14 = true := by kernel_rfl
def R1_Simple.T19 : Bool × List (List Nat × List Nat) := (true, [([], []), ([], []), ([0, 1], [0, 1]), ([], []), ([2, 3], [2, 3]), ([4, 2], [4]), ([5], [5]), ([5], [5]), ([6, 7, 5], [5, 6, 7]), ([8, 5], [5, 8]), ([5], [5]), ([5], [5]), ([10, 11, 5], [5, 10, 11]), ([12, 5], [5, 12]), ([5], [5]), ([5], [5]), ([14, 15, 5], [5, 14, 15]), ([16, 5], [5, 16]), ([5], [5]), ([5], [5]), ([5], [5]), ([19, 20, 5, 5], [5, 19, 20]), ([18, 21, 5], [5, 18, 21]), ([22, 5], [5, 22]), ([9, 13, 17, 23, 21, 5], [5, 9, 13, 17, 23]), ([5, 24], [5, 24])])
def R1_Simple.B19 : List Nat := [0, 0, 3, 0, 15, 31, 63, 63, 255, 511, 63, 63, 3135, 7231, 63, 63, 49215, 114751, 63, 63, 63, 1572927, 3932223, 8126527, 16777215, 33554431]
theorem R1_Simple.tab19 : rtab .any (opsOf Try.f26 19) = R1_Simple.T19 := by kernel_rfl
theorem R1_Simple.bits19 : waitsOk R1_Simple.T19.2 R1_Simple.B19 = true := by kernel_rfl
set_option maxHeartbeats 8000000 in
set_option maxRecDepth 100000 in
theorem R1_Simple.calls (k : Nat) (A0 : Option Addr) (c0 : Nat) (l0 : List (S31)) (r : Bool) (w : World) (hr0 : Kd.C k31 w A0 l0.length l0) (hc0 : l0.length ≤ c0) (h : R1_Simple.f k l0 = some r) :
  Calls Try.prog 26 #[.slice A0 l0.length c0] w fun e w' => e = .returned (.bool r) ∧ Below w.heap.size w w' := by
 have hu31 := Try.underlying31
 have HR0 := Aside0.mk hr0
 have HC0 := Aside0.mk hc0
 clear hr0 hc0
 have HB := Aside0.mk (Below.refl w.heap.size w)
 have H : (if (l0.length : Int) < 3 then (R1_Simple.j0 k l0 (l0.length : Int) true) else (if (l0.length : Int) > 512 then (R1_Simple.j0 k l0 (l0.length : Int) true) else ((R1_Valids.f k l0).bind fun t260 => (R1_Simple.j0 k l0 (l0.length : Int) (!t260))))) = some r := h
 clear h
 have HC2 := Aside0.mk H
 clear H
 go_enter Try.func26, Try.ntmps26
 go_upto_region 2 with (fail)
 go_cut [21] (fun v21 wc => ∃ (kq : Nat) (x21_1 : Bool), v21 = .bool x21_1 ∧ Aside0 (R1_Simple.j0 kq l0 (l0.length : Int) x21_1 = some r) ∧ Aside0 (kq ≤ k) ∧ Aside0 (Below w.heap.size w wc))
 case first =>
  have H := HC2.out
  clear HC2
  by_cases c3 : (l0.length : Int) < 3
  ·rw [if_pos c3] at H
   have c3b0 : decide ((l0.length : Int) < 3) = true := decide_eq_true c3
   have c3b1 : decide (l0.length < 3) = true := decide_eq_true (by omega)
   clear c3
   (first | rw [c3b0] | (simp only [i64_w, i32_w]; rw [c3b0]) | skip)
   have H' := Aside0.mk H
   clear H
   go_wp2
   go_meet
   case rel => exact ⟨_, (true), (by first | rfl | (simp; done) | (simp [*]; done)), H', ⟨by first | omega | exact Nat.le_refl _⟩, ⟨by repeat (first | (with_reducible first | exact HB.out | apply lA | apply lN | apply lD) | exact HB.out)⟩⟩
  rw [if_neg c3] at H
  have c3b0 : decide ((l0.length : Int) < 3) = false := decide_eq_false c3
  have c3b1 : decide (l0.length < 3) = false := decide_eq_false (by omega)
  clear c3
  (first | rw [c3b0] | (simp only [i64_w, i32_w]; rw [c3b0]) | skip)
  by_cases c4 : (l0.length : Int) > 512
  ·rw [if_pos c4] at H
   have c4b0 : decide (512 < (l0.length : Int)) = true := decide_eq_true c4
   have c4b1 : decide (512 < l0.length) = true := decide_eq_true (by omega)
   clear c4
   have H' := Aside0.mk H
   clear H
   go_wp2
   go_meet
   case rel => exact ⟨_, (true), (by first | rfl | (simp; done) | (simp [*]; done)), H', ⟨by first | omega | exact Nat.le_refl _⟩, ⟨by repeat (first | (with_reducible first | exact HB.out | apply lA | apply lN | apply lD) | exact HB.out)⟩⟩
  rw [if_neg c4] at H
  have c4b0 : decide (512 < (l0.length : Int)) = false := decide_eq_false c4
  have c4b1 : decide (512 < l0.length) = false := decide_eq_false (by omega)
  clear c4
  replace H := Option.bind_eq_some_iff.mp H
  obtain ⟨t260, A50, H⟩ := H
  replace H : (R1_Simple.j0 k l0 (l0.length : Int) (!t260)) = some r := H
  have A5 := Aside0.mk A50
  clear A50
  have H' := Aside0.mk H
  clear H
  go_wp2_with (first | (go_at_call 22; (with_reducible refine (R1_Valids.calls k _ _ l0 t260 _ ?side1 ?side2 A5.out).mono ?_); (case side1 => repeat (first | exact (Kd.C_below HR0.out HB.out) | (with_reducible refine Kd.C_alloc ?_ _) | (with_reducible refine Kd.C_drewN ?_ _) | (with_reducible refine Kd.C_drew ?_))); (case side2 => exact HC0.out); rintro e w6 ⟨rfl, hb⟩; have n0_ := Aside0.mk (below_step lB hb); clear HB; have HB := n0_; clear n0_; (try clear hb); (try clear hb2); (try clear hk); (try clear hi)))
  go_meet
  case rel => exact ⟨_, (!t260), (by first | rfl | (simp; done) | (simp [*]; done)), H', ⟨by first | omega | exact Nat.le_refl _⟩, ⟨by repeat (first | (with_reducible first | exact HB.out | apply lA | apply lN | apply lD) | exact HB.out)⟩⟩
 case rest =>
  clear HC2
  try clear c2
  try clear p2
  try clear c3
  try clear c3b0
  try clear c3b1
  try clear c4
  try clear c4b0
  try clear c4b1
  obtain ⟨kq, x21_1, rfl, HA, HJ1, HB⟩ := hcut
  cases kq with
  | zero => exact absurd HA.out (by simp [R1_Simple.j0])
  | succ kj1 =>
   have H := HA.out
   clear HA
   simp only [R1_Simple.j0] at H
   by_cases c7 : x21_1 = true
   ·subst c7
    have H1 : (some false) = some r := by rw [if_pos rfl] at H; exact H
    clear H
    have H := H1
    clear H1
    obtain rfl := Option.some.inj H
    go_wp2
    go_ret
    exact en
   replace c7 := Bool.eq_false_iff.mpr c7
   subst c7
   have H1 : (R1_Simple.l0 kj1 l0 (l0.length : Int) 0) = some r := by rw [if_neg (show ¬ (false = true) by decide)] at H; exact H
   clear H
   have H := H1
   clear H1
   have H' := Aside0.mk H
   clear H
   go_wp2
   go_loopg [4] kj1 (fun kq v4 w' => ∃ (x4_2 : Int), v4 = .int .i64 x4_2 ∧ Aside0 (R1_Simple.l0 kq l0 (l0.length : Int) x4_2 = some r) ∧ Aside0 (kq ≤ kj1) ∧ Aside0 (Below w.heap.size w w'))
   case atStart => exact ⟨(0), (by first | rfl | (simp; done) | (simp [*]; done)), H', ⟨Nat.le_refl _⟩, ⟨by repeat (first | (with_reducible first | exact HB.out | apply lA | apply lN | apply lD) | exact HB.out)⟩⟩
   case round =>
    clear H'
    try clear c2
    try clear p2
    try clear c3
    try clear c3b0
    try clear c3b1
    try clear c4
    try clear c4b0
    try clear c4b1
    try clear c7
    try clear p2
    obtain ⟨x4_2, rfl, HA, HK2, HB⟩ := hrel
    cases gk with
    | zero => exact absurd HA.out (by simp [R1_Simple.l0])
    | succ k2 =>
     have H := HA.out
     clear HA
     simp only [R1_Simple.l0] at H
     by_cases c8 : x4_2 < (l0.length : Int)
     ·rw [if_pos c8] at H
      have c8b0 : decide (x4_2 < (l0.length : Int)) = true := decide_eq_true c8
      clear c8
      by_cases c9 : 0 ≤ x4_2
      rotate_left
      ·rw [if_neg c9] at H; exact absurd H (by simp)
      rw [if_pos c9] at H
      have c9b0 : decide (0 ≤ x4_2) = true := decide_eq_true c9
      clear c9
      by_cases c10 : x4_2 < (l0.length : Int)
      rotate_left
      ·rw [if_neg c10] at H; exact absurd H (by simp)
      rw [if_pos c10] at H
      have c10b0 : decide (x4_2 < (l0.length : Int)) = true := decide_eq_true c10
      clear c10
      replace H := Option.bind_eq_some_iff.mp H
      obtain ⟨t262, A110, H⟩ := H
      replace H : (if 0 ≤ t262 then (if t262 < (l0.length : Int) then (if (((rd_T31 l0 x4_2).f0) == ((rd_T31 l0 t262).f0) && (((rd_T31 l0 x4_2).f1) == ((rd_T31 l0 t262).f1))) = true then (some false) else (R1_Simple.l0 k2 l0 (l0.length : Int) (wrap64 (x4_2 + 1)))) else (none)) else (none)) = some r := H
      have A11 := Aside0.mk A110
      clear A110
      by_cases c12 : 0 ≤ t262
      rotate_left
      ·rw [if_neg c12] at H; exact absurd H (by simp)
      rw [if_pos c12] at H
      have c12b0 : decide (0 ≤ t262) = true := decide_eq_true c12
      clear c12
      by_cases c13 : t262 < (l0.length : Int)
      rotate_left
      ·rw [if_neg c13] at H; exact absurd H (by simp)
      rw [if_pos c13] at H
      have c13b0 : decide (t262 < (l0.length : Int)) = true := decide_eq_true c13
      clear c13
      by_cases c14 : (((rd_T31 l0 x4_2).f0) == ((rd_T31 l0 t262).f0) && (((rd_T31 l0 x4_2).f1) == ((rd_T31 l0 t262).f1))) = true
      ·rw [if_pos c14] at H
       have c14b0 : (((rd_T31 l0 x4_2).f0) == ((rd_T31 l0 t262).f0) && (((rd_T31 l0 x4_2).f1) == ((rd_T31 l0 t262).f1))) = true := c14
       (try (have c14b1 : decide (((rd_T31 l0 x4_2).f0) = ((rd_T31 l0 t262).f0) && (((rd_T31 l0 x4_2).f1) == ((rd_T31 l0 t262).f1))) = true := by simpa using c14))
       (try (have c14b2 : (((rd_T31 l0 x4_2).f0) == ((rd_T31 l0 t262).f0) && (((rd_T31 l0 x4_2).f1) == ((rd_T31 l0 t262).f1))) = true := by simpa using c14))
       clear c14
       obtain rfl := Option.some.inj H
       try go_wp2
       replace HB := Aside0.mk (lD HB.out)
       have p261 : 0 ≤ (x4_2 : Int) := of_decide_eq_true (by first | (with_reducible assumption) | assumption)
       have q261 : x4_2 < (l0.length : Int) := of_decide_eq_true (by first | (with_reducible assumption) | assumption)
       obtain ⟨ad261, e261, hx261_0, hx261_1⟩ := at_T31 HR0.out x4_2 p261 q261
       have hw261_1 := hx261_1
       have hw261_0 := hx261_0
       cases e261
       replace hx261_0 := cB HB.out hx261_0
       replace hx261_1 := cB HB.out hx261_1
       replace p261 := eq_true p261
       replace q261 := eq_true q261
       have p263 : 0 ≤ (t262 : Int) := of_decide_eq_true (by first | (with_reducible assumption) | assumption)
       have q263 : t262 < (l0.length : Int) := of_decide_eq_true (by first | (with_reducible assumption) | assumption)
       obtain ⟨ad263, e263, hx263_0, hx263_1⟩ := at_T31 HR0.out t262 p263 q263
       have hw263_1 := hx263_1
       have hw263_0 := hx263_0
       obtain rfl : ad261 = ad263 := (by injection e263)
       replace hx263_0 := cB HB.out hx263_0
       replace hx263_1 := cB HB.out hx263_1
       replace p263 := eq_true p263
       replace q263 := eq_true q263
       refine start_ (n := 11) (S := fun w' => w'.cell? (ad261.add ((x4_2).toNat * 2)) = some (.int .i64 ((rd_T31 l0 x4_2).f0)) ∧ w'.cell? ⟨(ad261.add ((x4_2).toNat * 2)).block, (ad261.add ((x4_2).toNat * 2)).off + 1, none⟩ = some (.int .i64 ((rd_T31 l0 x4_2).f1)) ∧ w'.cell? (ad261.add ((t262).toNat * 2)) = some (.int .i64 ((rd_T31 l0 t262).f0)) ∧ w'.cell? ⟨(ad261.add ((t262).toNat * 2)).block, (ad261.add ((t262).toNat * 2)).off + 1, none⟩ = some (.int .i64 ((rd_T31 l0 t262).f1))) (ds := []) (Bs 0 11) (by kernel_rfl) rfl rfl ⟨(cB HB.out hw261_0), (cB HB.out hw261_1), (cB HB.out hw263_0), (cB HB.out hw263_1)⟩ (fun hHeld => ?_); refine with_tabW R1_Simple.tab7 R1_Simple.bits7 (fun HT_ HW_ => ?_)
       generalize wr.drew = w15 at HB hx261_0 hx261_1 hx263_0 hx263_1 hHeld ⊢
       refine pu 0 27 (Bs 1 11) HT_ ?_
       refine pu 1 28 (Bs 2 11) HT_ ?_
       refine pu 2 29 (Bs 3 11) HT_ ?_
       refine pu 4 31 (Br [3,1,1,6]) HT_ ?_
       refine pu 5 32 (Br [3,1,2,5]) HT_ ?_
       refine pu 6 33 (Br [3,1,3,4]) HT_ ?_
       refine ta 3 30 (Bs 7 11) HT_ HW_ hHeld ?_
       refine one_ (i := 7) (N := some 34) (Bs 8 11) rfl rfl (one_of HT_.out (by kernel_rfl)) (by decide) (fun K hK => ?_)
       refine goes_ Try.func54 (by kernel_rfl) rfl #[.int .i64 x4_2, .int .i64 (l0.length : Int)] (by rfl) rfl rfl (by (try simp only [List.map_toArray, List.map_cons, List.map_nil]); first | done | rfl | (simp only [List.length_drop, List.length_take]; rfl)) ?_
       with_reducible refine (R1_next.calls x4_2 (l0.length : Int) t262 _ A11.out).mono ?_
       rintro e w' ⟨rfl, ⟨nd, rfl⟩⟩
       refine ⟨_, rfl, ?_⟩
       refine hK.out _ _ ⟨(cB HB.out hw261_0), (cB HB.out hw261_1), (cB HB.out hw263_0), (cB HB.out hw263_1)⟩ (fun hHeld => ?_)
       clear hK K
       refine nm 34 ?_
       refine pu 8 35 (Bs 9 11) HT_ ?_
       refine ta 9 36 (Bs 10 11) HT_ HW_ hHeld ?_
       refine pu 10 37 (Bs 11 11) HT_ ?_
       refine done_ (done_of HT_.out (by kernel_rfl)) ?_
       try go_wp2
       go_ret
       exact en
      rw [if_neg c14] at H
      have c14b0 : (((rd_T31 l0 x4_2).f0) == ((rd_T31 l0 t262).f0) && (((rd_T31 l0 x4_2).f1) == ((rd_T31 l0 t262).f1))) = false := by simpa using c14
      (try (have c14b1 : decide (((rd_T31 l0 x4_2).f0) = ((rd_T31 l0 t262).f0) && (((rd_T31 l0 x4_2).f1) == ((rd_T31 l0 t262).f1))) = false := by simpa using c14))
      (try (have c14b2 : (((rd_T31 l0 x4_2).f0) == ((rd_T31 l0 t262).f0) && (((rd_T31 l0 x4_2).f1) == ((rd_T31 l0 t262).f1))) = false := by simpa using c14))
      (try (have c14b3 : ¬ (((rd_T31 l0 x4_2).f0) = ((rd_T31 l0 t262).f0) && (((rd_T31 l0 x4_2).f1) == ((rd_T31 l0 t262).f1))) := by simpa using c14))
      clear c14
      have H' := Aside0.mk H
      clear H
      try go_wp2
      replace HB := Aside0.mk (lD HB.out)
      have p261 : 0 ≤ (x4_2 : Int) := of_decide_eq_true (by first | (with_reducible assumption) | assumption)
      have q261 : x4_2 < (l0.length : Int) := of_decide_eq_true (by first | (with_reducible assumption) | assumption)
      obtain ⟨ad261, e261, hx261_0, hx261_1⟩ := at_T31 HR0.out x4_2 p261 q261
      have hw261_1 := hx261_1
      have hw261_0 := hx261_0
      cases e261
      replace hx261_0 := cB HB.out hx261_0
      replace hx261_1 := cB HB.out hx261_1
      replace p261 := eq_true p261
      replace q261 := eq_true q261
      have p263 : 0 ≤ (t262 : Int) := of_decide_eq_true (by first | (with_reducible assumption) | assumption)
      have q263 : t262 < (l0.length : Int) := of_decide_eq_true (by first | (with_reducible assumption) | assumption)
      obtain ⟨ad263, e263, hx263_0, hx263_1⟩ := at_T31 HR0.out t262 p263 q263
      have hw263_1 := hx263_1
      have hw263_0 := hx263_0
      obtain rfl : ad261 = ad263 := (by injection e263)
      replace hx263_0 := cB HB.out hx263_0
      replace hx263_1 := cB HB.out hx263_1
      replace p263 := eq_true p263
      replace q263 := eq_true q263
      refine start_ (n := 11) (S := fun w' => w'.cell? (ad261.add ((x4_2).toNat * 2)) = some (.int .i64 ((rd_T31 l0 x4_2).f0)) ∧ w'.cell? ⟨(ad261.add ((x4_2).toNat * 2)).block, (ad261.add ((x4_2).toNat * 2)).off + 1, none⟩ = some (.int .i64 ((rd_T31 l0 x4_2).f1)) ∧ w'.cell? (ad261.add ((t262).toNat * 2)) = some (.int .i64 ((rd_T31 l0 t262).f0)) ∧ w'.cell? ⟨(ad261.add ((t262).toNat * 2)).block, (ad261.add ((t262).toNat * 2)).off + 1, none⟩ = some (.int .i64 ((rd_T31 l0 t262).f1))) (ds := []) (Bs 0 11) (by kernel_rfl) rfl rfl ⟨(cB HB.out hw261_0), (cB HB.out hw261_1), (cB HB.out hw263_0), (cB HB.out hw263_1)⟩ (fun hHeld => ?_); refine with_tabW R1_Simple.tab7 R1_Simple.bits7 (fun HT_ HW_ => ?_)
      generalize wr.drew = w16 at HB hx261_0 hx261_1 hx263_0 hx263_1 hHeld ⊢
      refine pu 0 27 (Bs 1 11) HT_ ?_
      refine pu 1 28 (Bs 2 11) HT_ ?_
      refine pu 2 29 (Bs 3 11) HT_ ?_
      refine pu 4 31 (Br [3,1,1,6]) HT_ ?_
      refine pu 5 32 (Br [3,1,2,5]) HT_ ?_
      refine pu 6 33 (Br [3,1,3,4]) HT_ ?_
      refine ta 3 30 (Bs 7 11) HT_ HW_ hHeld ?_
      refine one_ (i := 7) (N := some 34) (Bs 8 11) rfl rfl (one_of HT_.out (by kernel_rfl)) (by decide) (fun K hK => ?_)
      refine goes_ Try.func54 (by kernel_rfl) rfl #[.int .i64 x4_2, .int .i64 (l0.length : Int)] (by rfl) rfl rfl (by (try simp only [List.map_toArray, List.map_cons, List.map_nil]); first | done | rfl | (simp only [List.length_drop, List.length_take]; rfl)) ?_
      with_reducible refine (R1_next.calls x4_2 (l0.length : Int) t262 _ A11.out).mono ?_
      rintro e w' ⟨rfl, ⟨nd, rfl⟩⟩
      refine ⟨_, rfl, ?_⟩
      refine hK.out _ _ ⟨(cB HB.out hw261_0), (cB HB.out hw261_1), (cB HB.out hw263_0), (cB HB.out hw263_1)⟩ (fun hHeld => ?_)
      clear hK K
      refine nm 34 ?_
      refine pu 8 35 (Bs 9 11) HT_ ?_
      refine ta 9 36 (Bs 10 11) HT_ HW_ hHeld ?_
      refine pu 10 37 (Bs 11 11) HT_ ?_
      refine done_ (done_of HT_.out (by kernel_rfl)) ?_
      try go_wp2
      go_roundg k2
      case measure => have := HJ1.out; have := HK2.out; omega
      case rel => exact ⟨(wrap64 (x4_2 + 1)), (by first | rfl | (simp; done) | (simp [*]; done)), H', ⟨by have := HJ1.out; have := HK2.out; omega⟩, ⟨by repeat (first | (with_reducible first | exact HB.out | apply lA | apply lN | apply lD) | exact HB.out)⟩⟩
     rw [if_neg c8] at H
     have c8b0 : decide (x4_2 < (l0.length : Int)) = false := decide_eq_false c8
     clear c8
     have H' := Aside0.mk H
     clear H
     go_wp2
     go_loopg [5] k2 (fun kq v5 w' => ∃ (x5_3 : Int), v5 = .int .i64 x5_3 ∧ Aside0 (R1_Simple.l1 kq l0 (l0.length : Int) x5_3 = some r) ∧ Aside0 (kq ≤ k2) ∧ Aside0 (Below w.heap.size w w'))
     case atStart => exact ⟨(0), (by first | rfl | (simp; done) | (simp [*]; done)), H', ⟨Nat.le_refl _⟩, ⟨by repeat (first | (with_reducible first | exact HB.out | apply lA | apply lN | apply lD) | exact HB.out)⟩⟩
     case round =>
      clear H'
      try clear c1
      try clear c2
      try clear p2
      try clear q2
      try clear hx2
      try clear c3
      try clear c3b0
      try clear c3b1
      try clear c4
      try clear c4b0
      try clear c4b1
      try clear c5
      try clear p6
      try clear c7
      try clear c8
      try clear c8b0
      try clear c9
      try clear c9b0
      try clear c10
      try clear c10b0
      try clear c12
      try clear c12b0
      try clear c13
      try clear c13b0
      try clear c14
      try clear c14b0
      try clear c14b1
      try clear c14b2
      try clear hx261_0
      try clear hx261_1
      try clear hx263_0
      try clear hx263_1
      try clear p2
      try clear p261
      try clear p263
      try clear q261
      try clear q263
      obtain ⟨x5_3, rfl, HA, HK3, HB⟩ := hrel
      cases gk with
      | zero => exact absurd HA.out (by simp [R1_Simple.l1])
      | succ k3 =>
       have H := HA.out
       clear HA
       simp only [R1_Simple.l1] at H
       by_cases c17 : x5_3 < (l0.length : Int)
       rotate_left
       ·rw [if_neg c17] at H
        have c17b0 : decide (x5_3 < (l0.length : Int)) = false := decide_eq_false c17
        clear c17
        obtain rfl := Option.some.inj H
        go_wp2
        go_ret
        exact en
       rw [if_pos c17] at H
       have c17b0 : decide (x5_3 < (l0.length : Int)) = true := decide_eq_true c17
       clear c17
       replace H := Option.bind_eq_some_iff.mp H
       obtain ⟨t264, A180, H⟩ := H
       replace H : ((R1_next.f t264 (l0.length : Int)).bind fun t265 => (if 0 ≤ x5_3 then (if x5_3 < (l0.length : Int) then (if 0 ≤ t264 then (if t264 < (l0.length : Int) then (if 0 ≤ t265 then (if t265 < (l0.length : Int) then ((R1_Turn.f ((rd_T31 l0 x5_3).f0) ((rd_T31 l0 x5_3).f1) ((rd_T31 l0 t264).f0) ((rd_T31 l0 t264).f1) ((rd_T31 l0 t265).f0) ((rd_T31 l0 t265).f1)).bind fun t269 => (if t269 = 0 then ((R1_on.f ((rd_T31 l0 x5_3).f0) ((rd_T31 l0 x5_3).f1) ((rd_T31 l0 t264).f0) ((rd_T31 l0 t264).f1) ((rd_T31 l0 t265).f0) ((rd_T31 l0 t265).f1)).bind fun t273 => (if t273 = true then (R1_Simple.j3 k3 l0 (l0.length : Int) x5_3 t264 true) else ((R1_on.f ((rd_T31 l0 t264).f0) ((rd_T31 l0 t264).f1) ((rd_T31 l0 t265).f0) ((rd_T31 l0 t265).f1) ((rd_T31 l0 x5_3).f0) ((rd_T31 l0 x5_3).f1)).bind fun t277 => (R1_Simple.j3 k3 l0 (l0.length : Int) x5_3 t264 t277)))) else (R1_Simple.j3 k3 l0 (l0.length : Int) x5_3 t264 false))) else (none)) else (none)) else (none)) else (none)) else (none)) else (none))) = some r := H
       have A18 := Aside0.mk A180
       clear A180
       replace H := Option.bind_eq_some_iff.mp H
       obtain ⟨t265, A190, H⟩ := H
       replace H : (if 0 ≤ x5_3 then (if x5_3 < (l0.length : Int) then (if 0 ≤ t264 then (if t264 < (l0.length : Int) then (if 0 ≤ t265 then (if t265 < (l0.length : Int) then ((R1_Turn.f ((rd_T31 l0 x5_3).f0) ((rd_T31 l0 x5_3).f1) ((rd_T31 l0 t264).f0) ((rd_T31 l0 t264).f1) ((rd_T31 l0 t265).f0) ((rd_T31 l0 t265).f1)).bind fun t269 => (if t269 = 0 then ((R1_on.f ((rd_T31 l0 x5_3).f0) ((rd_T31 l0 x5_3).f1) ((rd_T31 l0 t264).f0) ((rd_T31 l0 t264).f1) ((rd_T31 l0 t265).f0) ((rd_T31 l0 t265).f1)).bind fun t273 => (if t273 = true then (R1_Simple.j3 k3 l0 (l0.length : Int) x5_3 t264 true) else ((R1_on.f ((rd_T31 l0 t264).f0) ((rd_T31 l0 t264).f1) ((rd_T31 l0 t265).f0) ((rd_T31 l0 t265).f1) ((rd_T31 l0 x5_3).f0) ((rd_T31 l0 x5_3).f1)).bind fun t277 => (R1_Simple.j3 k3 l0 (l0.length : Int) x5_3 t264 t277)))) else (R1_Simple.j3 k3 l0 (l0.length : Int) x5_3 t264 false))) else (none)) else (none)) else (none)) else (none)) else (none)) else (none)) = some r := H
       have A19 := Aside0.mk A190
       clear A190
       have HC20 := Aside0.mk H
       clear H
       go_upto_region 14 with (first | ((with_reducible refine gate_callee (f := 54) rfl ?_); refine goesL_ (some 45) rfl rfl Try.func54 (by kernel_rfl) rfl #[.int .i64 x5_3, .int .i64 (l0.length : Int)] rfl (by (try simp only [List.map_toArray, List.map_cons, List.map_nil]); first | done | rfl | (simp only [List.length_drop, List.length_take]; rfl)) ?_; (with_reducible refine (R1_next.calls x5_3 (l0.length : Int) t264 _ A18.out).mono ?_); rintro e w' ⟨rfl, ⟨ndA, rfl⟩⟩; refine ⟨_, rfl, ?_⟩) | ((with_reducible refine gate_callee (f := 54) rfl ?_); refine goesL_ (some 48) rfl rfl Try.func54 (by kernel_rfl) rfl #[.int .i64 t264, .int .i64 (l0.length : Int)] rfl (by (try simp only [List.map_toArray, List.map_cons, List.map_nil]); first | done | rfl | (simp only [List.length_drop, List.length_take]; rfl)) ?_; (with_reducible refine (R1_next.calls t264 (l0.length : Int) t265 _ A19.out).mono ?_); rintro e w' ⟨rfl, ⟨ndB, rfl⟩⟩; refine ⟨_, rfl, ?_⟩))
       (try simp only [Act.put, sA, sB, sC])
       go_cut [92] (fun v92 wc => ∃ (kq : Nat) (x92_19 : Bool), v92 = .bool x92_19 ∧ Aside0 (R1_Simple.j3 kq l0 (l0.length : Int) x5_3 t264 x92_19 = some r) ∧ Aside0 (kq ≤ k3) ∧ Aside0 (Below w.heap.size w wc))
       case first =>
        have H := HC20.out
        clear HC20
        by_cases c21 : 0 ≤ x5_3
        rotate_left
        ·rw [if_neg c21] at H; exact absurd H (by simp)
        rw [if_pos c21] at H
        have c21b0 : decide (0 ≤ x5_3) = true := decide_eq_true c21
        clear c21
        (first | rw [c21b0] | (simp only [i64_w, i32_w]; rw [c21b0]) | skip)
        by_cases c22 : x5_3 < (l0.length : Int)
        rotate_left
        ·rw [if_neg c22] at H; exact absurd H (by simp)
        rw [if_pos c22] at H
        have c22b0 : decide (x5_3 < (l0.length : Int)) = true := decide_eq_true c22
        clear c22
        by_cases c23 : 0 ≤ t264
        rotate_left
        ·rw [if_neg c23] at H; exact absurd H (by simp)
        rw [if_pos c23] at H
        have c23b0 : decide (0 ≤ t264) = true := decide_eq_true c23
        clear c23
        by_cases c24 : t264 < (l0.length : Int)
        rotate_left
        ·rw [if_neg c24] at H; exact absurd H (by simp)
        rw [if_pos c24] at H
        have c24b0 : decide (t264 < (l0.length : Int)) = true := decide_eq_true c24
        clear c24
        by_cases c25 : 0 ≤ t265
        rotate_left
        ·rw [if_neg c25] at H; exact absurd H (by simp)
        rw [if_pos c25] at H
        have c25b0 : decide (0 ≤ t265) = true := decide_eq_true c25
        clear c25
        by_cases c26 : t265 < (l0.length : Int)
        rotate_left
        ·rw [if_neg c26] at H; exact absurd H (by simp)
        rw [if_pos c26] at H
        have c26b0 : decide (t265 < (l0.length : Int)) = true := decide_eq_true c26
        clear c26
        replace H := Option.bind_eq_some_iff.mp H
        obtain ⟨t269, A270, H⟩ := H
        replace H : (if t269 = 0 then ((R1_on.f ((rd_T31 l0 x5_3).f0) ((rd_T31 l0 x5_3).f1) ((rd_T31 l0 t264).f0) ((rd_T31 l0 t264).f1) ((rd_T31 l0 t265).f0) ((rd_T31 l0 t265).f1)).bind fun t273 => (if t273 = true then (R1_Simple.j3 k3 l0 (l0.length : Int) x5_3 t264 true) else ((R1_on.f ((rd_T31 l0 t264).f0) ((rd_T31 l0 t264).f1) ((rd_T31 l0 t265).f0) ((rd_T31 l0 t265).f1) ((rd_T31 l0 x5_3).f0) ((rd_T31 l0 x5_3).f1)).bind fun t277 => (R1_Simple.j3 k3 l0 (l0.length : Int) x5_3 t264 t277)))) else (R1_Simple.j3 k3 l0 (l0.length : Int) x5_3 t264 false)) = some r := H
        have A27 := Aside0.mk A270
        clear A270
        by_cases c28 : t269 = 0
        rotate_left
        ·rw [if_neg c28] at H
         have c28b0 : (t269 == 0) = false := beq_eq_false_iff_ne.mpr c28
         have c28b1 : (t269 != 0) = true := bne_iff_ne.mpr c28
         have H' := Aside0.mk H
         clear H
         try go_wp2
         replace HB := Aside0.mk (lD HB.out)
         have p266 : 0 ≤ (x5_3 : Int) := of_decide_eq_true (by first | (with_reducible assumption) | assumption)
         have q266 : x5_3 < (l0.length : Int) := of_decide_eq_true (by first | (with_reducible assumption) | assumption)
         obtain ⟨ad266, e266, hx266_0, hx266_1⟩ := at_T31 HR0.out x5_3 p266 q266
         have hw266_1 := hx266_1
         have hw266_0 := hx266_0
         cases e266
         replace hx266_0 := cB HB.out hx266_0
         replace hx266_1 := cB HB.out hx266_1
         replace p266 := eq_true p266
         replace q266 := eq_true q266
         have p267 : 0 ≤ (t264 : Int) := of_decide_eq_true (by first | (with_reducible assumption) | assumption)
         have q267 : t264 < (l0.length : Int) := of_decide_eq_true (by first | (with_reducible assumption) | assumption)
         obtain ⟨ad267, e267, hx267_0, hx267_1⟩ := at_T31 HR0.out t264 p267 q267
         have hw267_1 := hx267_1
         have hw267_0 := hx267_0
         obtain rfl : ad266 = ad267 := (by injection e267)
         replace hx267_0 := cB HB.out hx267_0
         replace hx267_1 := cB HB.out hx267_1
         replace p267 := eq_true p267
         replace q267 := eq_true q267
         have p268 : 0 ≤ (t265 : Int) := of_decide_eq_true (by first | (with_reducible assumption) | assumption)
         have q268 : t265 < (l0.length : Int) := of_decide_eq_true (by first | (with_reducible assumption) | assumption)
         obtain ⟨ad268, e268, hx268_0, hx268_1⟩ := at_T31 HR0.out t265 p268 q268
         have hw268_1 := hx268_1
         have hw268_0 := hx268_0
         obtain rfl : ad266 = ad268 := (by injection e268)
         replace hx268_0 := cB HB.out hx268_0
         replace hx268_1 := cB HB.out hx268_1
         replace p268 := eq_true p268
         replace q268 := eq_true q268
         refine start_ (n := 44) (S := fun w' => w'.cell? (ad266.add ((x5_3).toNat * 2)) = some (.int .i64 ((rd_T31 l0 x5_3).f0)) ∧ w'.cell? ⟨(ad266.add ((x5_3).toNat * 2)).block, (ad266.add ((x5_3).toNat * 2)).off + 1, none⟩ = some (.int .i64 ((rd_T31 l0 x5_3).f1)) ∧ w'.cell? (ad266.add ((t264).toNat * 2)) = some (.int .i64 ((rd_T31 l0 t264).f0)) ∧ w'.cell? ⟨(ad266.add ((t264).toNat * 2)).block, (ad266.add ((t264).toNat * 2)).off + 1, none⟩ = some (.int .i64 ((rd_T31 l0 t264).f1)) ∧ w'.cell? (ad266.add ((t265).toNat * 2)) = some (.int .i64 ((rd_T31 l0 t265).f0)) ∧ w'.cell? ⟨(ad266.add ((t265).toNat * 2)).block, (ad266.add ((t265).toNat * 2)).off + 1, none⟩ = some (.int .i64 ((rd_T31 l0 t265).f1))) (ds := []) (Bs 0 44) (by kernel_rfl) rfl rfl ⟨(cB HB.out hw266_0), (cB HB.out hw266_1), (cB HB.out hw267_0), (cB HB.out hw267_1), (cB HB.out hw268_0), (cB HB.out hw268_1)⟩ (fun hHeld => ?_); refine with_tabW R1_Simple.tab14 R1_Simple.bits14 (fun HT_ HW_ => ?_)
         replace HB := Aside0.mk (show Below w.heap.size w (wr.drewN (ndA + ndB)).drew from ⟨HB.out.os, HB.out.tape, HB.out.output, HB.out.size, HB.out.block⟩)
         replace hx266_0 := (show World.cell? (wr.drewN (ndA + ndB)).drew _ = _ from hx266_0)
         replace hx266_1 := (show World.cell? (wr.drewN (ndA + ndB)).drew _ = _ from hx266_1)
         replace hx267_0 := (show World.cell? (wr.drewN (ndA + ndB)).drew _ = _ from hx267_0)
         replace hx267_1 := (show World.cell? (wr.drewN (ndA + ndB)).drew _ = _ from hx267_1)
         replace hx268_0 := (show World.cell? (wr.drewN (ndA + ndB)).drew _ = _ from hx268_0)
         replace hx268_1 := (show World.cell? (wr.drewN (ndA + ndB)).drew _ = _ from hx268_1)
         generalize (wr.drewN (ndA + ndB)).drew = w39 at HB hx266_0 hx266_1 hx267_0 hx267_1 hx268_0 hx268_1 hHeld ⊢
         refine pu 0 49 (Bs 1 44) HT_ ?_
         refine pu 1 50 (Bs 2 44) HT_ ?_
         refine pu 2 51 (Bs 3 44) HT_ ?_
         refine pu 4 53 (Br [3,1,1,39]) HT_ ?_
         refine pu 5 54 (Br [3,1,2,38]) HT_ ?_
         refine pu 6 55 (Br [3,1,3,37]) HT_ ?_
         refine pu 8 57 (Br [3,1,3,1,1,35]) HT_ ?_
         refine pu 9 58 (Br [3,1,3,1,2,34]) HT_ ?_
         refine pu 10 59 (Br [3,1,3,1,3,33]) HT_ ?_
         refine ta 3 52 (Br [7,1,3,33]) HT_ HW_ hHeld ?_
         refine ta 7 56 (Bs 11 44) HT_ HW_ hHeld ?_
         refine ta 11 60 (Bs 12 44) HT_ HW_ hHeld ?_
         refine one_ (i := 12) (N := some 61) (Bs 13 44) rfl rfl (one_of HT_.out (by kernel_rfl)) (by decide) (fun K hK => ?_)
         refine goes_ Try.func31 (by kernel_rfl) rfl #[.agg #[.int .i64 ((rd_T31 l0 x5_3).f0), .int .i64 ((rd_T31 l0 x5_3).f1)], .agg #[.int .i64 ((rd_T31 l0 t264).f0), .int .i64 ((rd_T31 l0 t264).f1)], .agg #[.int .i64 ((rd_T31 l0 t265).f0), .int .i64 ((rd_T31 l0 t265).f1)]] (by rfl) rfl rfl (by (try simp only [List.map_toArray, List.map_cons, List.map_nil]); first | done | rfl | (simp only [List.length_drop, List.length_take]; rfl)) ?_
         with_reducible refine (R1_Turn.calls ((rd_T31 l0 x5_3).f0) ((rd_T31 l0 x5_3).f1) ((rd_T31 l0 t264).f0) ((rd_T31 l0 t264).f1) ((rd_T31 l0 t265).f0) ((rd_T31 l0 t265).f1) t269 _ A27.out).mono ?_
         rintro e w40 ⟨rfl, hb⟩
         refine ⟨_, rfl, ?_⟩
         have n0_ := Aside0.mk (below_step lB hb)
         clear HB
         have HB := n0_
         clear n0_
         (try clear hb)
         (try clear hb2)
         (try clear hk)
         (try clear hi)
         refine hK.out _ _ ⟨(cB HB.out hw266_0), (cB HB.out hw266_1), (cB HB.out hw267_0), (cB HB.out hw267_1), (cB HB.out hw268_0), (cB HB.out hw268_1)⟩ (fun hHeld => ?_)
         clear hK K
         refine nm 61 ?_
         refine pu 13 62 (Bs 14 44) HT_ ?_
         refine pu 14 63 (Bs 15 44) HT_ ?_
         refine po 15 64 (Bs 16 44) HT_ ?_
         refine po 16 65 (Bs 17 44) HT_ ?_
         refine po 17 66 (Bs 18 44) HT_ ?_
         refine po 18 67 (Bs 19 44) HT_ ?_
         refine po 19 68 (Bs 20 44) HT_ ?_
         refine po 20 69 (Bs 21 44) HT_ ?_
         refine po 21 70 (Bs 22 44) HT_ ?_
         refine po 22 71 (Bs 23 44) HT_ ?_
         refine po 23 72 (Bs 24 44) HT_ ?_
         refine po 24 73 (Bs 25 44) HT_ ?_
         refine po 25 74 (Bs 26 44) HT_ ?_
         refine po 26 75 (Bs 27 44) HT_ ?_
         refine po 27 76 (Bs 28 44) HT_ ?_
         refine po 28 77 (Bs 29 44) HT_ ?_
         refine po 29 78 (Bs 30 44) HT_ ?_
         refine po 30 79 (Bs 31 44) HT_ ?_
         refine po 31 80 (Bs 32 44) HT_ ?_
         refine po 32 81 (Bs 33 44) HT_ ?_
         refine po 33 82 (Bs 34 44) HT_ ?_
         refine po 34 83 (Bs 35 44) HT_ ?_
         refine po 35 84 (Bs 36 44) HT_ ?_
         refine po 36 85 (Bs 37 44) HT_ ?_
         refine po 37 86 (Bs 38 44) HT_ ?_
         refine po 38 87 (Bs 39 44) HT_ ?_
         refine po 39 88 (Bs 40 44) HT_ ?_
         refine po 40 89 (Bs 41 44) HT_ ?_
         refine po 41 90 (Bs 42 44) HT_ ?_
         refine po 42 91 (Bs 43 44) HT_ ?_
         refine pu 43 92 (Bs 44 44) HT_ ?_
         refine done_ (done_of HT_.out (by kernel_rfl)) ?_
         try go_wp2
         go_meet
         case rel => exact ⟨_, (false), (by first | rfl | (simp; done) | (simp [*]; done)), H', ⟨by have := HJ1.out; have := HK2.out; have := HK3.out; first | omega | exact Nat.le_refl _⟩, ⟨by repeat (first | (with_reducible first | exact HB.out | apply lA | apply lN | apply lD) | exact HB.out)⟩⟩
        rw [if_pos c28] at H
        have c28b0 : (t269 == 0) = true := beq_iff_eq.mpr c28
        have c28b1 : (t269 != 0) = false := bne_eq_false_iff_eq.mpr c28
        clear c28
        replace H := Option.bind_eq_some_iff.mp H
        obtain ⟨t273, A290, H⟩ := H
        replace H : (if t273 = true then (R1_Simple.j3 k3 l0 (l0.length : Int) x5_3 t264 true) else ((R1_on.f ((rd_T31 l0 t264).f0) ((rd_T31 l0 t264).f1) ((rd_T31 l0 t265).f0) ((rd_T31 l0 t265).f1) ((rd_T31 l0 x5_3).f0) ((rd_T31 l0 x5_3).f1)).bind fun t277 => (R1_Simple.j3 k3 l0 (l0.length : Int) x5_3 t264 t277))) = some r := H
        have A29 := Aside0.mk A290
        clear A290
        by_cases c30 : t273 = true
        ·subst c30
         have H1 : (R1_Simple.j3 k3 l0 (l0.length : Int) x5_3 t264 true) = some r := by rw [if_pos rfl] at H; exact H
         clear H
         have H := H1
         clear H1
         have H' := Aside0.mk H
         clear H
         try go_wp2
         replace HB := Aside0.mk (lD HB.out)
         have p266 : 0 ≤ (x5_3 : Int) := of_decide_eq_true (by first | (with_reducible assumption) | assumption)
         have q266 : x5_3 < (l0.length : Int) := of_decide_eq_true (by first | (with_reducible assumption) | assumption)
         obtain ⟨ad266, e266, hx266_0, hx266_1⟩ := at_T31 HR0.out x5_3 p266 q266
         have hw266_1 := hx266_1
         have hw266_0 := hx266_0
         cases e266
         replace hx266_0 := cB HB.out hx266_0
         replace hx266_1 := cB HB.out hx266_1
         replace p266 := eq_true p266
         replace q266 := eq_true q266
         have p267 : 0 ≤ (t264 : Int) := of_decide_eq_true (by first | (with_reducible assumption) | assumption)
         have q267 : t264 < (l0.length : Int) := of_decide_eq_true (by first | (with_reducible assumption) | assumption)
         obtain ⟨ad267, e267, hx267_0, hx267_1⟩ := at_T31 HR0.out t264 p267 q267
         have hw267_1 := hx267_1
         have hw267_0 := hx267_0
         obtain rfl : ad266 = ad267 := (by injection e267)
         replace hx267_0 := cB HB.out hx267_0
         replace hx267_1 := cB HB.out hx267_1
         replace p267 := eq_true p267
         replace q267 := eq_true q267
         have p268 : 0 ≤ (t265 : Int) := of_decide_eq_true (by first | (with_reducible assumption) | assumption)
         have q268 : t265 < (l0.length : Int) := of_decide_eq_true (by first | (with_reducible assumption) | assumption)
         obtain ⟨ad268, e268, hx268_0, hx268_1⟩ := at_T31 HR0.out t265 p268 q268
         have hw268_1 := hx268_1
         have hw268_0 := hx268_0
         obtain rfl : ad266 = ad268 := (by injection e268)
         replace hx268_0 := cB HB.out hx268_0
         replace hx268_1 := cB HB.out hx268_1
         replace p268 := eq_true p268
         replace q268 := eq_true q268
         have p270 : 0 ≤ (x5_3 : Int) := of_decide_eq_true (by first | (with_reducible assumption) | assumption)
         have q270 : x5_3 < (l0.length : Int) := of_decide_eq_true (by first | (with_reducible assumption) | assumption)
         obtain ⟨ad270, e270, hx270_0, hx270_1⟩ := at_T31 HR0.out x5_3 p270 q270
         have hw270_1 := hx270_1
         have hw270_0 := hx270_0
         obtain rfl : ad266 = ad270 := (by injection e270)
         replace hx270_0 := cB HB.out hx270_0
         replace hx270_1 := cB HB.out hx270_1
         replace p270 := eq_true p270
         replace q270 := eq_true q270
         have p271 : 0 ≤ (t264 : Int) := of_decide_eq_true (by first | (with_reducible assumption) | assumption)
         have q271 : t264 < (l0.length : Int) := of_decide_eq_true (by first | (with_reducible assumption) | assumption)
         obtain ⟨ad271, e271, hx271_0, hx271_1⟩ := at_T31 HR0.out t264 p271 q271
         have hw271_1 := hx271_1
         have hw271_0 := hx271_0
         obtain rfl : ad266 = ad271 := (by injection e271)
         replace hx271_0 := cB HB.out hx271_0
         replace hx271_1 := cB HB.out hx271_1
         replace p271 := eq_true p271
         replace q271 := eq_true q271
         have p272 : 0 ≤ (t265 : Int) := of_decide_eq_true (by first | (with_reducible assumption) | assumption)
         have q272 : t265 < (l0.length : Int) := of_decide_eq_true (by first | (with_reducible assumption) | assumption)
         obtain ⟨ad272, e272, hx272_0, hx272_1⟩ := at_T31 HR0.out t265 p272 q272
         have hw272_1 := hx272_1
         have hw272_0 := hx272_0
         obtain rfl : ad266 = ad272 := (by injection e272)
         replace hx272_0 := cB HB.out hx272_0
         replace hx272_1 := cB HB.out hx272_1
         replace p272 := eq_true p272
         replace q272 := eq_true q272
         refine start_ (n := 44) (S := fun w' => w'.cell? (ad266.add ((x5_3).toNat * 2)) = some (.int .i64 ((rd_T31 l0 x5_3).f0)) ∧ w'.cell? ⟨(ad266.add ((x5_3).toNat * 2)).block, (ad266.add ((x5_3).toNat * 2)).off + 1, none⟩ = some (.int .i64 ((rd_T31 l0 x5_3).f1)) ∧ w'.cell? (ad266.add ((t264).toNat * 2)) = some (.int .i64 ((rd_T31 l0 t264).f0)) ∧ w'.cell? ⟨(ad266.add ((t264).toNat * 2)).block, (ad266.add ((t264).toNat * 2)).off + 1, none⟩ = some (.int .i64 ((rd_T31 l0 t264).f1)) ∧ w'.cell? (ad266.add ((t265).toNat * 2)) = some (.int .i64 ((rd_T31 l0 t265).f0)) ∧ w'.cell? ⟨(ad266.add ((t265).toNat * 2)).block, (ad266.add ((t265).toNat * 2)).off + 1, none⟩ = some (.int .i64 ((rd_T31 l0 t265).f1)) ∧ w'.cell? (ad266.add ((x5_3).toNat * 2)) = some (.int .i64 ((rd_T31 l0 x5_3).f0)) ∧ w'.cell? ⟨(ad266.add ((x5_3).toNat * 2)).block, (ad266.add ((x5_3).toNat * 2)).off + 1, none⟩ = some (.int .i64 ((rd_T31 l0 x5_3).f1)) ∧ w'.cell? (ad266.add ((t264).toNat * 2)) = some (.int .i64 ((rd_T31 l0 t264).f0)) ∧ w'.cell? ⟨(ad266.add ((t264).toNat * 2)).block, (ad266.add ((t264).toNat * 2)).off + 1, none⟩ = some (.int .i64 ((rd_T31 l0 t264).f1)) ∧ w'.cell? (ad266.add ((t265).toNat * 2)) = some (.int .i64 ((rd_T31 l0 t265).f0)) ∧ w'.cell? ⟨(ad266.add ((t265).toNat * 2)).block, (ad266.add ((t265).toNat * 2)).off + 1, none⟩ = some (.int .i64 ((rd_T31 l0 t265).f1))) (ds := []) (Bs 0 44) (by kernel_rfl) rfl rfl ⟨(cB HB.out hw266_0), (cB HB.out hw266_1), (cB HB.out hw267_0), (cB HB.out hw267_1), (cB HB.out hw268_0), (cB HB.out hw268_1), (cB HB.out hw270_0), (cB HB.out hw270_1), (cB HB.out hw271_0), (cB HB.out hw271_1), (cB HB.out hw272_0), (cB HB.out hw272_1)⟩ (fun hHeld => ?_); refine with_tabW R1_Simple.tab14 R1_Simple.bits14 (fun HT_ HW_ => ?_)
         replace HB := Aside0.mk (show Below w.heap.size w (wr.drewN (ndA + ndB)).drew from ⟨HB.out.os, HB.out.tape, HB.out.output, HB.out.size, HB.out.block⟩)
         replace hx266_0 := (show World.cell? (wr.drewN (ndA + ndB)).drew _ = _ from hx266_0)
         replace hx266_1 := (show World.cell? (wr.drewN (ndA + ndB)).drew _ = _ from hx266_1)
         replace hx267_0 := (show World.cell? (wr.drewN (ndA + ndB)).drew _ = _ from hx267_0)
         replace hx267_1 := (show World.cell? (wr.drewN (ndA + ndB)).drew _ = _ from hx267_1)
         replace hx268_0 := (show World.cell? (wr.drewN (ndA + ndB)).drew _ = _ from hx268_0)
         replace hx268_1 := (show World.cell? (wr.drewN (ndA + ndB)).drew _ = _ from hx268_1)
         replace hx270_0 := (show World.cell? (wr.drewN (ndA + ndB)).drew _ = _ from hx270_0)
         replace hx270_1 := (show World.cell? (wr.drewN (ndA + ndB)).drew _ = _ from hx270_1)
         replace hx271_0 := (show World.cell? (wr.drewN (ndA + ndB)).drew _ = _ from hx271_0)
         replace hx271_1 := (show World.cell? (wr.drewN (ndA + ndB)).drew _ = _ from hx271_1)
         replace hx272_0 := (show World.cell? (wr.drewN (ndA + ndB)).drew _ = _ from hx272_0)
         replace hx272_1 := (show World.cell? (wr.drewN (ndA + ndB)).drew _ = _ from hx272_1)
         generalize (wr.drewN (ndA + ndB)).drew = w31 at HB hx266_0 hx266_1 hx267_0 hx267_1 hx268_0 hx268_1 hx270_0 hx270_1 hx271_0 hx271_1 hx272_0 hx272_1 hHeld ⊢
         refine pu 0 49 (Bs 1 44) HT_ ?_
         refine pu 1 50 (Bs 2 44) HT_ ?_
         refine pu 2 51 (Bs 3 44) HT_ ?_
         refine pu 4 53 (Br [3,1,1,39]) HT_ ?_
         refine pu 5 54 (Br [3,1,2,38]) HT_ ?_
         refine pu 6 55 (Br [3,1,3,37]) HT_ ?_
         refine pu 8 57 (Br [3,1,3,1,1,35]) HT_ ?_
         refine pu 9 58 (Br [3,1,3,1,2,34]) HT_ ?_
         refine pu 10 59 (Br [3,1,3,1,3,33]) HT_ ?_
         refine ta 3 52 (Br [7,1,3,33]) HT_ HW_ hHeld ?_
         refine ta 7 56 (Bs 11 44) HT_ HW_ hHeld ?_
         refine ta 11 60 (Bs 12 44) HT_ HW_ hHeld ?_
         refine one_ (i := 12) (N := some 61) (Bs 13 44) rfl rfl (one_of HT_.out (by kernel_rfl)) (by decide) (fun K hK => ?_)
         refine goes_ Try.func31 (by kernel_rfl) rfl #[.agg #[.int .i64 ((rd_T31 l0 x5_3).f0), .int .i64 ((rd_T31 l0 x5_3).f1)], .agg #[.int .i64 ((rd_T31 l0 t264).f0), .int .i64 ((rd_T31 l0 t264).f1)], .agg #[.int .i64 ((rd_T31 l0 t265).f0), .int .i64 ((rd_T31 l0 t265).f1)]] (by rfl) rfl rfl (by (try simp only [List.map_toArray, List.map_cons, List.map_nil]); first | done | rfl | (simp only [List.length_drop, List.length_take]; rfl)) ?_
         with_reducible refine (R1_Turn.calls ((rd_T31 l0 x5_3).f0) ((rd_T31 l0 x5_3).f1) ((rd_T31 l0 t264).f0) ((rd_T31 l0 t264).f1) ((rd_T31 l0 t265).f0) ((rd_T31 l0 t265).f1) t269 _ A27.out).mono ?_
         rintro e w32 ⟨rfl, hb⟩
         refine ⟨_, rfl, ?_⟩
         have n0_ := Aside0.mk (below_step lB hb)
         clear HB
         have HB := n0_
         clear n0_
         (try clear hb)
         (try clear hb2)
         (try clear hk)
         (try clear hi)
         refine hK.out _ _ ⟨(cB HB.out hw266_0), (cB HB.out hw266_1), (cB HB.out hw267_0), (cB HB.out hw267_1), (cB HB.out hw268_0), (cB HB.out hw268_1), (cB HB.out hw270_0), (cB HB.out hw270_1), (cB HB.out hw271_0), (cB HB.out hw271_1), (cB HB.out hw272_0), (cB HB.out hw272_1)⟩ (fun hHeld => ?_)
         clear hK K
         refine nm 61 ?_
         refine pu 13 62 (Bs 14 44) HT_ ?_
         refine pu 14 63 (Bs 15 44) HT_ ?_
         refine pu 15 64 (Bs 16 44) HT_ ?_
         refine pu 16 65 (Bs 17 44) HT_ ?_
         refine pu 17 66 (Bs 18 44) HT_ ?_
         refine pu 19 68 (Br [18,1,1,24]) HT_ ?_
         refine pu 20 69 (Br [18,1,2,23]) HT_ ?_
         refine pu 21 70 (Br [18,1,3,22]) HT_ ?_
         refine pu 23 72 (Br [18,1,3,1,1,20]) HT_ ?_
         refine pu 24 73 (Br [18,1,3,1,2,19]) HT_ ?_
         refine pu 25 74 (Br [18,1,3,1,3,18]) HT_ ?_
         refine ta 18 67 (Br [22,1,3,18]) HT_ HW_ hHeld ?_
         refine ta 22 71 (Bs 26 44) HT_ HW_ hHeld ?_
         refine ta 26 75 (Bs 27 44) HT_ HW_ hHeld ?_
         refine one_ (i := 27) (N := some 76) (Bs 28 44) rfl rfl (one_of HT_.out (by kernel_rfl)) (by decide) (fun K hK => ?_)
         refine goes_ Try.func59 (by kernel_rfl) rfl #[.agg #[.int .i64 ((rd_T31 l0 x5_3).f0), .int .i64 ((rd_T31 l0 x5_3).f1)], .agg #[.int .i64 ((rd_T31 l0 t264).f0), .int .i64 ((rd_T31 l0 t264).f1)], .agg #[.int .i64 ((rd_T31 l0 t265).f0), .int .i64 ((rd_T31 l0 t265).f1)]] (by rfl) rfl rfl (by (try simp only [List.map_toArray, List.map_cons, List.map_nil]); first | done | rfl | (simp only [List.length_drop, List.length_take]; rfl)) ?_
         with_reducible refine (R1_on.calls ((rd_T31 l0 x5_3).f0) ((rd_T31 l0 x5_3).f1) ((rd_T31 l0 t264).f0) ((rd_T31 l0 t264).f1) ((rd_T31 l0 t265).f0) ((rd_T31 l0 t265).f1) true _ A29.out).mono ?_
         rintro e w33 ⟨rfl, hb⟩
         refine ⟨_, rfl, ?_⟩
         have n0_ := Aside0.mk (below_step lB hb)
         clear HB
         have HB := n0_
         clear n0_
         (try clear hb)
         (try clear hb2)
         (try clear hk)
         (try clear hi)
         refine hK.out _ _ ⟨(cB HB.out hw266_0), (cB HB.out hw266_1), (cB HB.out hw267_0), (cB HB.out hw267_1), (cB HB.out hw268_0), (cB HB.out hw268_1), (cB HB.out hw270_0), (cB HB.out hw270_1), (cB HB.out hw271_0), (cB HB.out hw271_1), (cB HB.out hw272_0), (cB HB.out hw272_1)⟩ (fun hHeld => ?_)
         clear hK K
         refine nm 76 ?_
         refine pu 28 77 (Bs 29 44) HT_ ?_
         refine po 29 78 (Bs 30 44) HT_ ?_
         refine po 30 79 (Bs 31 44) HT_ ?_
         refine po 31 80 (Bs 32 44) HT_ ?_
         refine po 32 81 (Bs 33 44) HT_ ?_
         refine po 33 82 (Bs 34 44) HT_ ?_
         refine po 34 83 (Bs 35 44) HT_ ?_
         refine po 35 84 (Bs 36 44) HT_ ?_
         refine po 36 85 (Bs 37 44) HT_ ?_
         refine po 37 86 (Bs 38 44) HT_ ?_
         refine po 38 87 (Bs 39 44) HT_ ?_
         refine po 39 88 (Bs 40 44) HT_ ?_
         refine po 40 89 (Bs 41 44) HT_ ?_
         refine po 41 90 (Bs 42 44) HT_ ?_
         refine pu 42 91 (Bs 43 44) HT_ ?_
         refine pu 43 92 (Bs 44 44) HT_ ?_
         refine done_ (done_of HT_.out (by kernel_rfl)) ?_
         try go_wp2
         go_meet
         case rel => exact ⟨_, (true), (by first | rfl | (simp; done) | (simp [*]; done)), H', ⟨by have := HJ1.out; have := HK2.out; have := HK3.out; first | omega | exact Nat.le_refl _⟩, ⟨by repeat (first | (with_reducible first | exact HB.out | apply lA | apply lN | apply lD) | exact HB.out)⟩⟩
        replace c30 := Bool.eq_false_iff.mpr c30
        subst c30
        have H1 : ((R1_on.f ((rd_T31 l0 t264).f0) ((rd_T31 l0 t264).f1) ((rd_T31 l0 t265).f0) ((rd_T31 l0 t265).f1) ((rd_T31 l0 x5_3).f0) ((rd_T31 l0 x5_3).f1)).bind fun t277 => (R1_Simple.j3 k3 l0 (l0.length : Int) x5_3 t264 t277)) = some r := by rw [if_neg (show ¬ (false = true) by decide)] at H; exact H
        clear H
        have H := H1
        clear H1
        replace H := Option.bind_eq_some_iff.mp H
        obtain ⟨t277, A340, H⟩ := H
        replace H : (R1_Simple.j3 k3 l0 (l0.length : Int) x5_3 t264 t277) = some r := H
        have A34 := Aside0.mk A340
        clear A340
        have H' := Aside0.mk H
        clear H
        try go_wp2
        replace HB := Aside0.mk (lD HB.out)
        have p266 : 0 ≤ (x5_3 : Int) := of_decide_eq_true (by first | (with_reducible assumption) | assumption)
        have q266 : x5_3 < (l0.length : Int) := of_decide_eq_true (by first | (with_reducible assumption) | assumption)
        obtain ⟨ad266, e266, hx266_0, hx266_1⟩ := at_T31 HR0.out x5_3 p266 q266
        have hw266_1 := hx266_1
        have hw266_0 := hx266_0
        cases e266
        replace hx266_0 := cB HB.out hx266_0
        replace hx266_1 := cB HB.out hx266_1
        replace p266 := eq_true p266
        replace q266 := eq_true q266
        have p267 : 0 ≤ (t264 : Int) := of_decide_eq_true (by first | (with_reducible assumption) | assumption)
        have q267 : t264 < (l0.length : Int) := of_decide_eq_true (by first | (with_reducible assumption) | assumption)
        obtain ⟨ad267, e267, hx267_0, hx267_1⟩ := at_T31 HR0.out t264 p267 q267
        have hw267_1 := hx267_1
        have hw267_0 := hx267_0
        obtain rfl : ad266 = ad267 := (by injection e267)
        replace hx267_0 := cB HB.out hx267_0
        replace hx267_1 := cB HB.out hx267_1
        replace p267 := eq_true p267
        replace q267 := eq_true q267
        have p268 : 0 ≤ (t265 : Int) := of_decide_eq_true (by first | (with_reducible assumption) | assumption)
        have q268 : t265 < (l0.length : Int) := of_decide_eq_true (by first | (with_reducible assumption) | assumption)
        obtain ⟨ad268, e268, hx268_0, hx268_1⟩ := at_T31 HR0.out t265 p268 q268
        have hw268_1 := hx268_1
        have hw268_0 := hx268_0
        obtain rfl : ad266 = ad268 := (by injection e268)
        replace hx268_0 := cB HB.out hx268_0
        replace hx268_1 := cB HB.out hx268_1
        replace p268 := eq_true p268
        replace q268 := eq_true q268
        have p270 : 0 ≤ (x5_3 : Int) := of_decide_eq_true (by first | (with_reducible assumption) | assumption)
        have q270 : x5_3 < (l0.length : Int) := of_decide_eq_true (by first | (with_reducible assumption) | assumption)
        obtain ⟨ad270, e270, hx270_0, hx270_1⟩ := at_T31 HR0.out x5_3 p270 q270
        have hw270_1 := hx270_1
        have hw270_0 := hx270_0
        obtain rfl : ad266 = ad270 := (by injection e270)
        replace hx270_0 := cB HB.out hx270_0
        replace hx270_1 := cB HB.out hx270_1
        replace p270 := eq_true p270
        replace q270 := eq_true q270
        have p271 : 0 ≤ (t264 : Int) := of_decide_eq_true (by first | (with_reducible assumption) | assumption)
        have q271 : t264 < (l0.length : Int) := of_decide_eq_true (by first | (with_reducible assumption) | assumption)
        obtain ⟨ad271, e271, hx271_0, hx271_1⟩ := at_T31 HR0.out t264 p271 q271
        have hw271_1 := hx271_1
        have hw271_0 := hx271_0
        obtain rfl : ad266 = ad271 := (by injection e271)
        replace hx271_0 := cB HB.out hx271_0
        replace hx271_1 := cB HB.out hx271_1
        replace p271 := eq_true p271
        replace q271 := eq_true q271
        have p272 : 0 ≤ (t265 : Int) := of_decide_eq_true (by first | (with_reducible assumption) | assumption)
        have q272 : t265 < (l0.length : Int) := of_decide_eq_true (by first | (with_reducible assumption) | assumption)
        obtain ⟨ad272, e272, hx272_0, hx272_1⟩ := at_T31 HR0.out t265 p272 q272
        have hw272_1 := hx272_1
        have hw272_0 := hx272_0
        obtain rfl : ad266 = ad272 := (by injection e272)
        replace hx272_0 := cB HB.out hx272_0
        replace hx272_1 := cB HB.out hx272_1
        replace p272 := eq_true p272
        replace q272 := eq_true q272
        have p274 : 0 ≤ (t264 : Int) := of_decide_eq_true (by first | (with_reducible assumption) | assumption)
        have q274 : t264 < (l0.length : Int) := of_decide_eq_true (by first | (with_reducible assumption) | assumption)
        obtain ⟨ad274, e274, hx274_0, hx274_1⟩ := at_T31 HR0.out t264 p274 q274
        have hw274_1 := hx274_1
        have hw274_0 := hx274_0
        obtain rfl : ad266 = ad274 := (by injection e274)
        replace hx274_0 := cB HB.out hx274_0
        replace hx274_1 := cB HB.out hx274_1
        replace p274 := eq_true p274
        replace q274 := eq_true q274
        have p275 : 0 ≤ (t265 : Int) := of_decide_eq_true (by first | (with_reducible assumption) | assumption)
        have q275 : t265 < (l0.length : Int) := of_decide_eq_true (by first | (with_reducible assumption) | assumption)
        obtain ⟨ad275, e275, hx275_0, hx275_1⟩ := at_T31 HR0.out t265 p275 q275
        have hw275_1 := hx275_1
        have hw275_0 := hx275_0
        obtain rfl : ad266 = ad275 := (by injection e275)
        replace hx275_0 := cB HB.out hx275_0
        replace hx275_1 := cB HB.out hx275_1
        replace p275 := eq_true p275
        replace q275 := eq_true q275
        have p276 : 0 ≤ (x5_3 : Int) := of_decide_eq_true (by first | (with_reducible assumption) | assumption)
        have q276 : x5_3 < (l0.length : Int) := of_decide_eq_true (by first | (with_reducible assumption) | assumption)
        obtain ⟨ad276, e276, hx276_0, hx276_1⟩ := at_T31 HR0.out x5_3 p276 q276
        have hw276_1 := hx276_1
        have hw276_0 := hx276_0
        obtain rfl : ad266 = ad276 := (by injection e276)
        replace hx276_0 := cB HB.out hx276_0
        replace hx276_1 := cB HB.out hx276_1
        replace p276 := eq_true p276
        replace q276 := eq_true q276
        refine start_ (n := 44) (S := fun w' => w'.cell? (ad266.add ((x5_3).toNat * 2)) = some (.int .i64 ((rd_T31 l0 x5_3).f0)) ∧ w'.cell? ⟨(ad266.add ((x5_3).toNat * 2)).block, (ad266.add ((x5_3).toNat * 2)).off + 1, none⟩ = some (.int .i64 ((rd_T31 l0 x5_3).f1)) ∧ w'.cell? (ad266.add ((t264).toNat * 2)) = some (.int .i64 ((rd_T31 l0 t264).f0)) ∧ w'.cell? ⟨(ad266.add ((t264).toNat * 2)).block, (ad266.add ((t264).toNat * 2)).off + 1, none⟩ = some (.int .i64 ((rd_T31 l0 t264).f1)) ∧ w'.cell? (ad266.add ((t265).toNat * 2)) = some (.int .i64 ((rd_T31 l0 t265).f0)) ∧ w'.cell? ⟨(ad266.add ((t265).toNat * 2)).block, (ad266.add ((t265).toNat * 2)).off + 1, none⟩ = some (.int .i64 ((rd_T31 l0 t265).f1)) ∧ w'.cell? (ad266.add ((x5_3).toNat * 2)) = some (.int .i64 ((rd_T31 l0 x5_3).f0)) ∧ w'.cell? ⟨(ad266.add ((x5_3).toNat * 2)).block, (ad266.add ((x5_3).toNat * 2)).off + 1, none⟩ = some (.int .i64 ((rd_T31 l0 x5_3).f1)) ∧ w'.cell? (ad266.add ((t264).toNat * 2)) = some (.int .i64 ((rd_T31 l0 t264).f0)) ∧ w'.cell? ⟨(ad266.add ((t264).toNat * 2)).block, (ad266.add ((t264).toNat * 2)).off + 1, none⟩ = some (.int .i64 ((rd_T31 l0 t264).f1)) ∧ w'.cell? (ad266.add ((t265).toNat * 2)) = some (.int .i64 ((rd_T31 l0 t265).f0)) ∧ w'.cell? ⟨(ad266.add ((t265).toNat * 2)).block, (ad266.add ((t265).toNat * 2)).off + 1, none⟩ = some (.int .i64 ((rd_T31 l0 t265).f1)) ∧ w'.cell? (ad266.add ((t264).toNat * 2)) = some (.int .i64 ((rd_T31 l0 t264).f0)) ∧ w'.cell? ⟨(ad266.add ((t264).toNat * 2)).block, (ad266.add ((t264).toNat * 2)).off + 1, none⟩ = some (.int .i64 ((rd_T31 l0 t264).f1)) ∧ w'.cell? (ad266.add ((t265).toNat * 2)) = some (.int .i64 ((rd_T31 l0 t265).f0)) ∧ w'.cell? ⟨(ad266.add ((t265).toNat * 2)).block, (ad266.add ((t265).toNat * 2)).off + 1, none⟩ = some (.int .i64 ((rd_T31 l0 t265).f1)) ∧ w'.cell? (ad266.add ((x5_3).toNat * 2)) = some (.int .i64 ((rd_T31 l0 x5_3).f0)) ∧ w'.cell? ⟨(ad266.add ((x5_3).toNat * 2)).block, (ad266.add ((x5_3).toNat * 2)).off + 1, none⟩ = some (.int .i64 ((rd_T31 l0 x5_3).f1))) (ds := []) (Bs 0 44) (by kernel_rfl) rfl rfl ⟨(cB HB.out hw266_0), (cB HB.out hw266_1), (cB HB.out hw267_0), (cB HB.out hw267_1), (cB HB.out hw268_0), (cB HB.out hw268_1), (cB HB.out hw270_0), (cB HB.out hw270_1), (cB HB.out hw271_0), (cB HB.out hw271_1), (cB HB.out hw272_0), (cB HB.out hw272_1), (cB HB.out hw274_0), (cB HB.out hw274_1), (cB HB.out hw275_0), (cB HB.out hw275_1), (cB HB.out hw276_0), (cB HB.out hw276_1)⟩ (fun hHeld => ?_); refine with_tabW R1_Simple.tab14 R1_Simple.bits14 (fun HT_ HW_ => ?_)
        replace HB := Aside0.mk (show Below w.heap.size w (wr.drewN (ndA + ndB)).drew from ⟨HB.out.os, HB.out.tape, HB.out.output, HB.out.size, HB.out.block⟩)
        replace hx266_0 := (show World.cell? (wr.drewN (ndA + ndB)).drew _ = _ from hx266_0)
        replace hx266_1 := (show World.cell? (wr.drewN (ndA + ndB)).drew _ = _ from hx266_1)
        replace hx267_0 := (show World.cell? (wr.drewN (ndA + ndB)).drew _ = _ from hx267_0)
        replace hx267_1 := (show World.cell? (wr.drewN (ndA + ndB)).drew _ = _ from hx267_1)
        replace hx268_0 := (show World.cell? (wr.drewN (ndA + ndB)).drew _ = _ from hx268_0)
        replace hx268_1 := (show World.cell? (wr.drewN (ndA + ndB)).drew _ = _ from hx268_1)
        replace hx270_0 := (show World.cell? (wr.drewN (ndA + ndB)).drew _ = _ from hx270_0)
        replace hx270_1 := (show World.cell? (wr.drewN (ndA + ndB)).drew _ = _ from hx270_1)
        replace hx271_0 := (show World.cell? (wr.drewN (ndA + ndB)).drew _ = _ from hx271_0)
        replace hx271_1 := (show World.cell? (wr.drewN (ndA + ndB)).drew _ = _ from hx271_1)
        replace hx272_0 := (show World.cell? (wr.drewN (ndA + ndB)).drew _ = _ from hx272_0)
        replace hx272_1 := (show World.cell? (wr.drewN (ndA + ndB)).drew _ = _ from hx272_1)
        replace hx274_0 := (show World.cell? (wr.drewN (ndA + ndB)).drew _ = _ from hx274_0)
        replace hx274_1 := (show World.cell? (wr.drewN (ndA + ndB)).drew _ = _ from hx274_1)
        replace hx275_0 := (show World.cell? (wr.drewN (ndA + ndB)).drew _ = _ from hx275_0)
        replace hx275_1 := (show World.cell? (wr.drewN (ndA + ndB)).drew _ = _ from hx275_1)
        replace hx276_0 := (show World.cell? (wr.drewN (ndA + ndB)).drew _ = _ from hx276_0)
        replace hx276_1 := (show World.cell? (wr.drewN (ndA + ndB)).drew _ = _ from hx276_1)
        generalize (wr.drewN (ndA + ndB)).drew = w35 at HB hx266_0 hx266_1 hx267_0 hx267_1 hx268_0 hx268_1 hx270_0 hx270_1 hx271_0 hx271_1 hx272_0 hx272_1 hx274_0 hx274_1 hx275_0 hx275_1 hx276_0 hx276_1 hHeld ⊢
        refine pu 0 49 (Bs 1 44) HT_ ?_
        refine pu 1 50 (Bs 2 44) HT_ ?_
        refine pu 2 51 (Bs 3 44) HT_ ?_
        refine pu 4 53 (Br [3,1,1,39]) HT_ ?_
        refine pu 5 54 (Br [3,1,2,38]) HT_ ?_
        refine pu 6 55 (Br [3,1,3,37]) HT_ ?_
        refine pu 8 57 (Br [3,1,3,1,1,35]) HT_ ?_
        refine pu 9 58 (Br [3,1,3,1,2,34]) HT_ ?_
        refine pu 10 59 (Br [3,1,3,1,3,33]) HT_ ?_
        refine ta 3 52 (Br [7,1,3,33]) HT_ HW_ hHeld ?_
        refine ta 7 56 (Bs 11 44) HT_ HW_ hHeld ?_
        refine ta 11 60 (Bs 12 44) HT_ HW_ hHeld ?_
        refine one_ (i := 12) (N := some 61) (Bs 13 44) rfl rfl (one_of HT_.out (by kernel_rfl)) (by decide) (fun K hK => ?_)
        refine goes_ Try.func31 (by kernel_rfl) rfl #[.agg #[.int .i64 ((rd_T31 l0 x5_3).f0), .int .i64 ((rd_T31 l0 x5_3).f1)], .agg #[.int .i64 ((rd_T31 l0 t264).f0), .int .i64 ((rd_T31 l0 t264).f1)], .agg #[.int .i64 ((rd_T31 l0 t265).f0), .int .i64 ((rd_T31 l0 t265).f1)]] (by rfl) rfl rfl (by (try simp only [List.map_toArray, List.map_cons, List.map_nil]); first | done | rfl | (simp only [List.length_drop, List.length_take]; rfl)) ?_
        with_reducible refine (R1_Turn.calls ((rd_T31 l0 x5_3).f0) ((rd_T31 l0 x5_3).f1) ((rd_T31 l0 t264).f0) ((rd_T31 l0 t264).f1) ((rd_T31 l0 t265).f0) ((rd_T31 l0 t265).f1) t269 _ A27.out).mono ?_
        rintro e w36 ⟨rfl, hb⟩
        refine ⟨_, rfl, ?_⟩
        have n0_ := Aside0.mk (below_step lB hb)
        clear HB
        have HB := n0_
        clear n0_
        (try clear hb)
        (try clear hb2)
        (try clear hk)
        (try clear hi)
        refine hK.out _ _ ⟨(cB HB.out hw266_0), (cB HB.out hw266_1), (cB HB.out hw267_0), (cB HB.out hw267_1), (cB HB.out hw268_0), (cB HB.out hw268_1), (cB HB.out hw270_0), (cB HB.out hw270_1), (cB HB.out hw271_0), (cB HB.out hw271_1), (cB HB.out hw272_0), (cB HB.out hw272_1), (cB HB.out hw274_0), (cB HB.out hw274_1), (cB HB.out hw275_0), (cB HB.out hw275_1), (cB HB.out hw276_0), (cB HB.out hw276_1)⟩ (fun hHeld => ?_)
        clear hK K
        refine nm 61 ?_
        refine pu 13 62 (Bs 14 44) HT_ ?_
        refine pu 14 63 (Bs 15 44) HT_ ?_
        refine pu 15 64 (Bs 16 44) HT_ ?_
        refine pu 16 65 (Bs 17 44) HT_ ?_
        refine pu 17 66 (Bs 18 44) HT_ ?_
        refine pu 19 68 (Br [18,1,1,24]) HT_ ?_
        refine pu 20 69 (Br [18,1,2,23]) HT_ ?_
        refine pu 21 70 (Br [18,1,3,22]) HT_ ?_
        refine pu 23 72 (Br [18,1,3,1,1,20]) HT_ ?_
        refine pu 24 73 (Br [18,1,3,1,2,19]) HT_ ?_
        refine pu 25 74 (Br [18,1,3,1,3,18]) HT_ ?_
        refine ta 18 67 (Br [22,1,3,18]) HT_ HW_ hHeld ?_
        refine ta 22 71 (Bs 26 44) HT_ HW_ hHeld ?_
        refine ta 26 75 (Bs 27 44) HT_ HW_ hHeld ?_
        refine one_ (i := 27) (N := some 76) (Bs 28 44) rfl rfl (one_of HT_.out (by kernel_rfl)) (by decide) (fun K hK => ?_)
        refine goes_ Try.func59 (by kernel_rfl) rfl #[.agg #[.int .i64 ((rd_T31 l0 x5_3).f0), .int .i64 ((rd_T31 l0 x5_3).f1)], .agg #[.int .i64 ((rd_T31 l0 t264).f0), .int .i64 ((rd_T31 l0 t264).f1)], .agg #[.int .i64 ((rd_T31 l0 t265).f0), .int .i64 ((rd_T31 l0 t265).f1)]] (by rfl) rfl rfl (by (try simp only [List.map_toArray, List.map_cons, List.map_nil]); first | done | rfl | (simp only [List.length_drop, List.length_take]; rfl)) ?_
        with_reducible refine (R1_on.calls ((rd_T31 l0 x5_3).f0) ((rd_T31 l0 x5_3).f1) ((rd_T31 l0 t264).f0) ((rd_T31 l0 t264).f1) ((rd_T31 l0 t265).f0) ((rd_T31 l0 t265).f1) false _ A29.out).mono ?_
        rintro e w37 ⟨rfl, hb⟩
        refine ⟨_, rfl, ?_⟩
        have n0_ := Aside0.mk (below_step lB hb)
        clear HB
        have HB := n0_
        clear n0_
        (try clear hb)
        (try clear hb2)
        (try clear hk)
        (try clear hi)
        refine hK.out _ _ ⟨(cB HB.out hw266_0), (cB HB.out hw266_1), (cB HB.out hw267_0), (cB HB.out hw267_1), (cB HB.out hw268_0), (cB HB.out hw268_1), (cB HB.out hw270_0), (cB HB.out hw270_1), (cB HB.out hw271_0), (cB HB.out hw271_1), (cB HB.out hw272_0), (cB HB.out hw272_1), (cB HB.out hw274_0), (cB HB.out hw274_1), (cB HB.out hw275_0), (cB HB.out hw275_1), (cB HB.out hw276_0), (cB HB.out hw276_1)⟩ (fun hHeld => ?_)
        clear hK K
        refine nm 76 ?_
        refine pu 28 77 (Bs 29 44) HT_ ?_
        refine pu 29 78 (Bs 30 44) HT_ ?_
        refine pu 30 79 (Bs 31 44) HT_ ?_
        refine pu 31 80 (Bs 32 44) HT_ ?_
        refine pu 33 82 (Br [32,1,1,10]) HT_ ?_
        refine pu 34 83 (Br [32,1,2,9]) HT_ ?_
        refine pu 35 84 (Br [32,1,3,8]) HT_ ?_
        refine pu 37 86 (Br [32,1,3,1,1,6]) HT_ ?_
        refine pu 38 87 (Br [32,1,3,1,2,5]) HT_ ?_
        refine pu 39 88 (Br [32,1,3,1,3,4]) HT_ ?_
        refine ta 32 81 (Br [36,1,3,4]) HT_ HW_ hHeld ?_
        refine ta 36 85 (Bs 40 44) HT_ HW_ hHeld ?_
        refine ta 40 89 (Bs 41 44) HT_ HW_ hHeld ?_
        refine one_ (i := 41) (N := some 90) (Bs 42 44) rfl rfl (one_of HT_.out (by kernel_rfl)) (by decide) (fun K hK => ?_)
        refine goes_ Try.func59 (by kernel_rfl) rfl #[.agg #[.int .i64 ((rd_T31 l0 t264).f0), .int .i64 ((rd_T31 l0 t264).f1)], .agg #[.int .i64 ((rd_T31 l0 t265).f0), .int .i64 ((rd_T31 l0 t265).f1)], .agg #[.int .i64 ((rd_T31 l0 x5_3).f0), .int .i64 ((rd_T31 l0 x5_3).f1)]] (by rfl) rfl rfl (by (try simp only [List.map_toArray, List.map_cons, List.map_nil]); first | done | rfl | (simp only [List.length_drop, List.length_take]; rfl)) ?_
        with_reducible refine (R1_on.calls ((rd_T31 l0 t264).f0) ((rd_T31 l0 t264).f1) ((rd_T31 l0 t265).f0) ((rd_T31 l0 t265).f1) ((rd_T31 l0 x5_3).f0) ((rd_T31 l0 x5_3).f1) t277 _ A34.out).mono ?_
        rintro e w38 ⟨rfl, hb⟩
        refine ⟨_, rfl, ?_⟩
        have n0_ := Aside0.mk (below_step lB hb)
        clear HB
        have HB := n0_
        clear n0_
        (try clear hb)
        (try clear hb2)
        (try clear hk)
        (try clear hi)
        refine hK.out _ _ ⟨(cB HB.out hw266_0), (cB HB.out hw266_1), (cB HB.out hw267_0), (cB HB.out hw267_1), (cB HB.out hw268_0), (cB HB.out hw268_1), (cB HB.out hw270_0), (cB HB.out hw270_1), (cB HB.out hw271_0), (cB HB.out hw271_1), (cB HB.out hw272_0), (cB HB.out hw272_1), (cB HB.out hw274_0), (cB HB.out hw274_1), (cB HB.out hw275_0), (cB HB.out hw275_1), (cB HB.out hw276_0), (cB HB.out hw276_1)⟩ (fun hHeld => ?_)
        clear hK K
        refine nm 90 ?_
        refine pu 42 91 (Bs 43 44) HT_ ?_
        refine pu 43 92 (Bs 44 44) HT_ ?_
        refine done_ (done_of HT_.out (by kernel_rfl)) ?_
        try go_wp2
        go_meet
        case rel => exact ⟨_, (t277), (by first | rfl | (simp; done) | (simp [*]; done)), H', ⟨by have := HJ1.out; have := HK2.out; have := HK3.out; first | omega | exact Nat.le_refl _⟩, ⟨by repeat (first | (with_reducible first | exact HB.out | apply lA | apply lN | apply lD) | exact HB.out)⟩⟩
       case rest =>
        clear HC20
        try clear c2
        try clear p2
        try clear q2
        try clear hx2
        try clear c3
        try clear c5
        try clear c21
        try clear c22
        try clear c23
        try clear c24
        try clear c25
        try clear c26
        try clear p26
        try clear q26
        try clear hx26
        try clear c28
        try clear c28b0
        try clear c28b1
        try clear c31
        try clear hx266_0
        try clear hx266_1
        try clear hx267_0
        try clear hx267_1
        try clear hx268_0
        try clear hx268_1
        try clear p266
        try clear p267
        try clear p268
        try clear q266
        try clear q267
        try clear q268
        obtain ⟨kq, x92_19, rfl, HA, HJ19, HB⟩ := hcut
        cases kq with
        | zero => exact absurd HA.out (by simp [R1_Simple.j3])
        | succ kj19 =>
         have H := HA.out
         clear HA
         simp only [R1_Simple.j3] at H
         by_cases c41 : x92_19 = true
         ·subst c41
          have H1 : (some false) = some r := by rw [if_pos rfl] at H; exact H
          clear H
          have H := H1
          clear H1
          obtain rfl := Option.some.inj H
          go_wp2
          go_ret
          exact en
         replace c41 := Bool.eq_false_iff.mpr c41
         subst c41
         have H1 : (R1_Simple.l2 kj19 l0 (l0.length : Int) x5_3 t264 (wrap64 (x5_3 + 2))) = some r := by rw [if_neg (show ¬ (false = true) by decide)] at H; exact H
         clear H
         have H := H1
         clear H1
         have H' := Aside0.mk H
         clear H
         go_wp2
         go_loopg [8] kj19 (fun kq v8 w' => ∃ (x8_5 : Int), v8 = .int .i64 x8_5 ∧ Aside0 (R1_Simple.l2 kq l0 (l0.length : Int) x5_3 t264 x8_5 = some r) ∧ Aside0 (kq ≤ kj19) ∧ Aside0 (Below w.heap.size w w'))
         case atStart => exact ⟨(wrap64 (x5_3 + 2)), (by first | rfl | (simp; done) | (simp [*]; done)), H', ⟨Nat.le_refl _⟩, ⟨by repeat (first | (with_reducible first | exact HB.out | apply lA | apply lN | apply lD) | exact HB.out)⟩⟩
         case round =>
          clear H'
          try clear c2
          try clear p2
          try clear q2
          try clear hx2
          try clear c3
          try clear c4
          try clear c5
          try clear p6
          try clear c21
          try clear c22
          try clear c23
          try clear c24
          try clear c25
          try clear c26
          try clear p26
          try clear q26
          try clear hx26
          try clear c28
          try clear c28b0
          try clear c28b1
          try clear c31
          try clear c41
          try clear hx266_0
          try clear hx266_1
          try clear hx267_0
          try clear hx267_1
          try clear hx268_0
          try clear hx268_1
          try clear p2
          try clear p26
          try clear p266
          try clear p267
          try clear p268
          try clear q2
          try clear q26
          try clear q266
          try clear q267
          try clear q268
          obtain ⟨x8_5, rfl, HA, HK5, HB⟩ := hrel
          cases gk with
          | zero => exact absurd HA.out (by simp [R1_Simple.l2])
          | succ k5 =>
           have H := HA.out
           clear HA
           simp only [R1_Simple.l2] at H
           by_cases c42 : x8_5 < (l0.length : Int)
           rotate_left
           ·rw [if_neg c42] at H
            have c42b0 : decide (x8_5 < (l0.length : Int)) = false := decide_eq_false c42
            clear c42
            have H' := Aside0.mk H
            clear H
            go_wp2
            go_roundg k5
            case measure => have := HJ1.out; have := HK2.out; have := HK3.out; have := HJ19.out; have := HK5.out; omega
            case rel => exact ⟨(wrap64 (x5_3 + 1)), (by first | rfl | (simp; done) | (simp [*]; done)), H', ⟨by have := HJ1.out; have := HK2.out; have := HK3.out; have := HJ19.out; have := HK5.out; omega⟩, ⟨by repeat (first | (with_reducible first | exact HB.out | apply lA | apply lN | apply lD) | exact HB.out)⟩⟩
           rw [if_pos c42] at H
           have c42b0 : decide (x8_5 < (l0.length : Int)) = true := decide_eq_true c42
           clear c42
           replace H := Option.bind_eq_some_iff.mp H
           obtain ⟨t278, A430, H⟩ := H
           replace H : (if t278 = x5_3 then (R1_Simple.l2 k5 l0 (l0.length : Int) x5_3 t264 (wrap64 (x8_5 + 1))) else (if 0 ≤ x5_3 then (if x5_3 < (l0.length : Int) then (if 0 ≤ t264 then (if t264 < (l0.length : Int) then (if 0 ≤ x8_5 then (if x8_5 < (l0.length : Int) then ((R1_next.f x8_5 (l0.length : Int)).bind fun t282 => (if 0 ≤ t282 then (if t282 < (l0.length : Int) then ((R1_meet.f k5 ((rd_T31 l0 x5_3).f0) ((rd_T31 l0 x5_3).f1) ((rd_T31 l0 t264).f0) ((rd_T31 l0 t264).f1) ((rd_T31 l0 x8_5).f0) ((rd_T31 l0 x8_5).f1) ((rd_T31 l0 t282).f0) ((rd_T31 l0 t282).f1)).bind fun t284 => (if t284 = true then (some false) else (R1_Simple.l2 k5 l0 (l0.length : Int) x5_3 t264 (wrap64 (x8_5 + 1))))) else (none)) else (none))) else (none)) else (none)) else (none)) else (none)) else (none)) else (none))) = some r := H
           have A43 := Aside0.mk A430
           clear A430
           by_cases c44 : t278 = x5_3
           ·rw [if_pos c44] at H
            have c44b0 : (t278 == x5_3) = true := beq_iff_eq.mpr c44
            have c44b1 : (t278 != x5_3) = false := bne_eq_false_iff_eq.mpr c44
            clear c44
            have H' := Aside0.mk H
            clear H
            try go_wp2
            replace HB := Aside0.mk (lD HB.out)
            refine start_ (n := 26) (S := fun w' => True) (ds := []) (Bs 0 26) (by kernel_rfl) rfl rfl trivial (fun hHeld => ?_); refine with_tabW R1_Simple.tab19 R1_Simple.bits19 (fun HT_ HW_ => ?_)
            generalize wr.drew = w45 at HB hHeld ⊢
            refine pu 0 100 (Bs 1 26) HT_ ?_
            refine pu 1 101 (Bs 2 26) HT_ ?_
            refine pu 3 103 (Br [2,1,1,22]) HT_ ?_
            refine one_ (i := 2) (N := some 102) (Bs 4 26) rfl rfl (one_of HT_.out (by kernel_rfl)) (by decide) (fun K hK => ?_)
            refine goes_ Try.func54 (by kernel_rfl) rfl #[.int .i64 x8_5, .int .i64 (l0.length : Int)] (by rfl) rfl rfl (by (try simp only [List.map_toArray, List.map_cons, List.map_nil]); first | done | rfl | (simp only [List.length_drop, List.length_take]; rfl)) ?_
            with_reducible refine (R1_next.calls x8_5 (l0.length : Int) t278 _ A43.out).mono ?_
            rintro e w' ⟨rfl, ⟨nd, rfl⟩⟩
            refine ⟨_, rfl, ?_⟩
            refine hK.out _ _ trivial (fun hHeld => ?_)
            clear hK K
            refine nm 102 ?_
            refine pu 4 104 (Bs 5 26) HT_ ?_
            refine pu 5 105 (Bs 6 26) HT_ ?_
            refine po 6 106 (Bs 7 26) HT_ ?_
            refine po 7 107 (Bs 8 26) HT_ ?_
            refine po 8 108 (Bs 9 26) HT_ ?_
            refine po 9 109 (Bs 10 26) HT_ ?_
            refine po 10 110 (Bs 11 26) HT_ ?_
            refine po 11 111 (Bs 12 26) HT_ ?_
            refine po 12 112 (Bs 13 26) HT_ ?_
            refine po 13 113 (Bs 14 26) HT_ ?_
            refine po 14 114 (Bs 15 26) HT_ ?_
            refine po 15 115 (Bs 16 26) HT_ ?_
            refine po 16 116 (Bs 17 26) HT_ ?_
            refine po 17 117 (Bs 18 26) HT_ ?_
            refine po 18 118 (Bs 19 26) HT_ ?_
            refine po 19 119 (Bs 20 26) HT_ ?_
            refine po 20 120 (Bs 21 26) HT_ ?_
            refine po 21 121 (Bs 22 26) HT_ ?_
            refine po 22 122 (Bs 23 26) HT_ ?_
            refine po 23 123 (Bs 24 26) HT_ ?_
            refine po 24 124 (Bs 25 26) HT_ ?_
            refine pu 25 125 (Bs 26 26) HT_ ?_
            refine done_ (done_of HT_.out (by kernel_rfl)) ?_
            try go_wp2
            go_roundg k5
            case measure => have := HJ1.out; have := HK2.out; have := HK3.out; have := HJ19.out; have := HK5.out; omega
            case rel => exact ⟨(wrap64 (x8_5 + 1)), (by first | rfl | (simp; done) | (simp [*]; done)), H', ⟨by have := HJ1.out; have := HK2.out; have := HK3.out; have := HJ19.out; have := HK5.out; omega⟩, ⟨by repeat (first | (with_reducible first | exact HB.out | apply lA | apply lN | apply lD) | exact HB.out)⟩⟩
           rw [if_neg c44] at H
           have c44b0 : (t278 == x5_3) = false := beq_eq_false_iff_ne.mpr c44
           have c44b1 : (t278 != x5_3) = true := bne_iff_ne.mpr c44
           by_cases c46 : 0 ≤ x5_3
           rotate_left
           ·rw [if_neg c46] at H; exact absurd H (by simp)
           rw [if_pos c46] at H
           have c46b0 : decide (0 ≤ x5_3) = true := decide_eq_true c46
           clear c46
           by_cases c47 : x5_3 < (l0.length : Int)
           rotate_left
           ·rw [if_neg c47] at H; exact absurd H (by simp)
           rw [if_pos c47] at H
           have c47b0 : decide (x5_3 < (l0.length : Int)) = true := decide_eq_true c47
           clear c47
           by_cases c48 : 0 ≤ t264
           rotate_left
           ·rw [if_neg c48] at H; exact absurd H (by simp)
           rw [if_pos c48] at H
           have c48b0 : decide (0 ≤ t264) = true := decide_eq_true c48
           clear c48
           by_cases c49 : t264 < (l0.length : Int)
           rotate_left
           ·rw [if_neg c49] at H; exact absurd H (by simp)
           rw [if_pos c49] at H
           have c49b0 : decide (t264 < (l0.length : Int)) = true := decide_eq_true c49
           clear c49
           by_cases c50 : 0 ≤ x8_5
           rotate_left
           ·rw [if_neg c50] at H; exact absurd H (by simp)
           rw [if_pos c50] at H
           have c50b0 : decide (0 ≤ x8_5) = true := decide_eq_true c50
           clear c50
           by_cases c51 : x8_5 < (l0.length : Int)
           rotate_left
           ·rw [if_neg c51] at H; exact absurd H (by simp)
           rw [if_pos c51] at H
           have c51b0 : decide (x8_5 < (l0.length : Int)) = true := decide_eq_true c51
           clear c51
           replace H := Option.bind_eq_some_iff.mp H
           obtain ⟨t282, A520, H⟩ := H
           replace H : (if 0 ≤ t282 then (if t282 < (l0.length : Int) then ((R1_meet.f k5 ((rd_T31 l0 x5_3).f0) ((rd_T31 l0 x5_3).f1) ((rd_T31 l0 t264).f0) ((rd_T31 l0 t264).f1) ((rd_T31 l0 x8_5).f0) ((rd_T31 l0 x8_5).f1) ((rd_T31 l0 t282).f0) ((rd_T31 l0 t282).f1)).bind fun t284 => (if t284 = true then (some false) else (R1_Simple.l2 k5 l0 (l0.length : Int) x5_3 t264 (wrap64 (x8_5 + 1))))) else (none)) else (none)) = some r := H
           have A52 := Aside0.mk A520
           clear A520
           by_cases c53 : 0 ≤ t282
           rotate_left
           ·rw [if_neg c53] at H; exact absurd H (by simp)
           rw [if_pos c53] at H
           have c53b0 : decide (0 ≤ t282) = true := decide_eq_true c53
           clear c53
           by_cases c54 : t282 < (l0.length : Int)
           rotate_left
           ·rw [if_neg c54] at H; exact absurd H (by simp)
           rw [if_pos c54] at H
           have c54b0 : decide (t282 < (l0.length : Int)) = true := decide_eq_true c54
           clear c54
           replace H := Option.bind_eq_some_iff.mp H
           obtain ⟨t284, A550, H⟩ := H
           replace H : (if t284 = true then (some false) else (R1_Simple.l2 k5 l0 (l0.length : Int) x5_3 t264 (wrap64 (x8_5 + 1)))) = some r := H
           have A55 := Aside0.mk A550
           clear A550
           by_cases c56 : t284 = true
           ·subst c56
            have H1 : (some false) = some r := by rw [if_pos rfl] at H; exact H
            clear H
            have H := H1
            clear H1
            obtain rfl := Option.some.inj H
            try go_wp2
            replace HB := Aside0.mk (lD HB.out)
            have p279 : 0 ≤ (x5_3 : Int) := of_decide_eq_true (by first | (with_reducible assumption) | assumption)
            have q279 : x5_3 < (l0.length : Int) := of_decide_eq_true (by first | (with_reducible assumption) | assumption)
            obtain ⟨ad279, e279, hx279_0, hx279_1⟩ := at_T31 HR0.out x5_3 p279 q279
            have hw279_1 := hx279_1
            have hw279_0 := hx279_0
            cases e279
            replace hx279_0 := cB HB.out hx279_0
            replace hx279_1 := cB HB.out hx279_1
            replace p279 := eq_true p279
            replace q279 := eq_true q279
            have p280 : 0 ≤ (t264 : Int) := of_decide_eq_true (by first | (with_reducible assumption) | assumption)
            have q280 : t264 < (l0.length : Int) := of_decide_eq_true (by first | (with_reducible assumption) | assumption)
            obtain ⟨ad280, e280, hx280_0, hx280_1⟩ := at_T31 HR0.out t264 p280 q280
            have hw280_1 := hx280_1
            have hw280_0 := hx280_0
            obtain rfl : ad279 = ad280 := (by injection e280)
            replace hx280_0 := cB HB.out hx280_0
            replace hx280_1 := cB HB.out hx280_1
            replace p280 := eq_true p280
            replace q280 := eq_true q280
            have p281 : 0 ≤ (x8_5 : Int) := of_decide_eq_true (by first | (with_reducible assumption) | assumption)
            have q281 : x8_5 < (l0.length : Int) := of_decide_eq_true (by first | (with_reducible assumption) | assumption)
            obtain ⟨ad281, e281, hx281_0, hx281_1⟩ := at_T31 HR0.out x8_5 p281 q281
            have hw281_1 := hx281_1
            have hw281_0 := hx281_0
            obtain rfl : ad279 = ad281 := (by injection e281)
            replace hx281_0 := cB HB.out hx281_0
            replace hx281_1 := cB HB.out hx281_1
            replace p281 := eq_true p281
            replace q281 := eq_true q281
            have p283 : 0 ≤ (t282 : Int) := of_decide_eq_true (by first | (with_reducible assumption) | assumption)
            have q283 : t282 < (l0.length : Int) := of_decide_eq_true (by first | (with_reducible assumption) | assumption)
            obtain ⟨ad283, e283, hx283_0, hx283_1⟩ := at_T31 HR0.out t282 p283 q283
            have hw283_1 := hx283_1
            have hw283_0 := hx283_0
            obtain rfl : ad279 = ad283 := (by injection e283)
            replace hx283_0 := cB HB.out hx283_0
            replace hx283_1 := cB HB.out hx283_1
            replace p283 := eq_true p283
            replace q283 := eq_true q283
            refine start_ (n := 26) (S := fun w' => w'.cell? (ad279.add ((x5_3).toNat * 2)) = some (.int .i64 ((rd_T31 l0 x5_3).f0)) ∧ w'.cell? ⟨(ad279.add ((x5_3).toNat * 2)).block, (ad279.add ((x5_3).toNat * 2)).off + 1, none⟩ = some (.int .i64 ((rd_T31 l0 x5_3).f1)) ∧ w'.cell? (ad279.add ((t264).toNat * 2)) = some (.int .i64 ((rd_T31 l0 t264).f0)) ∧ w'.cell? ⟨(ad279.add ((t264).toNat * 2)).block, (ad279.add ((t264).toNat * 2)).off + 1, none⟩ = some (.int .i64 ((rd_T31 l0 t264).f1)) ∧ w'.cell? (ad279.add ((x8_5).toNat * 2)) = some (.int .i64 ((rd_T31 l0 x8_5).f0)) ∧ w'.cell? ⟨(ad279.add ((x8_5).toNat * 2)).block, (ad279.add ((x8_5).toNat * 2)).off + 1, none⟩ = some (.int .i64 ((rd_T31 l0 x8_5).f1)) ∧ w'.cell? (ad279.add ((t282).toNat * 2)) = some (.int .i64 ((rd_T31 l0 t282).f0)) ∧ w'.cell? ⟨(ad279.add ((t282).toNat * 2)).block, (ad279.add ((t282).toNat * 2)).off + 1, none⟩ = some (.int .i64 ((rd_T31 l0 t282).f1))) (ds := []) (Bs 0 26) (by kernel_rfl) rfl rfl ⟨(cB HB.out hw279_0), (cB HB.out hw279_1), (cB HB.out hw280_0), (cB HB.out hw280_1), (cB HB.out hw281_0), (cB HB.out hw281_1), (cB HB.out hw283_0), (cB HB.out hw283_1)⟩ (fun hHeld => ?_); refine with_tabW R1_Simple.tab19 R1_Simple.bits19 (fun HT_ HW_ => ?_)
            generalize wr.drew = w57 at HB hx279_0 hx279_1 hx280_0 hx280_1 hx281_0 hx281_1 hx283_0 hx283_1 hHeld ⊢
            refine pu 0 100 (Bs 1 26) HT_ ?_
            refine pu 1 101 (Bs 2 26) HT_ ?_
            refine pu 3 103 (Br [2,1,1,22]) HT_ ?_
            refine one_ (i := 2) (N := some 102) (Bs 4 26) rfl rfl (one_of HT_.out (by kernel_rfl)) (by decide) (fun K hK => ?_)
            refine goes_ Try.func54 (by kernel_rfl) rfl #[.int .i64 x8_5, .int .i64 (l0.length : Int)] (by rfl) rfl rfl (by (try simp only [List.map_toArray, List.map_cons, List.map_nil]); first | done | rfl | (simp only [List.length_drop, List.length_take]; rfl)) ?_
            with_reducible refine (R1_next.calls x8_5 (l0.length : Int) t278 _ A43.out).mono ?_
            rintro e w' ⟨rfl, ⟨nd, rfl⟩⟩
            refine ⟨_, rfl, ?_⟩
            refine hK.out _ _ ⟨(cB HB.out hw279_0), (cB HB.out hw279_1), (cB HB.out hw280_0), (cB HB.out hw280_1), (cB HB.out hw281_0), (cB HB.out hw281_1), (cB HB.out hw283_0), (cB HB.out hw283_1)⟩ (fun hHeld => ?_)
            clear hK K
            refine nm 102 ?_
            refine pu 4 104 (Bs 5 26) HT_ ?_
            refine pu 5 105 (Bs 6 26) HT_ ?_
            refine pu 6 106 (Bs 7 26) HT_ ?_
            refine pu 7 107 (Bs 8 26) HT_ ?_
            refine pu 8 108 (Bs 9 26) HT_ ?_
            refine pu 10 110 (Br [9,1,1,15]) HT_ ?_
            refine pu 11 111 (Br [9,1,2,14]) HT_ ?_
            refine pu 12 112 (Br [9,1,3,13]) HT_ ?_
            refine pu 14 114 (Br [9,1,3,1,1,11]) HT_ ?_
            refine pu 15 115 (Br [9,1,3,1,2,10]) HT_ ?_
            refine pu 16 116 (Br [9,1,3,1,3,9]) HT_ ?_
            refine pu 18 118 (Br [9,1,3,1,3,1,1,7]) HT_ ?_
            refine pu 19 119 (Br [9,1,3,1,3,1,2,6]) HT_ ?_
            refine pu 20 120 (Br [9,1,3,1,3,1,3,5]) HT_ ?_
            refine ta 9 109 (Br [13,1,3,1,3,5]) HT_ HW_ hHeld ?_
            refine ta 13 113 (Br [17,1,3,5]) HT_ HW_ hHeld ?_
            refine ta 17 117 (Bs 21 26) HT_ HW_ hHeld ?_
            refine one_ (i := 21) (N := some 121) (Bs 22 26) rfl rfl (one_of HT_.out (by kernel_rfl)) (by decide) (fun K hK => ?_)
            refine goes_ Try.func54 (by kernel_rfl) rfl #[.int .i64 x8_5, .int .i64 (l0.length : Int)] (by rfl) rfl rfl (by (try simp only [List.map_toArray, List.map_cons, List.map_nil]); first | done | rfl | (simp only [List.length_drop, List.length_take]; rfl)) ?_
            with_reducible refine (R1_next.calls x8_5 (l0.length : Int) t282 _ A52.out).mono ?_
            rintro e w' ⟨rfl, ⟨nd, rfl⟩⟩
            refine ⟨_, rfl, ?_⟩
            refine hK.out _ _ ⟨(cB HB.out hw279_0), (cB HB.out hw279_1), (cB HB.out hw280_0), (cB HB.out hw280_1), (cB HB.out hw281_0), (cB HB.out hw281_1), (cB HB.out hw283_0), (cB HB.out hw283_1)⟩ (fun hHeld => ?_)
            clear hK K
            refine nm 121 ?_
            refine pu 22 122 (Bs 23 26) HT_ ?_
            refine ta 23 123 (Bs 24 26) HT_ HW_ hHeld ?_
            refine one_ (i := 24) (N := some 124) (Bs 25 26) rfl rfl (one_of HT_.out (by kernel_rfl)) (by decide) (fun K hK => ?_)
            refine goes_ Try.func60 (by kernel_rfl) rfl #[.agg #[.int .i64 ((rd_T31 l0 x5_3).f0), .int .i64 ((rd_T31 l0 x5_3).f1)], .agg #[.int .i64 ((rd_T31 l0 t264).f0), .int .i64 ((rd_T31 l0 t264).f1)], .agg #[.int .i64 ((rd_T31 l0 x8_5).f0), .int .i64 ((rd_T31 l0 x8_5).f1)], .agg #[.int .i64 ((rd_T31 l0 t282).f0), .int .i64 ((rd_T31 l0 t282).f1)]] (by rfl) rfl rfl (by (try simp only [List.map_toArray, List.map_cons, List.map_nil]); first | done | rfl | (simp only [List.length_drop, List.length_take]; rfl)) ?_
            with_reducible refine (R1_meet.calls k5 ((rd_T31 l0 x5_3).f0) ((rd_T31 l0 x5_3).f1) ((rd_T31 l0 t264).f0) ((rd_T31 l0 t264).f1) ((rd_T31 l0 x8_5).f0) ((rd_T31 l0 x8_5).f1) ((rd_T31 l0 t282).f0) ((rd_T31 l0 t282).f1) true _ A55.out).mono ?_
            rintro e w58 ⟨rfl, hb⟩
            refine ⟨_, rfl, ?_⟩
            have n0_ := Aside0.mk (below_step lB hb)
            clear HB
            have HB := n0_
            clear n0_
            (try clear hb)
            (try clear hb2)
            (try clear hk)
            (try clear hi)
            refine hK.out _ _ ⟨(cB HB.out hw279_0), (cB HB.out hw279_1), (cB HB.out hw280_0), (cB HB.out hw280_1), (cB HB.out hw281_0), (cB HB.out hw281_1), (cB HB.out hw283_0), (cB HB.out hw283_1)⟩ (fun hHeld => ?_)
            clear hK K
            refine nm 124 ?_
            refine pu 25 125 (Bs 26 26) HT_ ?_
            refine done_ (done_of HT_.out (by kernel_rfl)) ?_
            try go_wp2
            go_ret
            exact en
           replace c56 := Bool.eq_false_iff.mpr c56
           subst c56
           have H1 : (R1_Simple.l2 k5 l0 (l0.length : Int) x5_3 t264 (wrap64 (x8_5 + 1))) = some r := by rw [if_neg (show ¬ (false = true) by decide)] at H; exact H
           clear H
           have H := H1
           clear H1
           have H' := Aside0.mk H
           clear H
           try go_wp2
           replace HB := Aside0.mk (lD HB.out)
           have p279 : 0 ≤ (x5_3 : Int) := of_decide_eq_true (by first | (with_reducible assumption) | assumption)
           have q279 : x5_3 < (l0.length : Int) := of_decide_eq_true (by first | (with_reducible assumption) | assumption)
           obtain ⟨ad279, e279, hx279_0, hx279_1⟩ := at_T31 HR0.out x5_3 p279 q279
           have hw279_1 := hx279_1
           have hw279_0 := hx279_0
           cases e279
           replace hx279_0 := cB HB.out hx279_0
           replace hx279_1 := cB HB.out hx279_1
           replace p279 := eq_true p279
           replace q279 := eq_true q279
           have p280 : 0 ≤ (t264 : Int) := of_decide_eq_true (by first | (with_reducible assumption) | assumption)
           have q280 : t264 < (l0.length : Int) := of_decide_eq_true (by first | (with_reducible assumption) | assumption)
           obtain ⟨ad280, e280, hx280_0, hx280_1⟩ := at_T31 HR0.out t264 p280 q280
           have hw280_1 := hx280_1
           have hw280_0 := hx280_0
           obtain rfl : ad279 = ad280 := (by injection e280)
           replace hx280_0 := cB HB.out hx280_0
           replace hx280_1 := cB HB.out hx280_1
           replace p280 := eq_true p280
           replace q280 := eq_true q280
           have p281 : 0 ≤ (x8_5 : Int) := of_decide_eq_true (by first | (with_reducible assumption) | assumption)
           have q281 : x8_5 < (l0.length : Int) := of_decide_eq_true (by first | (with_reducible assumption) | assumption)
           obtain ⟨ad281, e281, hx281_0, hx281_1⟩ := at_T31 HR0.out x8_5 p281 q281
           have hw281_1 := hx281_1
           have hw281_0 := hx281_0
           obtain rfl : ad279 = ad281 := (by injection e281)
           replace hx281_0 := cB HB.out hx281_0
           replace hx281_1 := cB HB.out hx281_1
           replace p281 := eq_true p281
           replace q281 := eq_true q281
           have p283 : 0 ≤ (t282 : Int) := of_decide_eq_true (by first | (with_reducible assumption) | assumption)
           have q283 : t282 < (l0.length : Int) := of_decide_eq_true (by first | (with_reducible assumption) | assumption)
           obtain ⟨ad283, e283, hx283_0, hx283_1⟩ := at_T31 HR0.out t282 p283 q283
           have hw283_1 := hx283_1
           have hw283_0 := hx283_0
           obtain rfl : ad279 = ad283 := (by injection e283)
           replace hx283_0 := cB HB.out hx283_0
           replace hx283_1 := cB HB.out hx283_1
           replace p283 := eq_true p283
           replace q283 := eq_true q283
           refine start_ (n := 26) (S := fun w' => w'.cell? (ad279.add ((x5_3).toNat * 2)) = some (.int .i64 ((rd_T31 l0 x5_3).f0)) ∧ w'.cell? ⟨(ad279.add ((x5_3).toNat * 2)).block, (ad279.add ((x5_3).toNat * 2)).off + 1, none⟩ = some (.int .i64 ((rd_T31 l0 x5_3).f1)) ∧ w'.cell? (ad279.add ((t264).toNat * 2)) = some (.int .i64 ((rd_T31 l0 t264).f0)) ∧ w'.cell? ⟨(ad279.add ((t264).toNat * 2)).block, (ad279.add ((t264).toNat * 2)).off + 1, none⟩ = some (.int .i64 ((rd_T31 l0 t264).f1)) ∧ w'.cell? (ad279.add ((x8_5).toNat * 2)) = some (.int .i64 ((rd_T31 l0 x8_5).f0)) ∧ w'.cell? ⟨(ad279.add ((x8_5).toNat * 2)).block, (ad279.add ((x8_5).toNat * 2)).off + 1, none⟩ = some (.int .i64 ((rd_T31 l0 x8_5).f1)) ∧ w'.cell? (ad279.add ((t282).toNat * 2)) = some (.int .i64 ((rd_T31 l0 t282).f0)) ∧ w'.cell? ⟨(ad279.add ((t282).toNat * 2)).block, (ad279.add ((t282).toNat * 2)).off + 1, none⟩ = some (.int .i64 ((rd_T31 l0 t282).f1))) (ds := []) (Bs 0 26) (by kernel_rfl) rfl rfl ⟨(cB HB.out hw279_0), (cB HB.out hw279_1), (cB HB.out hw280_0), (cB HB.out hw280_1), (cB HB.out hw281_0), (cB HB.out hw281_1), (cB HB.out hw283_0), (cB HB.out hw283_1)⟩ (fun hHeld => ?_); refine with_tabW R1_Simple.tab19 R1_Simple.bits19 (fun HT_ HW_ => ?_)
           generalize wr.drew = w59 at HB hx279_0 hx279_1 hx280_0 hx280_1 hx281_0 hx281_1 hx283_0 hx283_1 hHeld ⊢
           refine pu 0 100 (Bs 1 26) HT_ ?_
           refine pu 1 101 (Bs 2 26) HT_ ?_
           refine pu 3 103 (Br [2,1,1,22]) HT_ ?_
           refine one_ (i := 2) (N := some 102) (Bs 4 26) rfl rfl (one_of HT_.out (by kernel_rfl)) (by decide) (fun K hK => ?_)
           refine goes_ Try.func54 (by kernel_rfl) rfl #[.int .i64 x8_5, .int .i64 (l0.length : Int)] (by rfl) rfl rfl (by (try simp only [List.map_toArray, List.map_cons, List.map_nil]); first | done | rfl | (simp only [List.length_drop, List.length_take]; rfl)) ?_
           with_reducible refine (R1_next.calls x8_5 (l0.length : Int) t278 _ A43.out).mono ?_
           rintro e w' ⟨rfl, ⟨nd, rfl⟩⟩
           refine ⟨_, rfl, ?_⟩
           refine hK.out _ _ ⟨(cB HB.out hw279_0), (cB HB.out hw279_1), (cB HB.out hw280_0), (cB HB.out hw280_1), (cB HB.out hw281_0), (cB HB.out hw281_1), (cB HB.out hw283_0), (cB HB.out hw283_1)⟩ (fun hHeld => ?_)
           clear hK K
           refine nm 102 ?_
           refine pu 4 104 (Bs 5 26) HT_ ?_
           refine pu 5 105 (Bs 6 26) HT_ ?_
           refine pu 6 106 (Bs 7 26) HT_ ?_
           refine pu 7 107 (Bs 8 26) HT_ ?_
           refine pu 8 108 (Bs 9 26) HT_ ?_
           refine pu 10 110 (Br [9,1,1,15]) HT_ ?_
           refine pu 11 111 (Br [9,1,2,14]) HT_ ?_
           refine pu 12 112 (Br [9,1,3,13]) HT_ ?_
           refine pu 14 114 (Br [9,1,3,1,1,11]) HT_ ?_
           refine pu 15 115 (Br [9,1,3,1,2,10]) HT_ ?_
           refine pu 16 116 (Br [9,1,3,1,3,9]) HT_ ?_
           refine pu 18 118 (Br [9,1,3,1,3,1,1,7]) HT_ ?_
           refine pu 19 119 (Br [9,1,3,1,3,1,2,6]) HT_ ?_
           refine pu 20 120 (Br [9,1,3,1,3,1,3,5]) HT_ ?_
           refine ta 9 109 (Br [13,1,3,1,3,5]) HT_ HW_ hHeld ?_
           refine ta 13 113 (Br [17,1,3,5]) HT_ HW_ hHeld ?_
           refine ta 17 117 (Bs 21 26) HT_ HW_ hHeld ?_
           refine one_ (i := 21) (N := some 121) (Bs 22 26) rfl rfl (one_of HT_.out (by kernel_rfl)) (by decide) (fun K hK => ?_)
           refine goes_ Try.func54 (by kernel_rfl) rfl #[.int .i64 x8_5, .int .i64 (l0.length : Int)] (by rfl) rfl rfl (by (try simp only [List.map_toArray, List.map_cons, List.map_nil]); first | done | rfl | (simp only [List.length_drop, List.length_take]; rfl)) ?_
           with_reducible refine (R1_next.calls x8_5 (l0.length : Int) t282 _ A52.out).mono ?_
           rintro e w' ⟨rfl, ⟨nd, rfl⟩⟩
           refine ⟨_, rfl, ?_⟩
           refine hK.out _ _ ⟨(cB HB.out hw279_0), (cB HB.out hw279_1), (cB HB.out hw280_0), (cB HB.out hw280_1), (cB HB.out hw281_0), (cB HB.out hw281_1), (cB HB.out hw283_0), (cB HB.out hw283_1)⟩ (fun hHeld => ?_)
           clear hK K
           refine nm 121 ?_
           refine pu 22 122 (Bs 23 26) HT_ ?_
           refine ta 23 123 (Bs 24 26) HT_ HW_ hHeld ?_
           refine one_ (i := 24) (N := some 124) (Bs 25 26) rfl rfl (one_of HT_.out (by kernel_rfl)) (by decide) (fun K hK => ?_)
           refine goes_ Try.func60 (by kernel_rfl) rfl #[.agg #[.int .i64 ((rd_T31 l0 x5_3).f0), .int .i64 ((rd_T31 l0 x5_3).f1)], .agg #[.int .i64 ((rd_T31 l0 t264).f0), .int .i64 ((rd_T31 l0 t264).f1)], .agg #[.int .i64 ((rd_T31 l0 x8_5).f0), .int .i64 ((rd_T31 l0 x8_5).f1)], .agg #[.int .i64 ((rd_T31 l0 t282).f0), .int .i64 ((rd_T31 l0 t282).f1)]] (by rfl) rfl rfl (by (try simp only [List.map_toArray, List.map_cons, List.map_nil]); first | done | rfl | (simp only [List.length_drop, List.length_take]; rfl)) ?_
           with_reducible refine (R1_meet.calls k5 ((rd_T31 l0 x5_3).f0) ((rd_T31 l0 x5_3).f1) ((rd_T31 l0 t264).f0) ((rd_T31 l0 t264).f1) ((rd_T31 l0 x8_5).f0) ((rd_T31 l0 x8_5).f1) ((rd_T31 l0 t282).f0) ((rd_T31 l0 t282).f1) false _ A55.out).mono ?_
           rintro e w60 ⟨rfl, hb⟩
           refine ⟨_, rfl, ?_⟩
           have n0_ := Aside0.mk (below_step lB hb)
           clear HB
           have HB := n0_
           clear n0_
           (try clear hb)
           (try clear hb2)
           (try clear hk)
           (try clear hi)
           refine hK.out _ _ ⟨(cB HB.out hw279_0), (cB HB.out hw279_1), (cB HB.out hw280_0), (cB HB.out hw280_1), (cB HB.out hw281_0), (cB HB.out hw281_1), (cB HB.out hw283_0), (cB HB.out hw283_1)⟩ (fun hHeld => ?_)
           clear hK K
           refine nm 124 ?_
           refine pu 25 125 (Bs 26 26) HT_ ?_
           refine done_ (done_of HT_.out (by kernel_rfl)) ?_
           try go_wp2
           go_roundg k5
           case measure => have := HJ1.out; have := HK2.out; have := HK3.out; have := HJ19.out; have := HK5.out; omega
           case rel => exact ⟨(wrap64 (x8_5 + 1)), (by first | rfl | (simp; done) | (simp [*]; done)), H', ⟨by have := HJ1.out; have := HK2.out; have := HK3.out; have := HJ19.out; have := HK5.out; omega⟩, ⟨by repeat (first | (with_reducible first | exact HB.out | apply lA | apply lN | apply lD) | exact HB.out)⟩⟩

end Go.Proofs.Ythaklbjcjoolcaa.P
namespace Go.Proofs.Ythaklbjcjoolcaa.P
open Go.RowKit YthaklbjcjoolcaaW.PrintWords YthaklbjcjoolcaaW.PrintLast YthaklbjcjoolcaaW.PrintMore
theorem ref_row (l : List S31) (ho : allOk l = true) (hn : l.length ≤ 4096) (i : Nat) (hi : i < l.length) (v : Bool) (hv : Ev (fun k => R1_Simple.l1 k l (l.length : Int) ((i + 1 : Nat) : Int)) v) :
  ∀ m j, l.length - j = m → j ≤ l.length + 1 → Ev (fun k => R1_Simple.l2 k l (l.length : Int) (i : Int) ((nx l i : Nat) : Int) (j : Int)) (rowB l i m j && v)
 | 0, j, hm, hj => by
  refine Ev.step (f := fun k => R1_Simple.l1 k l (l.length : Int) ((i + 1 : Nat) : Int)) (fun k => ?_) hv
  rw [R1_Simple.l2, if_neg (by omega), w64i (x := (i : Int) + 1) (by omega) (by omega)]
  rfl
 | m + 1, j, hm, hj => by
  have hjl : j < l.length := by omega
  have hnj := nx_lt l j (by omega)
  have hni := nx_lt l i (by omega)
  have ih := ref_row l ho hn i hi v hv m (j + 1) (by omega) (by omega)
  have ej : wrap64 ((j : Int) + 1) = ((j + 1 : Nat) : Int) := w64i (x := (j : Int) + 1) (by omega) (by omega)
  unfold rowB
  by_cases hx : nx l j = i
  ·refine Ev.step (f := fun k => R1_Simple.l2 k l (l.length : Int) (i : Int) ((nx l i : Nat) : Int) ((j + 1 : Nat) : Int)) (fun k => ?_) (by rw [decide_eq_true hx, Bool.true_or, Bool.true_and]; exact ih)
   rw [R1_Simple.l2, if_pos (by omega), nx_next l j hjl hn, Option.bind_some, if_pos (by omega), ej]
  ·rw [decide_eq_false hx, Bool.false_or]
   refine Ev.step (f := fun k => (R1_meet.f k (pt l i).f0 (pt l i).f1 (pt l (nx l i)).f0 (pt l (nx l i)).f1 (pt l j).f0 (pt l j).f1 (pt l (nx l j)).f0 (pt l (nx l j)).f1).bind fun t => if t = true then some false else R1_Simple.l2 k l (l.length : Int) (i : Int) ((nx l i : Nat) : Int) ((j + 1 : Nat) : Int)) (fun k => ?_) ?_
   ·rw [R1_Simple.l2, if_pos (by omega), nx_next l j hjl hn, Option.bind_some, if_neg (by omega), if_pos (by omega), if_pos (by omega), if_pos (by omega), if_pos (by omega), if_pos (by omega), if_pos (by omega), Option.bind_some, if_pos (by omega), if_pos (by omega), ej]
    simp only [rd_pt]
   ·refine Ev.bind (Ev.step (f := fun _ => some (meetB (pt l i) (pt l (nx l i)) (pt l j) (pt l (nx l j)))) (fun k => refmeet_is (pt_ok ho hi) (pt_ok ho hni) (pt_ok ho hjl) (pt_ok ho hnj) k) (Ev.now _)) ?_
    cases meetB (pt l i) (pt l (nx l i)) (pt l j) (pt l (nx l j))
    ·exact ev_neg (by decide) (by simpa using ih)
    ·exact ev_pos rfl (Ev.now _)
theorem crs_cyc (a b c : S31) : crs b c a = crs a b c := by
 unfold crs
 rw [← Int.sub_eq_zero]
 simp only [Int.sub_mul, Int.mul_sub]
 rw [Int.mul_comm c.f0 a.f1, Int.mul_comm c.f0 b.f1, Int.mul_comm b.f0 a.f1, Int.mul_comm b.f0 b.f1, Int.mul_comm c.f1 a.f0, Int.mul_comm c.f1 b.f0, Int.mul_comm b.f1 a.f0, Int.mul_comm a.f0 c.f1, Int.mul_comm a.f0 a.f1, Int.mul_comm b.f0 c.f1]
 omega
theorem ref_tou (l : List S31) (ho : allOk l = true) (hn : l.length ≤ 4096) : ∀ m i, l.length - i = m → i ≤ l.length → Ev (fun k => R1_Simple.l1 k l (l.length : Int) (i : Int)) (touB l m i)
 | 0, i, hm, hi => by
  refine Ev.step (f := fun _ => some true) (fun k => ?_) (Ev.now _)
  rw [R1_Simple.l1, if_neg (by omega)]
 | m + 1, i, hm, hi => by
  have hil : i < l.length := by omega
  have hni := nx_lt l i (by omega)
  have hnn := nx_lt l (nx l i) (by omega)
  have ih := ref_tou l ho hn m (i + 1) (by omega) (by omega)
  have hr := ref_row l ho hn i hil _ ih (l.length - (i + 2)) (i + 2) rfl (by omega)
  have h1 := on_is (pt_ok ho hni) (pt_ok ho hnn) (pt_ok ho hil)
  have h2 := on_is (pt_ok ho hil) (pt_ok ho hni) (pt_ok ho hnn)
  have ht := turn_is (pt_ok ho hil) (pt_ok ho hni) (pt_ok ho hnn)
  have ej : wrap64 ((i : Int) + 2) = ((i + 2 : Nat) : Int) := w64i (x := (i : Int) + 2) (by omega) (by omega)
  have hj : ∀ b : Bool, Ev (fun k => R1_Simple.j3 k l (l.length : Int) (i : Int) ((nx l i : Nat) : Int) b) (!b && (rowB l i (l.length - (i + 2)) (i + 2) && touB l m (i + 1))) := by
   intro b
   cases b
   ·refine Ev.step (f := fun k => R1_Simple.l2 k l (l.length : Int) (i : Int) ((nx l i : Nat) : Int) ((i + 2 : Nat) : Int)) (fun k => ?_) (by simpa using hr)
    rw [R1_Simple.j3, if_neg (by decide), ej]
   ·refine Ev.step (f := fun _ => some false) (fun k => ?_) (Ev.now _)
    rw [R1_Simple.j3, if_pos rfl]
  refine Ev.step (f := fun k => if sgn (crs (pt l i) (pt l (nx l i)) (pt l (nx l (nx l i)))) = 0 then (if onB (pt l i) (pt l (nx l i)) (pt l (nx l (nx l i))) = true then R1_Simple.j3 k l (l.length : Int) (i : Int) ((nx l i : Nat) : Int) true else R1_Simple.j3 k l (l.length : Int) (i : Int) ((nx l i : Nat) : Int) (onB (pt l (nx l i)) (pt l (nx l (nx l i))) (pt l i))) else R1_Simple.j3 k l (l.length : Int) (i : Int) ((nx l i : Nat) : Int) false) (fun k => ?_) ?_
  ·rw [R1_Simple.l1, if_pos (by omega), nx_next l i hil hn, Option.bind_some, nx_next l (nx l i) hni hn, Option.bind_some, if_pos (by omega), if_pos (by omega), if_pos (by omega), if_pos (by omega), if_pos (by omega), if_pos (by omega)]
   simp only [rd_pt, refturn_same, ht, h1, h2, Option.bind_some]
  ·unfold touB xB
   by_cases h0 : crs (pt l i) (pt l (nx l i)) (pt l (nx l (nx l i))) = 0
   ·refine ev_pos (sgn_zero.2 h0) ?_
    by_cases hx : onB (pt l i) (pt l (nx l i)) (pt l (nx l (nx l i))) = true
    ·rw [hx, Bool.or_true]; exact ev_pos rfl (hj true)
    ·rw [Bool.not_eq_true] at hx
     rw [hx, Bool.or_false]
     refine ev_neg (by decide) ?_
     have h := hj (onB (pt l (nx l i)) (pt l (nx l (nx l i))) (pt l i))
     rw [← Bool.and_assoc] at h
     exact h
   ·refine ev_neg (fun h => h0 (sgn_zero.1 h)) ?_
    have e1 : onB (pt l i) (pt l (nx l i)) (pt l (nx l (nx l i))) = false := Bool.eq_false_iff.2 fun h => h0 (onB_crs h)
    have e2 : onB (pt l (nx l i)) (pt l (nx l (nx l i))) (pt l i) = false := Bool.eq_false_iff.2 fun h => h0 ((crs_cyc _ _ _).symm.trans (onB_crs h))
    rw [e1, e2]
    have h := hj false
    rw [← Bool.and_assoc] at h
    exact h
theorem ref_ne (l : List S31) (ho : allOk l = true) (hn : l.length ≤ 4096) : ∀ m i, l.length - i = m → i ≤ l.length → Ev (fun k => R1_Simple.l0 k l (l.length : Int) (i : Int)) (neB l m i && touB l l.length 0)
 | 0, i, hm, hi => by
  refine Ev.step (f := fun k => R1_Simple.l1 k l (l.length : Int) ((0 : Nat) : Int)) (fun k => ?_) (ref_tou l ho hn l.length 0 (by omega) (by omega))
  rw [R1_Simple.l0, if_neg (by omega)]
  rfl
 | m + 1, i, hm, hi => by
  have hil : i < l.length := by omega
  have hni := nx_lt l i (by omega)
  have ih := ref_ne l ho hn m (i + 1) (by omega) (by omega)
  have ej : wrap64 ((i : Int) + 1) = ((i + 1 : Nat) : Int) := w64i (x := (i : Int) + 1) (by omega) (by omega)
  refine Ev.step (f := fun k => if eqE l i = true then some false else R1_Simple.l0 k l (l.length : Int) ((i + 1 : Nat) : Int)) (fun k => ?_) ?_
  ·rw [R1_Simple.l0, if_pos (by omega), if_pos (by omega), if_pos (by omega), nx_next l i hil hn, Option.bind_some, if_pos (by omega), if_pos (by omega), ej]
   simp only [rd_pt]
   rfl
  ·unfold neB
   by_cases h : eqE l i = true
   ·rw [h]; exact ev_pos rfl (Ev.now _)
   ·rw [Bool.not_eq_true] at h
    rw [h]
    exact ev_neg (by decide) ih
theorem ref_simple (l : List S31) (hl : l.length < 9223372036854775807) : Ev (fun k => R1_Simple.f k l) (simpleS l) := by
 have hj : Ev (fun k => R1_Simple.j0 k l (l.length : Int) true) false := by
  refine Ev.step (f := fun _ => some false) (fun k => ?_) (Ev.now _)
  rw [R1_Simple.j0, if_pos rfl]
 unfold R1_Simple.f simpleS
 by_cases h3 : (l.length : Int) < 3
 ·rw [decide_eq_false (by omega), Bool.false_and]
  exact ev_pos h3 hj
 ·refine ev_neg h3 ?_
  by_cases h5 : (l.length : Int) > 512
  ·rw [decide_eq_false (by omega), Bool.false_and]
   exact ev_pos h5 hj
  ·refine ev_neg h5 (Ev.bind (valids_ev l hl) ?_)
   rw [decide_eq_true (show 3 ≤ l.length ∧ l.length ≤ 512 by omega), Bool.true_and]
   by_cases ha : allOk l = true
   ·rw [ha, Bool.true_and, simB_parts]
    refine Ev.step (f := fun k => R1_Simple.l0 k l (l.length : Int) ((0 : Nat) : Int)) (fun k => ?_) (ref_ne l ha (by omega) l.length 0 (by omega) (by omega))
    rw [R1_Simple.j0, if_neg (by decide)]
    rfl
   ·rw [Bool.not_eq_true] at ha
    rw [ha]; exact hj
end Go.Proofs.Ythaklbjcjoolcaa.P
namespace Go.Proofs.Ythaklbjcjoolcaa.P
open Go.RowKit YthaklbjcjoolcaaW.PrintWords YthaklbjcjoolcaaW.PrintLast YthaklbjcjoolcaaW.PrintMore
attribute [local go_sem] max2_int min2_int max_two min_two max_three min_three max_four min_four

def R1_Set.f (k : Nat) (l0 : List (S31)) : Option (Bool) := if (l0.length : Int) ≥ 1 then (if (l0.length : Int) ≤ 512 then ((R1_Valids.f k l0).bind fun t306 => (some t306)) else (some false)) else (some false)
theorem R1_Set.mono : ∀ a0 k, LeO (R1_Set.f k a0) (R1_Set.f (k + 1) a0) := by
 intro a0 k
 unfold R1_Set.f
 repeat' first
   | (with_reducible exact R1_Valids.mono _ _)
   | (with_reducible first | exact LeO.refl _ | exact LeO.none _ | refine LeO.ite ?_ ?_ | refine LeO.bind ?_ (fun _ => ?_))
   | exact R1_Valids.mono _ _
   | exact LeO.none _ | refine LeO.ite ?_ ?_ | refine LeO.bind ?_ (fun _ => ?_)
set_option maxHeartbeats 8000000 in
set_option maxRecDepth 100000 in
theorem R1_Set.calls (k : Nat) (A0 : Option Addr) (c0 : Nat) (l0 : List (S31)) (r : Bool) (w : World) (hr0 : Kd.C k31 w A0 l0.length l0) (hc0 : l0.length ≤ c0) (h : R1_Set.f k l0 = some r) :
  Calls Try.prog 33 #[.slice A0 l0.length c0] w fun e w' => e = .returned (.bool r) ∧ Below w.heap.size w w' := by
 have HR0 := Aside0.mk hr0
 have HC0 := Aside0.mk hc0
 clear hr0 hc0
 have HB := Aside0.mk (Below.refl w.heap.size w)
 have H : (if (l0.length : Int) ≥ 1 then (if (l0.length : Int) ≤ 512 then ((R1_Valids.f k l0).bind fun t306 => (some t306)) else (some false)) else (some false)) = some r := h
 clear h
 by_cases c2 : (l0.length : Int) ≥ 1
 ·rw [if_pos c2] at H
  have c2b0 : decide (1 ≤ (l0.length : Int)) = true := decide_eq_true c2
  have c2b1 : decide (1 ≤ l0.length) = true := decide_eq_true (by omega)
  clear c2
  by_cases c3 : (l0.length : Int) ≤ 512
  ·rw [if_pos c3] at H
   have c3b0 : decide ((l0.length : Int) ≤ 512) = true := decide_eq_true c3
   have c3b1 : decide (l0.length ≤ 512) = true := decide_eq_true (by omega)
   clear c3
   replace H := Option.bind_eq_some_iff.mp H
   obtain ⟨t306, A40, H⟩ := H
   replace H : (some t306) = some r := H
   have A4 := Aside0.mk A40
   clear A40
   obtain rfl := Option.some.inj H
   go_enter Try.func33, Try.ntmps33
   go_wp2_with (first | (go_at_call 22; (with_reducible refine (R1_Valids.calls k _ _ l0 t306 _ ?side1 ?side2 A4.out).mono ?_); (case side1 => repeat (first | exact HR0.out | (with_reducible refine Kd.C_alloc ?_ _) | (with_reducible refine Kd.C_drewN ?_ _) | (with_reducible refine Kd.C_drew ?_))); (case side2 => exact HC0.out); rintro e w5 ⟨rfl, hb⟩; have n0_ := Aside0.mk (below_step lB hb); clear HB; have HB := n0_; clear n0_; (try clear hb); (try clear hb2); (try clear hk); (try clear hi)))
   go_ret
   exact en
  rw [if_neg c3] at H
  have c3b0 : decide ((l0.length : Int) ≤ 512) = false := decide_eq_false c3
  have c3b1 : decide (l0.length ≤ 512) = false := decide_eq_false (by omega)
  clear c3
  obtain rfl := Option.some.inj H
  go_enter Try.func33, Try.ntmps33
  go_wp2
  go_ret
  exact en
 rw [if_neg c2] at H
 have c2b0 : decide (1 ≤ (l0.length : Int)) = false := decide_eq_false c2
 have c2b1 : decide (1 ≤ l0.length) = false := decide_eq_false (by omega)
 clear c2
 obtain rfl := Option.some.inj H
 go_enter Try.func33, Try.ntmps33
 go_wp2
 go_ret
 exact en


attribute [local go_sem high] eqA31
def L1_same.l0 : Nat → List (S31) → List (S31) → Int → Option (Bool)
 | 0, _, _, _ => none
 | k + 1, x0, x1, x5 => if x5 < (x0.length : Int) then (if 0 ≤ x5 then (if x5 < (x1.length : Int) then (if (!(((rd_T31 x0 x5).f0) == ((rd_T31 x1 x5).f0)) || (!(((rd_T31 x0 x5).f1) == ((rd_T31 x1 x5).f1)))) = true then (some false) else (L1_same.l0 k x0 x1 (wrap64 (x5 + 1)))) else (none)) else (none)) else (some true)
def L1_same.f (k : Nat) (l0 : List (S31)) (l1 : List (S31)) : Option (Bool) := if (l0.length : Int) = (l1.length : Int) then (L1_same.l0 k l0 l1 0) else (some false)
theorem L1_same.mono_l : ∀ k, (∀ y0 y1 y2, LeO (L1_same.l0 k y0 y1 y2) (L1_same.l0 (k + 1) y0 y1 y2))
 | 0 => fun _ _ _ r h => by simp [L1_same.l0] at h
 | k + 1 => by
  have ih0 := L1_same.mono_l k
  ·intro y0 y1 y2
   unfold L1_same.l0
   repeat' first
   | (with_reducible exact ih0 _ _ _)
   | (with_reducible first | exact LeO.refl _ | exact LeO.none _ | refine LeO.ite ?_ ?_ | refine LeO.bind ?_ (fun _ => ?_))
   | exact ih0 _ _ _
   | exact LeO.none _ | refine LeO.ite ?_ ?_ | refine LeO.bind ?_ (fun _ => ?_)
theorem L1_same.mono : ∀ a0 a1 k, LeO (L1_same.f k a0 a1) (L1_same.f (k + 1) a0 a1) := by
 intro a0 a1 k
 have ih0 := L1_same.mono_l k
 unfold L1_same.f
 repeat' first
   | (with_reducible exact ih0 _ _ _)
   | (with_reducible first | exact LeO.refl _ | exact LeO.none _ | refine LeO.ite ?_ ?_ | refine LeO.bind ?_ (fun _ => ?_))
   | exact ih0 _ _ _
   | exact LeO.none _ | refine LeO.ite ?_ ?_ | refine LeO.bind ?_ (fun _ => ?_)
set_option maxHeartbeats 8000000 in
set_option maxRecDepth 100000 in
theorem L1_same.calls (k : Nat) (A0 : Option Addr) (c0 : Nat) (l0 : List (S31)) (A1 : Option Addr) (c1 : Nat) (l1 : List (S31)) (r : Bool) (w : World) (hr0 : Kd.C k31 w A0 l0.length l0) (hc0 : l0.length ≤ c0) (hr1 : Kd.C k31 w A1 l1.length l1) (hc1 : l1.length ≤ c1) (h : L1_same.f k l0 l1 = some r) :
  Calls Try.prog 34 #[.slice A0 l0.length c0, .slice A1 l1.length c1] w fun e w' => e = .returned (.bool r) ∧ Drawn0 w w' := by
 have hu31 := Try.underlying31
 have HR0 := Aside0.mk hr0
 have HC0 := Aside0.mk hc0
 clear hr0 hc0
 have HR1 := Aside0.mk hr1
 have HC1 := Aside0.mk hc1
 clear hr1 hc1
 have H : (if (l0.length : Int) = (l1.length : Int) then (L1_same.l0 k l0 l1 0) else (some false)) = some r := h
 clear h
 by_cases c3 : (l0.length : Int) = (l1.length : Int)
 ·rw [if_pos c3] at H
  have c3b0 : ((l0.length : Int) == (l1.length : Int)) = true := beq_iff_eq.mpr c3
  have c3b1 : ((l0.length : Int) != (l1.length : Int)) = false := bne_eq_false_iff_eq.mpr c3
  have c3b2 : (l0.length == l1.length) = true := by first | simpa using c3 | (simp at c3 ⊢; omega)
  clear c3
  have H' := Aside0.mk H
  clear H
  go_enter Try.func34, Try.ntmps34
  go_wp2
  repeat (go_quiet (fail); try go_wp2)
  go_loopg [5] k (fun kq v5 w' => ∃ (x5_1 : Int), v5 = .int .i64 x5_1 ∧ Aside0 (L1_same.l0 kq l0 l1 x5_1 = some r) ∧ Aside0 (kq ≤ k) ∧ Drawn0 w w')
  case atStart => exact ⟨(0), (by first | rfl | (simp; done) | (simp [*]; done)), H', ⟨Nat.le_refl _⟩, by repeat (first | exact Drawn0.refl _ | apply Drawn0.step)⟩
  case round =>
   clear H'
   try clear c1
   try clear p2
   try clear c3
   try clear c3b0
   try clear c3b1
   try clear c3b2
   obtain ⟨x5_1, rfl, HA, HK1, ⟨m1, rfl⟩⟩ := hrel
   cases gk with
   | zero => exact absurd HA.out (by simp [L1_same.l0])
   | succ k1 =>
    have H := HA.out
    clear HA
    simp only [L1_same.l0] at H
    by_cases c4 : x5_1 < (l0.length : Int)
    ·rw [if_pos c4] at H
     have c4b0 : decide (x5_1 < (l0.length : Int)) = true := decide_eq_true c4
     clear c4
     by_cases c5 : 0 ≤ x5_1
     ·rw [if_pos c5] at H
      have c5b0 : decide (0 ≤ x5_1) = true := decide_eq_true c5
      clear c5
      by_cases c6 : x5_1 < (l1.length : Int)
      ·rw [if_pos c6] at H
       have c6b0 : decide (x5_1 < (l1.length : Int)) = true := decide_eq_true c6
       clear c6
       by_cases c7 : (!(((rd_T31 l0 x5_1).f0) == ((rd_T31 l1 x5_1).f0)) || (!(((rd_T31 l0 x5_1).f1) == ((rd_T31 l1 x5_1).f1)))) = true
       ·rw [if_pos c7] at H
        have c7b0 : (!(((rd_T31 l0 x5_1).f0) == ((rd_T31 l1 x5_1).f0)) || (!(((rd_T31 l0 x5_1).f1) == ((rd_T31 l1 x5_1).f1)))) = true := c7
        clear c7
        obtain rfl := Option.some.inj H
        have p307 : 0 ≤ (x5_1 : Int) := of_decide_eq_true (by first | (with_reducible assumption) | assumption)
        have q307 : x5_1 < (l0.length : Int) := of_decide_eq_true (by first | (with_reducible assumption) | assumption)
        obtain ⟨ad307, e307, hx307_0, hx307_1⟩ := at_T31 HR0.out x5_1 p307 q307
        cases e307
        replace p307 := eq_true p307
        replace q307 := eq_true q307
        have p308 : 0 ≤ (x5_1 : Int) := of_decide_eq_true (by first | (with_reducible assumption) | assumption)
        have q308 : x5_1 < (l1.length : Int) := of_decide_eq_true (by first | (with_reducible assumption) | assumption)
        obtain ⟨ad308, e308, hx308_0, hx308_1⟩ := at_T31 HR1.out x5_1 p308 q308
        cases e308
        replace p308 := eq_true p308
        replace q308 := eq_true q308
        go_wp2
        repeat (go_quiet (fail); try go_wp2)
        go_ret
        exact ⟨by first | rfl | (simp; done) | (simp [*]; done), by repeat (first | exact Drawn0.refl _ | apply Drawn0.step)⟩
       ·rw [if_neg c7] at H
        have c7b0 : (!(((rd_T31 l0 x5_1).f0) == ((rd_T31 l1 x5_1).f0)) || (!(((rd_T31 l0 x5_1).f1) == ((rd_T31 l1 x5_1).f1)))) = false := by simpa using c7
        clear c7
        have H' := Aside0.mk H
        clear H
        have p307 : 0 ≤ (x5_1 : Int) := of_decide_eq_true (by first | (with_reducible assumption) | assumption)
        have q307 : x5_1 < (l0.length : Int) := of_decide_eq_true (by first | (with_reducible assumption) | assumption)
        obtain ⟨ad307, e307, hx307_0, hx307_1⟩ := at_T31 HR0.out x5_1 p307 q307
        cases e307
        replace p307 := eq_true p307
        replace q307 := eq_true q307
        have p308 : 0 ≤ (x5_1 : Int) := of_decide_eq_true (by first | (with_reducible assumption) | assumption)
        have q308 : x5_1 < (l1.length : Int) := of_decide_eq_true (by first | (with_reducible assumption) | assumption)
        obtain ⟨ad308, e308, hx308_0, hx308_1⟩ := at_T31 HR1.out x5_1 p308 q308
        cases e308
        replace p308 := eq_true p308
        replace q308 := eq_true q308
        go_wp2
        repeat (go_quiet (fail); try go_wp2)
        go_roundg k1
        case measure => have := HK1.out; omega
        case rel => exact ⟨(wrap64 (x5_1 + 1)), (by first | rfl | (simp; done) | (simp [*]; done)), H', ⟨by have := HK1.out; omega⟩, by repeat (first | exact Drawn0.refl _ | apply Drawn0.step)⟩
      ·rw [if_neg c6] at H
       exact absurd H (by simp)
     ·rw [if_neg c5] at H
      exact absurd H (by simp)
    ·rw [if_neg c4] at H
     have c4b0 : decide (x5_1 < (l0.length : Int)) = false := decide_eq_false c4
     clear c4
     obtain rfl := Option.some.inj H
     go_wp2
     repeat (go_quiet (fail); try go_wp2)
     go_ret
     exact ⟨by first | rfl | (simp; done) | (simp [*]; done), by repeat (first | exact Drawn0.refl _ | apply Drawn0.step)⟩
 rw [if_neg c3] at H
 have c3b0 : ((l0.length : Int) == (l1.length : Int)) = false := beq_eq_false_iff_ne.mpr c3
 have c3b1 : ((l0.length : Int) != (l1.length : Int)) = true := bne_iff_ne.mpr c3
 have c3b2 : (l0.length == l1.length) = false := by first | simpa using c3 | (simp at c3 ⊢; omega)
 obtain rfl := Option.some.inj H
 go_enter Try.func34, Try.ntmps34
 go_wp2
 repeat (go_quiet (fail); try go_wp2)
 go_ret
 exact ⟨by first | rfl | (simp; done) | (simp [*]; done), by repeat (first | exact Drawn0.refl _ | apply Drawn0.step)⟩

end Go.Proofs.Ythaklbjcjoolcaa.P
namespace Go.Proofs.Ythaklbjcjoolcaa.P
open Go.RowKit YthaklbjcjoolcaaW.PrintWords YthaklbjcjoolcaaW.PrintLast YthaklbjcjoolcaaW.PrintMore
end Go.Proofs.Ythaklbjcjoolcaa.P
namespace Go.Proofs.Ythaklbjcjoolcaa.P
open Go.RowKit YthaklbjcjoolcaaW.PrintWords YthaklbjcjoolcaaW.PrintLast YthaklbjcjoolcaaW.PrintMore
attribute [local go_sem] max2_int min2_int max_two min_two max_three min_three max_four min_four

def L1_mod.f (a0 : Int) (a1 : Int) : Option (Int) := if (IntKind.u64.wrap (a1)) = 0 then (none) else (some (wrap64 (Int.tmod (IntKind.u64.wrap (a0)) (IntKind.u64.wrap (a1)))))
set_option maxHeartbeats 8000000 in
set_option maxRecDepth 100000 in
theorem L1_mod.calls (a0 : Int) (a1 : Int) (r : Int) (w : World) (h : L1_mod.f a0 a1 = some r) :
  Calls Try.prog 44 #[.int .i64 a0, .int .i64 a1] w fun e w' => e = .returned (.int .i64 r) ∧ Drawn0 w w' := by
 have H : (if (IntKind.u64.wrap (a1)) = 0 then (none) else (some (wrap64 (Int.tmod (IntKind.u64.wrap (a0)) (IntKind.u64.wrap (a1)))))) = some r := h
 clear h
 by_cases c3 : (IntKind.u64.wrap (a1)) = 0
 ·rw [if_pos c3] at H
  exact absurd H (by simp)
 rw [if_neg c3] at H
 have c3b0 : ((IntKind.u64.wrap (a1)) == 0) = false := beq_eq_false_iff_ne.mpr c3
 have c3b1 : ((IntKind.u64.wrap (a1)) != 0) = true := bne_iff_ne.mpr c3
 obtain rfl := Option.some.inj H
 go_enter Try.func44, Try.ntmps44
 go_wp2
 go_ret
 exact ⟨by first | rfl | (simp; done) | (simp [*]; done), by repeat (first | exact Drawn0.refl _ | apply Drawn0.step)⟩


def L1_grid.f (a0_0 : Int) (a0_1 : Int) : Option (Int × Int) := (R1_Valid.f a0_0 a0_1).bind fun t325 => (if t325 = true then (some (a0_0, a0_1)) else ((L1_mod.f a0_0 41).bind fun t326 => ((L1_mod.f a0_1 41).bind fun t327 => (some (wrap64 (t326 - 20), wrap64 (t327 - 20))))))
def L1_grid.T3 : Bool × List (List Nat × List Nat) := (true, [([], []), ([0], [0]), ([1], [1]), ([2], [2]), ([], []), ([4], [4]), ([5, 2], [5]), ([6], [6]), ([3, 7], [3, 7]), ([8, 6, 0, 1, 2, 3, 4, 5, 6, 7, 8], [8])])
def L1_grid.B3 : List Nat := [0, 1, 3, 7, 0, 16, 55, 119, 255, 511]
theorem L1_grid.tab3 : rtab .any (opsOf Try.f43 3) = L1_grid.T3 := by kernel_rfl
theorem L1_grid.bits3 : waitsOk L1_grid.T3.2 L1_grid.B3 = true := by kernel_rfl
set_option maxHeartbeats 8000000 in
set_option maxRecDepth 100000 in
theorem L1_grid.calls (a0_0 : Int) (a0_1 : Int) (r1 : Int) (r2 : Int) (w : World) (h : L1_grid.f a0_0 a0_1 = some (r1, r2)) :
  Calls Try.prog 43 #[.agg #[.int .i64 a0_0, .int .i64 a0_1]] w fun e w' => e = .returned (.agg #[.int .i64 r1, .int .i64 r2]) ∧ Below w.heap.size w w' := by
 have hu31 := Try.underlying31
 have HB := Aside0.mk (Below.refl w.heap.size w)
 have H : ((R1_Valid.f a0_0 a0_1).bind fun t325 => (if t325 = true then (some (a0_0, a0_1)) else ((L1_mod.f a0_0 41).bind fun t326 => ((L1_mod.f a0_1 41).bind fun t327 => (some (wrap64 (t326 - 20), wrap64 (t327 - 20))))))) = some (r1, r2) := h
 clear h
 replace H := Option.bind_eq_some_iff.mp H
 obtain ⟨t325, A20, H⟩ := H
 replace H : (if t325 = true then (some (a0_0, a0_1)) else ((L1_mod.f a0_0 41).bind fun t326 => ((L1_mod.f a0_1 41).bind fun t327 => (some (wrap64 (t326 - 20), wrap64 (t327 - 20)))))) = some (r1, r2) := H
 have A2 := Aside0.mk A20
 clear A20
 by_cases c3 : t325 = true
 ·subst c3
  have H1 : (some (a0_0, a0_1)) = some (r1, r2) := by rw [if_pos rfl] at H; exact H
  clear H
  have H := H1
  clear H1
  simp only [Option.some.injEq, Prod.mk.injEq] at H
  obtain ⟨rfl, rfl⟩ := H
  go_enter Try.func43, Try.ntmps43
  go_wp2_with (first | ((with_reducible refine gate_dst (N := 1) rfl ?_); refine bxe 1 #[.int .i64 a0_0, .int .i64 a0_1] 31 ?_; intro gb323 hg w4 hbox hb; have n0_ := Aside0.mk (below_step lB hb); have n1_ := Aside0.mk (hbox); have n2_ := Aside0.mk (lG (w := w) hg); have n3_ := Aside0.mk (lG (w := w) hg); clear HB; have HB := n0_; have BK323 := n1_; have GW323 := n2_; have GE323 := n3_; clear n0_ n1_ n2_ n3_; clear hb hbox hg) | ((with_reducible refine gate_dst (N := 2) rfl ?_); refine bxe 2 #[.int .i64 0, .int .i64 0] 31 ?_; intro gb324 hg w5 hbox hb; have n0_ := Aside0.mk (blk_below (g := gb323) (o := .cells #[.int .i64 a0_0, .int .i64 a0_1] 31 (0, 0)) (kX BK323.out) hb); have n1_ := Aside0.mk (below_step lB hb); have n2_ := Aside0.mk (hbox); have n3_ := Aside0.mk (lG (w := w) hg); have n4_ := Aside0.mk (lG (w := w) hg); have n5_ := Aside0.mk ((by rw [hg]; exact Nat.ne_of_lt (blk_lt (g := gb323) (o := .cells #[.int .i64 a0_0, .int .i64 a0_1] 31 (0, 0)) (kX BK323.out)) : gb323 ≠ gb324)); have n6_ := Aside0.mk ((by rw [hg]; exact Nat.ne_of_gt (blk_lt (g := gb323) (o := .cells #[.int .i64 a0_0, .int .i64 a0_1] 31 (0, 0)) (kX BK323.out)) : gb324 ≠ gb323)); clear BK323; clear HB; have BK323 := n0_; have HB := n1_; have BK324 := n2_; have GW324 := n3_; have GE324 := n4_; have NB323_324 := n5_; have NB324_323 := n6_; clear n0_ n1_ n2_ n3_ n4_ n5_ n6_; clear hb hbox hg; have hnb6 := NB323_324.out; have hnc6 := NB324_323.out; have hcz7_0 : w5.cell? ⟨gb323, 0, none⟩ = some (.int .i64 a0_0) := (blk_cell BK323.out 0).trans rfl; have hcz7_1 : w5.cell? ⟨gb323, 1, none⟩ = some (.int .i64 a0_1) := (blk_cell BK323.out 1).trans rfl; have hfz7_0 := blk_frozen BK323.out 0; have hfz7_1 := blk_frozen BK323.out 1) | ((with_reducible refine gate_callee (f := 28) rfl ?_); refine goesL_ (some 4) rfl rfl Try.func28 (by kernel_rfl) rfl #[.agg #[.int .i64 a0_0, .int .i64 a0_1]] rfl (by (try simp only [List.map_toArray, List.map_cons, List.map_nil]); first | done | rfl | (simp only [List.length_drop, List.length_take]; rfl)) ?_; (with_reducible refine (R1_Valid.calls a0_0 a0_1 true _ A2.out).mono ?_); rintro e w8 ⟨rfl, hb⟩; refine ⟨_, rfl, ?_⟩; have n0_ := Aside0.mk (blk_below (g := gb323) (o := .cells #[.int .i64 a0_0, .int .i64 a0_1] 31 (0, 0)) (kX BK323.out) hb); have n1_ := Aside0.mk (blk_below (g := gb324) (o := .cells #[.int .i64 0, .int .i64 0] 31 (0, 0)) (kX BK324.out) hb); have n2_ := Aside0.mk (below_step lB hb); clear BK323; clear BK324; clear HB; have BK323 := n0_; have BK324 := n1_; have HB := n2_; clear n0_ n1_ n2_; (try clear hb); (try clear hb2); (try clear hk); (try clear hi); have hcz9_0 : w8.cell? ⟨gb323, 0, none⟩ = some (.int .i64 a0_0) := (blk_cell BK323.out 0).trans rfl; have hcz9_1 : w8.cell? ⟨gb323, 1, none⟩ = some (.int .i64 a0_1) := (blk_cell BK323.out 1).trans rfl; have hfz9_0 := blk_frozen BK323.out 0; have hfz9_1 := blk_frozen BK323.out 1; have hcz10_0 : w8.cell? ⟨gb324, 0, none⟩ = some (.int .i64 0) := (blk_cell BK324.out 0).trans rfl; have hcz10_1 : w8.cell? ⟨gb324, 1, none⟩ = some (.int .i64 0) := (blk_cell BK324.out 1).trans rfl; have hfz10_0 := blk_frozen BK324.out 0; have hfz10_1 := blk_frozen BK324.out 1))
  refine bodyPost_ret (results_cell_row rfl _ _ gb324 31 #[.int .i64 a0_0, .int .i64 a0_1] (0, 0) _ rfl (by (with_reducible repeat (first | refine kN ?_ _ | refine kD ?_ | refine kA ?_ _)); refine blk_put (cs := #[.int .i64 a0_0, .int .i64 0]) ?_ 1 _ rfl; (with_reducible repeat (first | refine kN ?_ _ | refine kD ?_ | refine kA ?_ _)); refine blk_put (cs := #[.int .i64 0, .int .i64 0]) ?_ 0 _ rfl; (with_reducible repeat (first | refine kN ?_ _ | refine kD ?_ | refine kA ?_ _)); exact BK324.out) Try.underlying31 rfl (by kernel_rfl)) rfl ?_
  exact en
 replace c3 := Bool.eq_false_iff.mpr c3
 subst c3
 have H1 : ((L1_mod.f a0_0 41).bind fun t326 => ((L1_mod.f a0_1 41).bind fun t327 => (some (wrap64 (t326 - 20), wrap64 (t327 - 20))))) = some (r1, r2) := by rw [if_neg (show ¬ (false = true) by decide)] at H; exact H
 clear H
 have H := H1
 clear H1
 replace H := Option.bind_eq_some_iff.mp H
 obtain ⟨t326, A110, H⟩ := H
 replace H : ((L1_mod.f a0_1 41).bind fun t327 => (some (wrap64 (t326 - 20), wrap64 (t327 - 20)))) = some (r1, r2) := H
 have A11 := Aside0.mk A110
 clear A110
 replace H := Option.bind_eq_some_iff.mp H
 obtain ⟨t327, A120, H⟩ := H
 replace H : (some (wrap64 (t326 - 20), wrap64 (t327 - 20))) = some (r1, r2) := H
 have A12 := Aside0.mk A120
 clear A120
 simp only [Option.some.injEq, Prod.mk.injEq] at H
 obtain ⟨rfl, rfl⟩ := H
 go_enter Try.func43, Try.ntmps43
 try go_wp2_with (first | ((with_reducible refine gate_dst (N := 1) rfl ?_); refine bxe 1 #[.int .i64 a0_0, .int .i64 a0_1] 31 ?_; intro gb323 hg w13 hbox hb; have n0_ := Aside0.mk (below_step lB hb); have n1_ := Aside0.mk (hbox); have n2_ := Aside0.mk (lG (w := w) hg); have n3_ := Aside0.mk (lG (w := w) hg); clear HB; have HB := n0_; have BK323 := n1_; have GW323 := n2_; have GE323 := n3_; clear n0_ n1_ n2_ n3_; clear hb hbox hg) | ((with_reducible refine gate_dst (N := 2) rfl ?_); refine bxe 2 #[.int .i64 0, .int .i64 0] 31 ?_; intro gb324 hg w14 hbox hb; have n0_ := Aside0.mk (blk_below (g := gb323) (o := .cells #[.int .i64 a0_0, .int .i64 a0_1] 31 (0, 0)) (kX BK323.out) hb); have n1_ := Aside0.mk (below_step lB hb); have n2_ := Aside0.mk (hbox); have n3_ := Aside0.mk (lG (w := w) hg); have n4_ := Aside0.mk (lG (w := w) hg); have n5_ := Aside0.mk ((by rw [hg]; exact Nat.ne_of_lt (blk_lt (g := gb323) (o := .cells #[.int .i64 a0_0, .int .i64 a0_1] 31 (0, 0)) (kX BK323.out)) : gb323 ≠ gb324)); have n6_ := Aside0.mk ((by rw [hg]; exact Nat.ne_of_gt (blk_lt (g := gb323) (o := .cells #[.int .i64 a0_0, .int .i64 a0_1] 31 (0, 0)) (kX BK323.out)) : gb324 ≠ gb323)); clear BK323; clear HB; have BK323 := n0_; have HB := n1_; have BK324 := n2_; have GW324 := n3_; have GE324 := n4_; have NB323_324 := n5_; have NB324_323 := n6_; clear n0_ n1_ n2_ n3_ n4_ n5_ n6_; clear hb hbox hg; have hnb15 := NB323_324.out; have hnc15 := NB324_323.out; have hcz16_0 : w14.cell? ⟨gb323, 0, none⟩ = some (.int .i64 a0_0) := (blk_cell BK323.out 0).trans rfl; have hcz16_1 : w14.cell? ⟨gb323, 1, none⟩ = some (.int .i64 a0_1) := (blk_cell BK323.out 1).trans rfl; have hfz16_0 := blk_frozen BK323.out 0; have hfz16_1 := blk_frozen BK323.out 1) | ((with_reducible refine gate_callee (f := 28) rfl ?_); refine goesL_ (some 4) rfl rfl Try.func28 (by kernel_rfl) rfl #[.agg #[.int .i64 a0_0, .int .i64 a0_1]] rfl (by (try simp only [List.map_toArray, List.map_cons, List.map_nil]); first | done | rfl | (simp only [List.length_drop, List.length_take]; rfl)) ?_; (with_reducible refine (R1_Valid.calls a0_0 a0_1 false _ A2.out).mono ?_); rintro e w17 ⟨rfl, hb⟩; refine ⟨_, rfl, ?_⟩; have n0_ := Aside0.mk (blk_below (g := gb323) (o := .cells #[.int .i64 a0_0, .int .i64 a0_1] 31 (0, 0)) (kX BK323.out) hb); have n1_ := Aside0.mk (blk_below (g := gb324) (o := .cells #[.int .i64 0, .int .i64 0] 31 (0, 0)) (kX BK324.out) hb); have n2_ := Aside0.mk (below_step lB hb); clear BK323; clear BK324; clear HB; have BK323 := n0_; have BK324 := n1_; have HB := n2_; clear n0_ n1_ n2_; (try clear hb); (try clear hb2); (try clear hk); (try clear hi)))
 replace BK323 := Aside0.mk (kD BK323.out)
 replace BK324 := Aside0.mk (kD BK324.out)
 replace HB := Aside0.mk (lD HB.out)
 refine start_ (n := 10) (S := fun w' => w'.cell? ⟨gb323, 0, none⟩ = some (.int .i64 a0_0) ∧ w'.cell? ⟨gb323, 1, none⟩ = some (.int .i64 a0_1)) (ds := []) (Bs 0 10) (by kernel_rfl) rfl rfl ⟨(blk_cell BK323.out 0).trans rfl, (blk_cell BK323.out 1).trans rfl⟩ (fun hHeld => ?_); refine with_tabW L1_grid.tab3 L1_grid.bits3 (fun HT_ HW_ => ?_)
 generalize w17.drew = w18 at BK323 BK324 HB hHeld ⊢
 refine pu 0 6 (Bs 1 10) HT_ ?_
 refine pu 4 10 #[τ,φ,φ,φ,τ,φ,φ,φ,φ,φ] HT_ ?_
 refine ta 1 7 #[τ,τ,φ,φ,τ,φ,φ,φ,φ,φ] HT_ HW_ hHeld ?_
 refine ta 5 11 #[τ,τ,φ,φ,τ,τ,φ,φ,φ,φ] HT_ HW_ hHeld ?_
 refine one_ (i := 2) (N := some 8) #[τ,τ,τ,φ,τ,τ,φ,φ,φ,φ] rfl rfl (one_of HT_.out (by kernel_rfl)) (by decide) (fun K hK => ?_)
 refine goes_ Try.func44 (by kernel_rfl) rfl #[.int .i64 a0_0, .int .i64 41] (by rfl) rfl rfl (by (try simp only [List.map_toArray, List.map_cons, List.map_nil]); first | done | rfl | (simp only [List.length_drop, List.length_take]; rfl)) ?_
 with_reducible refine (L1_mod.calls a0_0 41 t326 _ A11.out).mono ?_
 rintro e w' ⟨rfl, ⟨nd, rfl⟩⟩
 refine ⟨_, rfl, ?_⟩
 refine hK.out _ _ ⟨(blk_cell BK323.out 0).trans rfl, (blk_cell BK323.out 1).trans rfl⟩ (fun hHeld => ?_)
 clear hK K
 refine nm 8 ?_
 refine pu 3 9 (Bs 6 10) HT_ ?_
 refine one_ (i := 6) (N := some 12) (Bs 7 10) rfl rfl (one_of HT_.out (by kernel_rfl)) (by decide) (fun K hK => ?_)
 refine goes_ Try.func44 (by kernel_rfl) rfl #[.int .i64 a0_1, .int .i64 41] (by rfl) rfl rfl (by (try simp only [List.map_toArray, List.map_cons, List.map_nil]); first | done | rfl | (simp only [List.length_drop, List.length_take]; rfl)) ?_
 with_reducible refine (L1_mod.calls a0_1 41 t327 _ A12.out).mono ?_
 rintro e w' ⟨rfl, ⟨nd, rfl⟩⟩
 refine ⟨_, rfl, ?_⟩
 refine hK.out _ _ ⟨(blk_cell BK323.out 0).trans rfl, (blk_cell BK323.out 1).trans rfl⟩ (fun hHeld => ?_)
 clear hK K
 refine nm 12 ?_
 refine pu 7 13 (Bs 8 10) HT_ ?_
 refine pu 8 14 (Bs 9 10) HT_ ?_
 refine one_ (i := 9) (N := none) (Bs 10 10) rfl rfl (one_of HT_.out (by kernel_rfl)) (by decide) (fun K hK => ?_)
 have hs19 : w18.cell? ⟨gb324, 0, none⟩ = some (.int .i64 0) := (blk_cell BK324.out 0).trans rfl
 have hfs19 := blk_frozen BK324.out 0
 have hns19_0 := NB323_324.out
 have hms19_0 := NB324_323.out
 have hs20 : w18.cell? ⟨gb324, 1, none⟩ = some (.int .i64 0) := (blk_cell BK324.out 1).trans rfl
 have hfs20 := blk_frozen BK324.out 1
 have hns20_0 := NB323_324.out
 have hms20_0 := NB324_323.out
 refine skip_ (w1 := ?_) (by rfl) rfl ?_ ?_
 rotate_left
 ·go_simp
  rfl
 refine hK.out _ _ ⟨((cell_far (p := ⟨gb324, _, none⟩) NB323_324.out _).trans (((cell_far (p := ⟨gb324, _, none⟩) NB323_324.out _).trans (hHeld.1)))), ((cell_far (p := ⟨gb324, _, none⟩) NB323_324.out _).trans (((cell_far (p := ⟨gb324, _, none⟩) NB323_324.out _).trans (hHeld.2))))⟩ (fun hHeld => ?_)
 clear hK K
 refine done_ (done_of HT_.out (by kernel_rfl)) ?_
 try go_wp2
 refine bodyPost_ret (results_cell_row rfl _ _ gb324 31 #[.int .i64 (wrap64 (t326 - 20)), .int .i64 (wrap64 (t327 - 20))] (0, 0) _ rfl (by (with_reducible repeat (first | refine kN ?_ _ | refine kD ?_ | refine kA ?_ _)); refine blk_put (cs := #[.int .i64 (wrap64 (t326 - 20)), .int .i64 0]) ?_ 1 _ rfl; (with_reducible repeat (first | refine kN ?_ _ | refine kD ?_ | refine kA ?_ _)); refine blk_put (cs := #[.int .i64 0, .int .i64 0]) ?_ 0 _ rfl; (with_reducible repeat (first | refine kN ?_ _ | refine kD ?_ | refine kA ?_ _)); exact BK324.out) Try.underlying31 rfl (by kernel_rfl)) rfl ?_
 exact en


def L1_set.l0 : Nat → List (S31) → Int → List (S31) → Int → Option ((List (S31)))
 | 0, _, _, _, _ => none
 | k + 1, x0, x1, x5, x6 => if x6 < (x0.length : Int) then (if x6 < x1 then (if 0 ≤ x6 then ((L1_grid.f ((rd_T31 x0 x6).f0) ((rd_T31 x0 x6).f1)).bind fun bt329 => (if x5.length < 8796093022208 then (L1_set.l0 k x0 x1 (x5 ++ [(⟨bt329.1, bt329.2⟩ : S31)]) (wrap64 (x6 + 1))) else (none))) else (none)) else (if (x5.length : Int) = 0 then (if x5.length < 8796093022208 then (some (x5 ++ [(⟨0, 0⟩ : S31)])) else (none)) else (some x5))) else (if (x5.length : Int) = 0 then (if x5.length < 8796093022208 then (some (x5 ++ [(⟨0, 0⟩ : S31)])) else (none)) else (some x5))
def L1_set.f (k : Nat) (l0 : List (S31)) (a1 : Int) : Option ((List (S31))) := L1_set.l0 k l0 a1 ([] : List (S31)) 0
theorem L1_set.mono_l : ∀ k, (∀ y0 y1 y2 y3, LeO (L1_set.l0 k y0 y1 y2 y3) (L1_set.l0 (k + 1) y0 y1 y2 y3))
 | 0 => fun _ _ _ _ r h => by simp [L1_set.l0] at h
 | k + 1 => by
  have ih0 := L1_set.mono_l k
  ·intro y0 y1 y2 y3
   unfold L1_set.l0
   repeat' first
   | (with_reducible exact ih0 _ _ _ _)
   | (with_reducible first | exact LeO.refl _ | exact LeO.none _ | refine LeO.ite ?_ ?_ | refine LeO.bind ?_ (fun _ => ?_))
   | exact ih0 _ _ _ _
   | exact LeO.none _ | refine LeO.ite ?_ ?_ | refine LeO.bind ?_ (fun _ => ?_)
theorem L1_set.mono : ∀ a0 a1 k, LeO (L1_set.f k a0 a1) (L1_set.f (k + 1) a0 a1) := by
 intro a0 a1 k
 have ih0 := L1_set.mono_l k
 unfold L1_set.f
 repeat' first
   | (with_reducible exact ih0 _ _ _ _)
   | (with_reducible first | exact LeO.refl _ | exact LeO.none _ | refine LeO.ite ?_ ?_ | refine LeO.bind ?_ (fun _ => ?_))
   | exact ih0 _ _ _ _
   | exact LeO.none _ | refine LeO.ite ?_ ?_ | refine LeO.bind ?_ (fun _ => ?_)
set_option maxHeartbeats 8000000 in
set_option maxRecDepth 100000 in
theorem L1_set.calls (k : Nat) (A0 : Option Addr) (c0 : Nat) (l0 : List (S31)) (a1 : Int) (r : List (S31)) (w : World) (hr0 : Kd.C k31 w A0 l0.length l0) (hc0 : l0.length ≤ c0) (h : L1_set.f k l0 a1 = some r) :
  Calls Try.prog 36 #[.slice A0 l0.length c0, .int .i64 a1] w fun e w' => ∃ v0_ : Value, e = .returned (v0_) ∧ Kd.R k31 31 w' w.heap.size (fun _ => True) v0_ r ∧ Below w.heap.size w w' := by
 have hu31 := Try.underlying31
 have HR0 := Aside0.mk hr0
 have HC0 := Aside0.mk hc0
 clear hr0 hc0
 have HB := Aside0.mk (Below.refl w.heap.size w)
 have H : (L1_set.l0 k l0 a1 ([] : List (S31)) 0) = some r := h
 clear h
 have H' := Aside0.mk H
 clear H
 go_enter Try.func36, Try.ntmps36
 go_wp2
 go_loopg [5, 6] k (fun kq v5 v6 w' => ∃ (x5_1 : List (S31)) (x6_1 : Int), v6 = .int .i64 x6_1 ∧ Aside0 (L1_set.l0 kq l0 a1 x5_1 x6_1 = some r) ∧ Aside0 (kq ≤ k) ∧ Aside0 (Kd.R k31 31 w' w.heap.size (fun _ => True) v5 x5_1) ∧ Aside0 (Below w.heap.size w w'))
 case atStart => exact ⟨(([] : List (S31))), (0), (by first | rfl | (simp; done) | (simp [*]; done)), H', ⟨Nat.le_refl _⟩, ⟨by first | exact Kd.R_nil _ _ _ _ _ | exact Kd.N_nil _ _ _ _ _ | exact Kd.V_nil _ _ _ _ _ | exact Kd.Q_nil _ _ _ _ _ | exact Kd.S_nil _ _ _ _ _⟩, ⟨by repeat (first | (with_reducible first | exact HB.out | apply lA | apply lN | apply lD) | exact HB.out)⟩⟩
 case round =>
  clear H'
  try clear p2
  obtain ⟨x5_1, x6_1, rfl, HA, HK1, HO_5, HB⟩ := hrel
  cases gk with
  | zero => exact absurd HA.out (by simp [L1_set.l0])
  | succ k1 =>
   have H := HA.out
   clear HA
   simp only [L1_set.l0] at H
   by_cases c3 : x6_1 < (l0.length : Int)
   ·rw [if_pos c3] at H
    have c3b0 : decide (x6_1 < (l0.length : Int)) = true := decide_eq_true c3
    clear c3
    by_cases c4 : x6_1 < a1
    ·rw [if_pos c4] at H
     have c4b0 : decide (x6_1 < a1) = true := decide_eq_true c4
     clear c4
     by_cases c5 : 0 ≤ x6_1
     ·rw [if_pos c5] at H
      have c5b0 : decide (0 ≤ x6_1) = true := decide_eq_true c5
      clear c5
      replace H := Option.bind_eq_some_iff.mp H
      obtain ⟨⟨t329, t330⟩, A60, H⟩ := H
      replace H : (if x5_1.length < 8796093022208 then (L1_set.l0 k1 l0 a1 (x5_1 ++ [(⟨t329, t330⟩ : S31)]) (wrap64 (x6_1 + 1))) else (none)) = some r := H
      have A6 := Aside0.mk A60
      clear A60
      by_cases c7 : x5_1.length < 8796093022208
      ·rw [if_pos c7] at H
       have LMc7 := Aside0.mk c7
       clear c7
       obtain ⟨y331, hy331⟩ : ∃ y_ : List (S31), y_ = (x5_1 ++ [(⟨t329, t330⟩ : S31)]) := ⟨_, rfl⟩
       replace H : (L1_set.l0 k1 l0 a1 y331 (wrap64 (x6_1 + 1))) = some r := by first | (rw [hy331]; with_reducible exact H) | (have H2_ := (Option.bind_some _ _).symm.trans H; rw [hy331]; with_reducible exact H2_) | (have H2_ := (Option.bind_some _ _).symm.trans H; with_reducible exact H2_) | with_reducible exact H | (rw [hy331]; exact H) | exact H
       have Ny331 := Aside0.mk hy331
       clear hy331
       have H' := Aside0.mk H
       clear H
       have p328 : 0 ≤ (x6_1 : Int) := of_decide_eq_true (by first | (with_reducible assumption) | assumption)
       have q328 : x6_1 < (l0.length : Int) := of_decide_eq_true (by first | (with_reducible assumption) | assumption)
       obtain ⟨ad328, e328, hx328_0, hx328_1⟩ := at_T31 HR0.out x6_1 p328 q328
       cases e328
       replace hx328_0 := cB HB.out hx328_0
       replace hx328_1 := cB HB.out hx328_1
       replace p328 := eq_true p328
       replace q328 := eq_true q328
       go_wp2_with (first | ((with_reducible refine gate_callee (f := 43) rfl ?_); refine goesL_ (some 23) rfl rfl Try.func43 (by kernel_rfl) rfl #[.agg #[.int .i64 ((rd_T31 l0 x6_1).f0), .int .i64 ((rd_T31 l0 x6_1).f1)]] rfl (by (try simp only [List.map_toArray, List.map_cons, List.map_nil]); first | done | rfl | (simp only [List.length_drop, List.length_take]; rfl)) ?_; (with_reducible refine (L1_grid.calls ((rd_T31 l0 x6_1).f0) ((rd_T31 l0 x6_1).f1) t329 t330 _ A6.out).mono ?_); rintro e w8 ⟨rfl, hb⟩; refine ⟨_, rfl, ?_⟩; have n0_ := Aside0.mk (Kd.R_below (by (with_reducible repeat (first | apply Kd.R_alloc | apply Kd.R_drewN | apply Kd.R_drew)); exact HO_5.out) hb); have n1_ := Aside0.mk (below_step lB hb); clear HO_5; clear HB; have HO_5 := n0_; have HB := n1_; clear n0_ n1_; (try clear hb); (try clear hb2); (try clear hk); (try clear hi)) | ((with_reducible refine gate_builtin (b := .append) (xs := #[.tmp 18, .tmp 24]) rfl ?_); at_builtin; refine Kd.R_append k31 (w0 := w) w.heap.size rfl (.tmp 18) (.tmp 24) 22 31 (.agg #[(.int .i64 0), (.int .i64 0)]) 16 rfl Try.underlying22 info31 rfl (by decide) (by omega) u5 x5_1 (⟨t329, t330⟩ : S31) [.int .i64 t329, .int .i64 t330] (fun _ => True) (fun _ => False) rfl rfl ?aP (fun _ hk => hk.elim) ?aF ?aO ?aB ?aS ?aL ?_; (case aP => exact k31_mkM _ _ _ (⟨t329, t330⟩ : S31)); (case aB => exact lB); (case aF => exact (fun _ _ => trivial)); (case aO => exact (by (with_reducible repeat (first | apply Kd.R_alloc | apply Kd.R_drewN | apply Kd.R_drew)); exact HO_5.out)); (case aS => exact (below_size lB)); (case aL => have := LMc7.out; omega); intro v332 w9 ho hb hg hat; rw [← Ny331.out] at ho; have n0_ := Aside0.mk (hb); have n1_ := Aside0.mk (ho); clear HB; clear HO_5; have HB := n0_; have HO333 := n1_; clear n0_ n1_; clear ho hb hg hat))
       go_roundg k1
       case measure => have := HK1.out; omega
       case rel => exact ⟨(y331), (wrap64 (x6_1 + 1)), (by first | rfl | (simp; done) | (simp [*]; done)), H', ⟨by have := HK1.out; omega⟩, ⟨by (with_reducible repeat (first | apply Kd.R_alloc | apply Kd.R_drewN | apply Kd.R_drew)); exact HO333.out⟩, ⟨by repeat (first | (with_reducible first | exact HB.out | apply lA | apply lN | apply lD) | exact HB.out)⟩⟩
      ·rw [if_neg c7] at H
       exact absurd H (by simp)
     ·rw [if_neg c5] at H
      exact absurd H (by simp)
    ·rw [if_neg c4] at H
     have c4b0 : decide (x6_1 < a1) = false := decide_eq_false c4
     clear c4
     by_cases c10 : (x5_1.length : Int) = 0
     ·rw [if_pos c10] at H
      have c10b0 : ((x5_1.length : Int) == 0) = true := beq_iff_eq.mpr c10
      have c10b1 : ((x5_1.length : Int) != 0) = false := bne_eq_false_iff_eq.mpr c10
      clear c10
      by_cases c11 : x5_1.length < 8796093022208
      ·rw [if_pos c11] at H
       have LMc11 := Aside0.mk c11
       clear c11
       obtain ⟨y334, hy334⟩ : ∃ y_ : List (S31), y_ = (x5_1 ++ [(⟨0, 0⟩ : S31)]) := ⟨_, rfl⟩
       replace H : (some y334) = some r := by first | (rw [hy334]; with_reducible exact H) | (have H2_ := (Option.bind_some _ _).symm.trans H; rw [hy334]; with_reducible exact H2_) | (have H2_ := (Option.bind_some _ _).symm.trans H; with_reducible exact H2_) | with_reducible exact H | (rw [hy334]; exact H) | exact H
       have Ny334 := Aside0.mk hy334
       clear hy334
       obtain rfl := Option.some.inj H
       obtain ⟨Ao12, co12, eo12⟩ := Kd.R_slice HO_5.out
       subst eo12
       go_wp2_with (first | ((with_reducible refine gate_builtin (b := .append) (xs := #[.tmp 29, .tmp 31]) rfl ?_); at_builtin; refine Kd.R_append k31 (w0 := w) w.heap.size rfl (.tmp 29) (.tmp 31) 22 31 (.agg #[(.int .i64 0), (.int .i64 0)]) 16 rfl Try.underlying22 info31 rfl (by decide) (by omega) (.slice Ao12 x5_1.length co12) x5_1 (⟨0, 0⟩ : S31) [.int .i64 0, .int .i64 0] (fun _ => True) (fun _ => False) rfl rfl ?aP (fun _ hk => hk.elim) ?aF ?aO ?aB ?aS ?aL ?_; (case aP => exact k31_mkM _ _ _ (⟨0, 0⟩ : S31)); (case aB => exact lB); (case aF => exact (fun _ _ => trivial)); (case aO => exact (by (with_reducible repeat (first | apply Kd.R_alloc | apply Kd.R_drewN | apply Kd.R_drew)); exact HO_5.out)); (case aS => exact (below_size lB)); (case aL => have := LMc11.out; omega); intro v335 w13 ho hb hg hat; rw [← Ny334.out] at ho; have n0_ := Aside0.mk (hb); have n1_ := Aside0.mk (ho); clear HB; clear HO_5; have HB := n0_; have HO336 := n1_; clear n0_ n1_; clear ho hb hg hat))
       go_ret
       exact ⟨_, by first | rfl | (simp [errW_none, errW_some] <;> rfl) | (simp [*, errW_none, errW_some] <;> rfl), by (with_reducible repeat (first | apply Kd.R_alloc | apply Kd.R_drewN | apply Kd.R_drew)); exact HO336.out, lB⟩
      ·rw [if_neg c11] at H
       exact absurd H (by simp)
     ·rw [if_neg c10] at H
      have c10b0 : ((x5_1.length : Int) == 0) = false := beq_eq_false_iff_ne.mpr c10
      have c10b1 : ((x5_1.length : Int) != 0) = true := bne_iff_ne.mpr c10
      have c10b2 : ¬ (x5_1 = []) := fun h_ => c10 (by rw [h_]; rfl)
      obtain rfl := Option.some.inj H
      obtain ⟨Ao14, co14, eo14⟩ := Kd.R_slice HO_5.out
      subst eo14
      go_wp2
      go_ret
      exact ⟨_, by first | rfl | (simp [errW_none, errW_some] <;> rfl) | (simp [*, errW_none, errW_some] <;> rfl), by (with_reducible repeat (first | apply Kd.R_alloc | apply Kd.R_drewN | apply Kd.R_drew)); exact HO_5.out, lB⟩
   ·rw [if_neg c3] at H
    have c3b0 : decide (x6_1 < (l0.length : Int)) = false := decide_eq_false c3
    clear c3
    by_cases c15 : (x5_1.length : Int) = 0
    ·rw [if_pos c15] at H
     have c15b0 : ((x5_1.length : Int) == 0) = true := beq_iff_eq.mpr c15
     have c15b1 : ((x5_1.length : Int) != 0) = false := bne_eq_false_iff_eq.mpr c15
     clear c15
     by_cases c16 : x5_1.length < 8796093022208
     ·rw [if_pos c16] at H
      have LMc16 := Aside0.mk c16
      clear c16
      obtain ⟨y337, hy337⟩ : ∃ y_ : List (S31), y_ = (x5_1 ++ [(⟨0, 0⟩ : S31)]) := ⟨_, rfl⟩
      replace H : (some y337) = some r := by first | (rw [hy337]; with_reducible exact H) | (have H2_ := (Option.bind_some _ _).symm.trans H; rw [hy337]; with_reducible exact H2_) | (have H2_ := (Option.bind_some _ _).symm.trans H; with_reducible exact H2_) | with_reducible exact H | (rw [hy337]; exact H) | exact H
      have Ny337 := Aside0.mk hy337
      clear hy337
      obtain rfl := Option.some.inj H
      obtain ⟨Ao17, co17, eo17⟩ := Kd.R_slice HO_5.out
      subst eo17
      go_wp2_with (first | ((with_reducible refine gate_builtin (b := .append) (xs := #[.tmp 29, .tmp 31]) rfl ?_); at_builtin; refine Kd.R_append k31 (w0 := w) w.heap.size rfl (.tmp 29) (.tmp 31) 22 31 (.agg #[(.int .i64 0), (.int .i64 0)]) 16 rfl Try.underlying22 info31 rfl (by decide) (by omega) (.slice Ao17 x5_1.length co17) x5_1 (⟨0, 0⟩ : S31) [.int .i64 0, .int .i64 0] (fun _ => True) (fun _ => False) rfl rfl ?aP (fun _ hk => hk.elim) ?aF ?aO ?aB ?aS ?aL ?_; (case aP => exact k31_mkM _ _ _ (⟨0, 0⟩ : S31)); (case aB => exact lB); (case aF => exact (fun _ _ => trivial)); (case aO => exact (by (with_reducible repeat (first | apply Kd.R_alloc | apply Kd.R_drewN | apply Kd.R_drew)); exact HO_5.out)); (case aS => exact (below_size lB)); (case aL => have := LMc16.out; omega); intro v338 w18 ho hb hg hat; rw [← Ny337.out] at ho; have n0_ := Aside0.mk (hb); have n1_ := Aside0.mk (ho); clear HB; clear HO_5; have HB := n0_; have HO339 := n1_; clear n0_ n1_; clear ho hb hg hat))
      go_ret
      exact ⟨_, by first | rfl | (simp [errW_none, errW_some] <;> rfl) | (simp [*, errW_none, errW_some] <;> rfl), by (with_reducible repeat (first | apply Kd.R_alloc | apply Kd.R_drewN | apply Kd.R_drew)); exact HO339.out, lB⟩
     ·rw [if_neg c16] at H
      exact absurd H (by simp)
    ·rw [if_neg c15] at H
     have c15b0 : ((x5_1.length : Int) == 0) = false := beq_eq_false_iff_ne.mpr c15
     have c15b1 : ((x5_1.length : Int) != 0) = true := bne_iff_ne.mpr c15
     have c15b2 : ¬ (x5_1 = []) := fun h_ => c15 (by rw [h_]; rfl)
     obtain rfl := Option.some.inj H
     obtain ⟨Ao19, co19, eo19⟩ := Kd.R_slice HO_5.out
     subst eo19
     go_wp2
     go_ret
     exact ⟨_, by first | rfl | (simp [errW_none, errW_some] <;> rfl) | (simp [*, errW_none, errW_some] <;> rfl), by (with_reducible repeat (first | apply Kd.R_alloc | apply Kd.R_drewN | apply Kd.R_drew)); exact HO_5.out, lB⟩

end Go.Proofs.Ythaklbjcjoolcaa.P
namespace Go.Proofs.Ythaklbjcjoolcaa.P
open Go.RowKit YthaklbjcjoolcaaW.PrintWords YthaklbjcjoolcaaW.PrintLast YthaklbjcjoolcaaW.PrintMore
theorem mod41 (a : Int) : ∃ m : Nat, m < 41 ∧ L1_mod.f a 41 = some (m : Int) := by
 have e1 : IntKind.u64.wrap (41 : Int) = 41 := by decide
 have h1 : 0 ≤ IntKind.u64.wrap a := by
  unfold IntKind.wrap
  simp only [IntKind.bits, IntKind.signed]
  exact Int.emod_nonneg _ (by decide)
 unfold L1_mod.f
 rw [e1, if_neg (by omega)]
 generalize IntKind.u64.wrap a = x at *
 rw [Int.tmod_eq_emod_of_nonneg h1]
 have h2 := Int.emod_nonneg x (show (41 : Int) ≠ 0 by decide)
 have h3 := Int.emod_lt_of_pos x (show (0 : Int) < 41 by decide)
 exact ⟨(x % 41).toNat, by omega, by rw [w64i (by omega) (by omega)]; congr 1; omega⟩
theorem grid_is (p : S31) : ∃ q : S31, L1_grid.f p.f0 p.f1 = some (q.f0, q.f1) ∧ okPt q = true ∧ (okPt p = true → q = p) := by
 unfold L1_grid.f
 rw [valid_is, Option.bind_some]
 by_cases h : okPt p = true
 ·rw [if_pos h]; exact ⟨p, rfl, h, fun _ => rfl⟩
 ·rw [if_neg h]
  obtain ⟨m, hm, e⟩ := mod41 p.f0
  obtain ⟨n, hn, e'⟩ := mod41 p.f1
  rw [e, e']
  simp only [Option.bind_some]
  rw [w64i (by omega) (by omega), w64i (by omega) (by omega)]
  exact ⟨⟨(m : Int) - 20, (n : Int) - 20⟩, rfl, (okPt_iff _).2 ⟨by simp only; omega, by simp only; omega⟩, fun h' => absurd h' h⟩
theorem allOk_snoc {l : List S31} {p : S31} (h : allOk l = true) (hp : okPt p = true) : allOk (l ++ [p]) = true := by
 unfold allOk at *
 rw [List.all_append, h, List.all_cons, hp]; rfl
theorem gset_from (l : List S31) (m : Nat) (hm : m ≤ 512) (hm1 : 1 ≤ m) : ∀ (n i : Nat) (out : List S31), l.length - i = n → i ≤ l.length → out.length = i → i ≤ m → allOk out = true →
  ∃ t : List S31, Ev (fun k => L1_set.l0 k l (m : Int) out (i : Int)) t ∧ 1 ≤ t.length ∧ t.length ≤ m ∧ allOk t = true := by
 have fin : ∀ (i : Nat) (out : List S31), out.length = i → i ≤ m → allOk out = true → ∃ t : List S31, Ev (fun _ => if (out.length : Int) = 0 then (if out.length < 8796093022208 then (some (out ++ [(⟨0, 0⟩ : S31)])) else (none)) else (some out)) t ∧ 1 ≤ t.length ∧ t.length ≤ m ∧ allOk t = true := by
  intro i out h1 h2 h3
  by_cases h0 : out.length = 0
  ·refine ⟨_, ev_pos (by omega) (ev_pos (by omega) (Ev.now _)), by simp, by simp only [List.length_append, List.length_singleton]; omega, allOk_snoc h3 (by decide)⟩
  ·exact ⟨out, ev_neg (by omega) (Ev.now _), by omega, by omega, h3⟩
 intro n
 induction n with
 | zero =>
  intro i out hn hi ho him hok
  obtain ⟨t, ht, h1, h2, h3⟩ := fin i out ho him hok
  refine ⟨t, Ev.step (fun k => ?_) ht, h1, h2, h3⟩
  unfold L1_set.l0
  rw [if_neg (by omega)]
 | succ n ih =>
  intro i out hn hi ho him hok
  have hlt : i < l.length := by omega
  by_cases h1 : i < m
  ·obtain ⟨q, hq, hqo, _⟩ := grid_is l[i]
   obtain ⟨t, ht, h2, h3, h4⟩ := ih (i + 1) (out ++ [q]) (by omega) (by omega) (by rw [List.length_append, List.length_singleton, ho]) (by omega) (allOk_snoc hok hqo)
   refine ⟨t, Ev.step (fun k => ?_) ht, h2, h3, h4⟩
   conv => lhs; unfold L1_set.l0
   rw [if_pos (by omega), if_pos (by omega), if_pos (by omega), rd_at l i hlt, hq, Option.bind_some, if_pos (by omega), w64i (x := (i : Int) + 1) (by omega) (by omega)]
   rfl
  ·obtain ⟨t, ht, h2, h3, h4⟩ := fin i out ho him hok
   refine ⟨t, Ev.step (fun k => ?_) ht, h2, h3, h4⟩
   conv => lhs; unfold L1_set.l0
   rw [if_pos (by omega), if_neg (by omega)]
theorem gset_ev (l : List S31) (m : Nat) (hm : m ≤ 512) (hm1 : 1 ≤ m) : ∃ t : List S31, Ev (fun k => L1_set.f k l (m : Int)) t ∧ 1 ≤ t.length ∧ t.length ≤ m ∧ allOk t = true :=
 gset_from l m hm hm1 (l.length - 0) 0 [] rfl (by omega) rfl (by omega) rfl
end Go.Proofs.Ythaklbjcjoolcaa.P
namespace Go.Proofs.Ythaklbjcjoolcaa.Geo

abbrev Pt := Int × Int

def T (a b c : Pt) : Int := (b.1 - a.1) * (c.2 - a.2) - (b.2 - a.2) * (c.1 - a.1)
def aff (i j k : Int) (p : Pt) : Int := i * p.1 + j * p.2 + k

theorem T_cyc (a b c : Pt) : T b c a = T a b c := by unfold T; grind
theorem T_cyc2 (a b c : Pt) : T c a b = T a b c := by unfold T; grind
theorem T_swap (a b c : Pt) : T b a c = - T a b c := by unfold T; grind
theorem T_swap2 (a b c : Pt) : T a c b = - T a b c := by unfold T; grind
theorem T_swap3 (a b c : Pt) : T c b a = - T a b c := by unfold T; grind
theorem T_aba (a b : Pt) : T a b a = 0 := by unfold T; grind
theorem T_abb (a b : Pt) : T a b b = 0 := by unfold T; grind
theorem id4 (i j k : Int) (a b c d : Pt) : T b c d * aff i j k a - T a c d * aff i j k b + T a b d * aff i j k c - T a b c * aff i j k d = 0 := by unfold T aff; grind
theorem sum4 (a b c d : Pt) : T b c d - T a c d + T a b d - T a b c = 0 := by unfold T; grind
theorem id_col (i j k i' j' k' : Int) (a b p : Pt) : (aff i j k p - aff i j k a) * (aff i' j' k' b - aff i' j' k' a) - (aff i' j' k' p - aff i' j' k' a) * (aff i j k b - aff i j k a) = T a b p * (j * i' - i * j') := by unfold T aff; grind
theorem bary (x y a b c q : Pt) : T a b c * T x y q = T b c q * T x y a + T c a q * T x y b + T a b q * T x y c := by unfold T; grind

theorem mpp {x y : Int} (h : 0 < x) (k : 0 < y) : 0 < x * y := Int.mul_pos h k
theorem mpn {x y : Int} (h : 0 < x) (k : y < 0) : x * y < 0 := by
 have := Int.mul_pos h (Int.neg_pos_of_neg k); rw [Int.mul_neg] at this; omega
theorem mnp {x y : Int} (h : x < 0) (k : 0 < y) : x * y < 0 := by rw [Int.mul_comm]; exact mpn k h
theorem mnn {x y : Int} (h : x < 0) (k : y < 0) : 0 < x * y := by
 have := Int.mul_pos (Int.neg_pos_of_neg h) (Int.neg_pos_of_neg k); rw [Int.neg_mul_neg] at this; exact this
theorem mzz {x y : Int} (h : 0 ≤ x) (k : 0 ≤ y) : 0 ≤ x * y := Int.mul_nonneg h k
theorem mzn {x y : Int} (h : 0 ≤ x) (k : y ≤ 0) : x * y ≤ 0 := by
 have := Int.mul_nonneg h (Int.neg_nonneg_of_nonpos k); rw [Int.mul_neg] at this; omega
theorem mnz {x y : Int} (h : x ≤ 0) (k : 0 ≤ y) : x * y ≤ 0 := by rw [Int.mul_comm]; exact mzn k h
theorem mnnz {x y : Int} (h : x ≤ 0) (k : y ≤ 0) : 0 ≤ x * y := by
 have := Int.mul_nonneg (Int.neg_nonneg_of_nonpos h) (Int.neg_nonneg_of_nonpos k); rw [Int.neg_mul_neg] at this; exact this
theorem ps {x c : Int} (hc : 0 < c) (h : 0 < x * c) : 0 < x := by
 by_cases k : 0 < x
 ·exact k
 ·have := mnz (show x ≤ 0 by omega) (show 0 ≤ c by omega); omega
theorem ng {x c : Int} (hc : 0 < c) (h : x * c < 0) : x < 0 := by
 by_cases k : x < 0
 ·exact k
 ·have := mzz (show 0 ≤ x by omega) (show 0 ≤ c by omega); omega
theorem ps' {x c : Int} (hc : c < 0) (h : 0 < x * c) : x < 0 := by
 by_cases k : x < 0
 ·exact k
 ·have := mzn (show 0 ≤ x by omega) (show c ≤ 0 by omega); omega
theorem ng' {x c : Int} (hc : c < 0) (h : x * c < 0) : 0 < x := by
 by_cases k : 0 < x
 ·exact k
 ·have := mnnz (show x ≤ 0 by omega) (show c ≤ 0 by omega); omega

def Bt (u v x : Int) : Prop := u ≤ v ∧ v ≤ x ∨ x ≤ v ∧ v ≤ u
def On (a b p : Pt) : Prop := T a b p = 0 ∧ Bt a.1 p.1 b.1 ∧ Bt a.2 p.2 b.2
def opp (x y : Int) : Prop := x < 0 ∧ 0 < y ∨ 0 < x ∧ y < 0
def Dis (a b c d : Pt) : Prop := ¬ On a b c ∧ ¬ On a b d ∧ ¬ On c d a ∧ ¬ On c d b ∧ ¬ (opp (T a b c) (T a b d) ∧ opp (T c d a) (T c d b))

theorem bt_core {F r G s : Int} (hF : 0 < F) (h0 : 0 ≤ r) (h1 : r ≤ F) (e : s * F = r * G) : 0 ≤ s ∧ s ≤ G ∨ G ≤ s ∧ s ≤ 0 := by
 by_cases hG : 0 ≤ G
 ·refine .inl ⟨?_, ?_⟩
  ·have := mzz h0 hG
   by_cases k : 0 ≤ s
   ·exact k
   ·have := mnp (show s < 0 by omega) hF; omega
  ·have h2 := mzz (show 0 ≤ F - r by omega) hG
   by_cases k : s ≤ G
   ·exact k
   ·have h3 := mpp (show 0 < s - G by omega) hF
    rw [Int.sub_mul] at h2 h3
    have := Int.mul_comm F G; omega
 ·refine .inr ⟨?_, ?_⟩
  ·have h2 := mzn (show 0 ≤ F - r by omega) (show G ≤ 0 by omega)
   by_cases k : G ≤ s
   ·exact k
   ·have h3 := mnp (show s - G < 0 by omega) hF
    rw [Int.sub_mul] at h2 h3
    have := Int.mul_comm F G; omega
  ·have := mzn h0 (show G ≤ 0 by omega)
   by_cases k : s ≤ 0
   ·exact k
   ·have := mpp (show 0 < s by omega) hF; omega

theorem aff_x (p : Pt) : aff 1 0 0 p = p.1 := by unfold aff; omega
theorem aff_y (p : Pt) : aff 0 1 0 p = p.2 := by unfold aff; omega

theorem on_of {a b p : Pt} (i j k : Int) (h : T a b p = 0) (h1 : aff i j k a < aff i j k b) (h2 : aff i j k a ≤ aff i j k p) (h3 : aff i j k p ≤ aff i j k b) : On a b p := by
 have g : ∀ i' j' k', Bt (aff i' j' k' a) (aff i' j' k' p) (aff i' j' k' b) := by
  intro i' j' k'
  have e := id_col i j k i' j' k' a b p
  rw [h, Int.zero_mul] at e
  have := bt_core (F := aff i j k b - aff i j k a) (r := aff i j k p - aff i j k a) (G := aff i' j' k' b - aff i' j' k' a) (s := aff i' j' k' p - aff i' j' k' a) (by omega) (by omega) (by omega) (by omega)
  unfold Bt; omega
 have gx := g 1 0 0; have gy := g 0 1 0
 rw [aff_x, aff_x, aff_x] at gx; rw [aff_y, aff_y, aff_y] at gy
 exact ⟨h, gx, gy⟩
theorem bt_swap {u v x : Int} (h : Bt u v x) : Bt x v u := by unfold Bt at *; omega
theorem On.swap {a b p : Pt} (h : On a b p) : On b a p := ⟨by rw [T_swap, h.1]; rfl, bt_swap h.2.1, bt_swap h.2.2⟩
theorem on_of' {a b p : Pt} (i j k : Int) (h : T a b p = 0) (h1 : aff i j k b < aff i j k a) (h2 : aff i j k b ≤ aff i j k p) (h3 : aff i j k p ≤ aff i j k a) : On a b p :=
 (on_of (a := b) (b := a) i j k (by rw [T_swap, h]; rfl) h1 h2 h3).swap
theorem On.bt {a b p : Pt} (h : On a b p) (i j k : Int) : Bt (aff i j k a) (aff i j k p) (aff i j k b) := by
 obtain ⟨h0, hx, hy⟩ := h
 by_cases e : a = b
 ·subst e
  have : p = a := by
   unfold Bt at hx hy
   apply Prod.ext <;> omega
  subst this; unfold Bt; omega
 ·have key : ∀ i' j' k', aff i' j' k' a ≠ aff i' j' k' b → Bt (aff i' j' k' a) (aff i' j' k' p) (aff i' j' k' b) → Bt (aff i j k a) (aff i j k p) (aff i j k b) := by
   intro i' j' k' hne hb
   have e := id_col i' j' k' i j k a b p
   rw [h0, Int.zero_mul] at e
   unfold Bt at hb ⊢
   rcases Int.lt_or_gt_of_ne hne with h1 | h1
   ·have := bt_core (F := aff i' j' k' b - aff i' j' k' a) (r := aff i' j' k' p - aff i' j' k' a) (G := aff i j k b - aff i j k a) (s := aff i j k p - aff i j k a) (by omega) (by omega) (by omega) (by omega)
    omega
   ·have e2 : (aff i j k p - aff i j k a) * (aff i' j' k' a - aff i' j' k' b) = (aff i' j' k' a - aff i' j' k' p) * (aff i j k b - aff i j k a) := by grind
    have := bt_core (F := aff i' j' k' a - aff i' j' k' b) (r := aff i' j' k' a - aff i' j' k' p) (G := aff i j k b - aff i j k a) (s := aff i j k p - aff i j k a) (by omega) (by omega) (by omega) e2
    omega
  by_cases ex : a.1 = b.1
  ·have ey : a.2 ≠ b.2 := fun h => e (Prod.ext ex h)
   exact key 0 1 0 (by rw [aff_y, aff_y]; exact ey) (by rw [aff_y, aff_y, aff_y]; exact hy)
  ·exact key 1 0 0 (by rw [aff_x, aff_x]; exact ex) (by rw [aff_x, aff_x, aff_x]; exact hx)
theorem on_left (a b : Pt) : On a b a := ⟨T_aba a b, by unfold Bt; omega, by unfold Bt; omega⟩
theorem on_right (a b : Pt) : On a b b := ⟨T_abb a b, by unfold Bt; omega, by unfold Bt; omega⟩
theorem opp_swap {x y : Int} (h : opp x y) : opp y x := by unfold opp at *; omega
theorem opp_neg {x y : Int} (h : opp (-x) (-y)) : opp x y := by unfold opp at *; omega
theorem Dis.swap {a b c d : Pt} (h : Dis a b c d) : Dis c d a b := ⟨h.2.2.1, h.2.2.2.1, h.1, h.2.1, fun k => h.2.2.2.2 ⟨k.2, k.1⟩⟩
theorem Dis.flip {a b c d : Pt} (h : Dis a b c d) : Dis b a c d :=
 ⟨fun k => h.1 k.swap, fun k => h.2.1 k.swap, h.2.2.2.1, h.2.2.1, fun k => h.2.2.2.2 ⟨by have := k.1; rw [T_swap a b c, T_swap a b d] at this; exact opp_neg this, opp_swap k.2⟩⟩
theorem Dis.flip2 {a b c d : Pt} (h : Dis a b c d) : Dis a b d c := h.swap.flip.swap

def ht (N : Int) (p : Pt) : Int := aff (-1) N 0 p
def w (N X : Int) (a b z : Pt) : Int :=
 if ht N a ≤ ht N z ∧ ht N z < ht N b ∧ 0 < T a b z + X then 1 else if ht N b ≤ ht N z ∧ ht N z < ht N a ∧ 0 < T b a z + X then -1 else 0
theorem w_swap (N X : Int) (a b z : Pt) : w N X b a z = - w N X a b z := by
 unfold w; split <;> split <;> (try split) <;> (try split) <;> omega
def S (N : Int) (q r z : Pt) : Int := if ht N q < ht N z ∧ ht N z < ht N r ∧ T q r z < 0 then 1 else 0

section core
variable {A B Q R a b q r : Int}
theorem c2 (k1 : B * (a - q) - A * (b - q) - Q * (r - q) = 0) (k2 : B * (a - r) - A * (b - r) + R * (q - r) = 0) (h : a < q ∧ q < b ∧ b < r) (n : ¬ (opp Q R ∧ opp A B)) : ¬ (0 < Q ∧ 0 < B) := by
 rintro ⟨hQ, hB⟩
 have p1 := mpn hB (show a - q < 0 by omega)
 have p2 := mpp hQ (show 0 < r - q by omega)
 have hA : A < 0 := ng (c := b - q) (by omega) (by omega)
 have p3 := mpn hB (show a - r < 0 by omega)
 have p4 := mnn hA (show b - r < 0 by omega)
 have hR : R < 0 := ps' (c := q - r) (by omega) (by omega)
 exact n ⟨.inr ⟨hQ, hR⟩, .inl ⟨hA, hB⟩⟩
theorem c3 (k1 : B * (a - q) - A * (b - q) - Q * (r - q) = 0) (k2 : B * (a - r) - A * (b - r) + R * (q - r) = 0) (h : a < q ∧ q < r ∧ r < b) (n : ¬ (opp Q R ∧ opp A B)) : ¬ (0 < Q ∧ R < 0) := by
 rintro ⟨hQ, hR⟩
 have p1 := mpp hQ (show 0 < r - q by omega)
 have p2 := mnn hR (show q - r < 0 by omega)
 rcases Int.lt_trichotomy A 0 with hA | hA | hA
 ·have p3 := mnp hA (show 0 < b - r by omega)
  have hB : 0 < B := ng' (c := a - r) (by omega) (by omega)
  exact n ⟨.inr ⟨hQ, hR⟩, .inl ⟨hA, hB⟩⟩
 ·subst hA
  have hB : B < 0 := ps' (c := a - q) (by omega) (by omega)
  have hB2 : 0 < B := ng' (c := a - r) (by omega) (by omega)
  omega
 ·have p3 := mpp hA (show 0 < b - q by omega)
  have hB : B < 0 := ps' (c := a - q) (by omega) (by omega)
  exact n ⟨.inr ⟨hQ, hR⟩, .inr ⟨hA, hB⟩⟩
theorem c4 (k1 : B * (a - q) - A * (b - q) - Q * (r - q) = 0) (k2 : B * (a - r) - A * (b - r) + R * (q - r) = 0) (h : q < a ∧ a < r ∧ q < b ∧ b < r) (n : ¬ (opp Q R ∧ opp A B)) : ¬ (A < 0 ∧ 0 < B) := by
 rintro ⟨hA, hB⟩
 have p1 := mpp hB (show 0 < a - q by omega)
 have p2 := mnp hA (show 0 < b - q by omega)
 have hQ : 0 < Q := ps (c := r - q) (by omega) (by omega)
 have p3 := mpn hB (show a - r < 0 by omega)
 have p4 := mnn hA (show b - r < 0 by omega)
 have hR : R < 0 := ps' (c := q - r) (by omega) (by omega)
 exact n ⟨.inr ⟨hQ, hR⟩, .inl ⟨hA, hB⟩⟩
theorem c5 (k1 : B * (a - q) - A * (b - q) - Q * (r - q) = 0) (k2 : B * (a - r) - A * (b - r) + R * (q - r) = 0) (h : q < a ∧ a < r ∧ r < b) (n : ¬ (opp Q R ∧ opp A B)) : ¬ (0 < R ∧ 0 < A) := by
 rintro ⟨hR, hA⟩
 have p1 := mpn hR (show q - r < 0 by omega)
 have p2 := mpp hA (show 0 < b - r by omega)
 have hB : B < 0 := ps' (c := a - r) (by omega) (by omega)
 have p3 := mnp hB (show 0 < a - q by omega)
 have p4 := mpp hA (show 0 < b - q by omega)
 have hQ : Q < 0 := ng (c := r - q) (by omega) (by omega)
 exact n ⟨.inl ⟨hQ, hR⟩, .inr ⟨hA, hB⟩⟩
end core
theorem neg_k {A B Q x y z : Int} (k : B * x - A * y - Q * z = 0) : -B * x - -A * y - -Q * z = 0 := by simp only [Int.neg_mul]; omega
theorem neg_k2 {A B R x y z : Int} (k : B * x - A * y + R * z = 0) : -B * x - -A * y + -R * z = 0 := by simp only [Int.neg_mul]; omega
theorem neg_n {Q R A B : Int} (n : ¬ (opp Q R ∧ opp A B)) : ¬ (opp (-Q) (-R) ∧ opp (-A) (-B)) := fun k => n ⟨opp_neg k.1, opp_neg k.2⟩

theorem w_out {N X : Int} {a b z : Pt} (h : ht N a ≤ ht N b) (k : ¬ (ht N a ≤ ht N z ∧ ht N z < ht N b)) : w N X a b z = 0 := by
 unfold w; rw [if_neg (fun c => k ⟨c.1, c.2.1⟩), if_neg (by omega)]
theorem w_one {N X : Int} {a b z : Pt} (k : ht N a ≤ ht N z ∧ ht N z < ht N b) (t : 0 < T a b z + X) : w N X a b z = 1 := by
 unfold w; rw [if_pos ⟨k.1, k.2, t⟩]
theorem w_zero {N X : Int} {a b z : Pt} (h : ht N a ≤ ht N b) (t : ¬ 0 < T a b z + X) : w N X a b z = 0 := by
 unfold w; rw [if_neg (fun c => t c.2.2), if_neg (by omega)]
theorem S_out {N : Int} {q r z : Pt} (h : ¬ (ht N q < ht N z ∧ ht N z < ht N r)) : S N q r z = 0 := if_neg (fun c => h ⟨c.1, c.2.1⟩)
theorem S_one {N : Int} {q r z : Pt} (h : ht N q < ht N z ∧ ht N z < ht N r) (t : T q r z < 0) : S N q r z = 1 := if_pos ⟨h.1, h.2, t⟩
theorem S_zero {N : Int} {q r z : Pt} (t : ¬ T q r z < 0) : S N q r z = 0 := if_neg (fun c => t c.2.2)
theorem strip_up {N X : Int} (hX : X = 0 ∨ X = 1) {a b q r : Pt} (D : Dis a b q r) (hqr : ht N q < ht N r) (hab : ht N a ≤ ht N b)
  (h1 : ht N a ≠ ht N q) (h2 : ht N a ≠ ht N r) (h3 : ht N b ≠ ht N q) (h4 : ht N b ≠ ht N r) :
  w N X a b q - w N X a b r = S N q r b - S N q r a := by
 have k1 : T q r b * (ht N a - ht N q) - T q r a * (ht N b - ht N q) - T a b q * (ht N r - ht N q) = 0 := by
  unfold ht aff T; grind
 have k2 : T q r b * (ht N a - ht N r) - T q r a * (ht N b - ht N r) + T a b r * (ht N q - ht N r) = 0 := by
  unfold ht aff T; grind
 have n := D.2.2.2.2
 have nn := neg_n n
 have oQ : T a b q = 0 → ¬ (ht N a < ht N q ∧ ht N q < ht N b) := fun e k => D.1 (on_of (-1) N 0 e (by unfold ht at *; omega) (Int.le_of_lt k.1) (Int.le_of_lt k.2))
 have oR : T a b r = 0 → ¬ (ht N a < ht N r ∧ ht N r < ht N b) := fun e k => D.2.1 (on_of (-1) N 0 e (by unfold ht at *; omega) (Int.le_of_lt k.1) (Int.le_of_lt k.2))
 have oA : T q r a = 0 → ¬ (ht N q < ht N a ∧ ht N a < ht N r) := fun e k => D.2.2.1 (on_of (-1) N 0 e hqr (Int.le_of_lt k.1) (Int.le_of_lt k.2))
 have oB : T q r b = 0 → ¬ (ht N q < ht N b ∧ ht N b < ht N r) := fun e k => D.2.2.2.1 (on_of (-1) N 0 e hqr (Int.le_of_lt k.1) (Int.le_of_lt k.2))
 clear D
 by_cases x1 : ht N b < ht N q ∨ ht N r < ht N a
 ·rw [w_out hab (by omega), w_out hab (by omega), S_out (by omega), S_out (by omega)]
 by_cases x2 : ht N a < ht N q
 ·by_cases x3 : ht N b < ht N r
  ·have o : ht N a < ht N q ∧ ht N q < ht N b ∧ ht N b < ht N r := ⟨x2, by omega, x3⟩
   have t1 := c2 k1 k2 o n
   have t2 := c2 (neg_k k1) (neg_k2 k2) o nn
   have hQ : T a b q ≠ 0 := fun e => oQ e ⟨o.1, o.2.1⟩
   have hB : T q r b ≠ 0 := fun e => oB e ⟨o.2.1, o.2.2⟩
   clear k1 k2 oQ oR oA oB n nn
   rw [w_out (z := r) hab (by omega), S_out (z := a) (by omega)]
   rcases Int.lt_or_gt_of_ne hQ with s | s
   ·rw [w_zero hab (by omega), S_zero (by omega)]
   ·rw [w_one ⟨by omega, by omega⟩ (by omega), S_one ⟨by omega, by omega⟩ (by omega)]
  ·have o : ht N a < ht N q ∧ ht N q < ht N r ∧ ht N r < ht N b := ⟨x2, hqr, by omega⟩
   have t1 := c3 k1 k2 o n
   have t2 := c3 (neg_k k1) (neg_k2 k2) o nn
   have hQ : T a b q ≠ 0 := fun e => oQ e ⟨by omega, by omega⟩
   have hR : T a b r ≠ 0 := fun e => oR e ⟨by omega, by omega⟩
   clear k1 k2 oQ oR oA oB n nn
   rw [S_out (z := a) (by omega), S_out (z := b) (by omega)]
   rcases Int.lt_or_gt_of_ne hQ with s | s
   ·rw [w_zero (z := q) hab (by omega), w_zero (z := r) hab (by omega)]
   ·rw [w_one (z := q) ⟨by omega, by omega⟩ (by omega), w_one (z := r) ⟨by omega, by omega⟩ (by omega)]; rfl
 ·by_cases x3 : ht N b < ht N r
  ·have o : ht N q < ht N a ∧ ht N a < ht N r ∧ ht N q < ht N b ∧ ht N b < ht N r := ⟨by omega, by omega, by omega, by omega⟩
   have t1 := c4 k1 k2 o n
   have t2 := c4 (neg_k k1) (neg_k2 k2) o nn
   have hA : T q r a ≠ 0 := fun e => oA e ⟨by omega, by omega⟩
   have hB : T q r b ≠ 0 := fun e => oB e ⟨by omega, by omega⟩
   clear k1 k2 oQ oR oA oB n nn
   rw [w_out (z := q) hab (by omega), w_out (z := r) hab (by omega)]
   rcases Int.lt_or_gt_of_ne hA with s | s
   ·rw [S_one (z := a) ⟨by omega, by omega⟩ (by omega), S_one (z := b) ⟨by omega, by omega⟩ (by omega)]; rfl
   ·rw [S_zero (z := a) (by omega), S_zero (z := b) (by omega)]
  ·have o : ht N q < ht N a ∧ ht N a < ht N r ∧ ht N r < ht N b := ⟨by omega, by omega, by omega⟩
   have t1 := c5 k1 k2 o n
   have t2 := c5 (neg_k k1) (neg_k2 k2) o nn
   have hR : T a b r ≠ 0 := fun e => oR e ⟨by omega, by omega⟩
   have hA : T q r a ≠ 0 := fun e => oA e ⟨by omega, by omega⟩
   clear k1 k2 oQ oR oA oB n nn
   rw [w_out (z := q) hab (by omega), S_out (z := b) (by omega)]
   rcases Int.lt_or_gt_of_ne hR with s | s
   ·rw [w_zero (z := r) hab (by omega), S_zero (z := a) (by omega)]
   ·rw [w_one (z := r) ⟨by omega, by omega⟩ (by omega), S_one (z := a) ⟨by omega, by omega⟩ (by omega)]

theorem strip {N X : Int} (hX : X = 0 ∨ X = 1) {a b q r : Pt} (D : Dis a b q r) (hqr : ht N q < ht N r)
  (h1 : ht N a ≠ ht N q) (h2 : ht N a ≠ ht N r) (h3 : ht N b ≠ ht N q) (h4 : ht N b ≠ ht N r) :
  w N X a b q - w N X a b r = S N q r b - S N q r a := by
 rcases Int.le_total (ht N a) (ht N b) with h | h
 ·exact strip_up hX D hqr h h1 h2 h3 h4
 ·have := strip_up hX D.flip hqr h h3 h4 h1 h2
  rw [w_swap N X a b q, w_swap N X a b r] at this; omega

def ed : List Pt → List (Pt × Pt)
 | a :: b :: r => (a, b) :: ed (b :: r)
 | _ => []
def pw (N X : Int) : List Pt → Pt → Int
 | a :: b :: r, z => w N X a b z + pw N X (b :: r) z
 | _, _ => 0
theorem pw_two (N X : Int) (a b : Pt) (r : List Pt) (z : Pt) : pw N X (a :: b :: r) z = w N X a b z + pw N X (b :: r) z := rfl
theorem pw_split (N X : Int) (p : Pt) (B : List Pt) (z : Pt) : ∀ A, pw N X (A ++ p :: B) z = pw N X (A ++ [p]) z + pw N X (p :: B) z
 | [] => by simp [pw]
 | [a] => by simp [pw]
 | a :: b :: r => by
  have := pw_split N X p B z (b :: r)
  simp only [List.cons_append] at this ⊢
  rw [pw_two, pw_two, this]; omega
theorem ed_split (p : Pt) (B : List Pt) : ∀ A, ed (A ++ p :: B) = ed (A ++ [p]) ++ ed (p :: B)
 | [] => by simp [ed]
 | [a] => by simp [ed]
 | a :: b :: r => by
  have := ed_split p B (b :: r)
  simp only [List.cons_append] at this ⊢
  rw [ed, ed, this]; rfl
theorem path_strip {N X : Int} (hX : X = 0 ∨ X = 1) {q r : Pt} (hqr : ht N q < ht N r) : ∀ (l : List Pt) (a : Pt),
  (∀ e ∈ ed (a :: l), Dis e.1 e.2 q r) → (∀ x ∈ a :: l, ht N x ≠ ht N q ∧ ht N x ≠ ht N r) →
  pw N X (a :: l) q - pw N X (a :: l) r = S N q r ((a :: l).getLast (List.cons_ne_nil _ _)) - S N q r a
 | [], a, _, _ => by simp [pw]
 | b :: l, a, h, k => by
  have ih := path_strip hX hqr l b (fun e he => h e (by rw [ed]; exact List.mem_cons_of_mem _ he)) (fun x hx => k x (List.mem_cons_of_mem _ hx))
  have s := strip hX (h (a, b) (by rw [ed]; exact List.mem_cons_self)) hqr (k a (by simp)).1 (k a (by simp)).2 (k b (by simp)).1 (k b (by simp)).2
  rw [pw_two, pw_two, List.getLast_cons (List.cons_ne_nil _ _)]
  simp only at s; omega

theorem sT_aff (s : Int) (x y q : Pt) : s * T x y q = aff (s * (x.2 - y.2)) (s * (y.1 - x.1)) (s * (x.1 * y.2 - y.1 * x.2)) q := by unfold T aff; grind
theorem on_T {s : Int} {u b x y q : Pt} (h : T x y q = 0) (h1 : s * T u b x < s * T u b y) (h2 : s * T u b x ≤ s * T u b q) (h3 : s * T u b q ≤ s * T u b y) : On x y q := by
 rw [sT_aff, sT_aff] at h1 h2 h3
 exact on_of _ _ _ h h1 h2 h3
theorem opp_s {s a b : Int} (hs : s = 1 ∨ s = -1) (h : opp (s * a) (s * b)) : opp a b := by
 rcases hs with rfl | rfl
 ·simpa using h
 ·simp only [Int.neg_mul, Int.one_mul] at h; exact opp_neg h
theorem id4T (s : Int) (u v a b c d : Pt) : T b c d * (s * T u v a) - T a c d * (s * T u v b) + T a b d * (s * T u v c) - T a b c * (s * T u v d) = 0 := by
 rw [sT_aff, sT_aff, sT_aff, sT_aff]; exact id4 _ _ _ a b c d
theorem baryS (s g : Int) (x y a b c q : Pt) : (s * T a b c) * (g * T x y q) = (s * T b c q) * (g * T x y a) + (s * T c a q) * (g * T x y b) + (s * T a b q) * (g * T x y c) := by
 have := bary x y a b c q
 have h : (s * T a b c) * (g * T x y q) = (s * g) * (T a b c * T x y q) := by grind
 rw [h, this]; grind

section core
variable {D ap bp dp ax bx dx ay b_y Lu Lv Lb Lp Kx Ky : Int}
theorem coreA (hLb : 0 < Lb) (hLp : Lp < 0) (hap : 0 < ap) (hbp : 0 < bp) (hdp : 0 ≤ dp) (hD : 0 < D) (hdx : dp < dx) (hx : ¬ (0 ≤ bx ∧ 0 ≤ ax))
  (e1 : D * Lp = ap * Lu + dp * Lb + bp * Lv) (e2 : 0 = ax * Lu + dx * Lb + bx * Lv) (hKx : Kx < 0) (hKy : 0 < Ky)
  (e3 : Ky * bx - Kx * b_y = Lb * bp) (e4 : Ky * ax - Kx * ay = Lb * ap) :
  (bx < 0 ∧ 0 < b_y ∧ Lu ≤ 0) ∨ (ax < 0 ∧ 0 < ay ∧ Lv ≤ 0) := by
 have q1 := mpn hD hLp
 have q2 := mzz hdp (Int.le_of_lt hLb)
 have q3 := mpp (show 0 < dx by omega) hLb
 have q4 := mpp hLb hbp
 have q5 := mpp hLb hap
 have hby : bx < 0 → 0 < b_y := by
  intro h
  have := mpn hKy h
  rw [Int.mul_comm] at e3
  exact ng' (c := Kx) hKx (by rw [Int.mul_comm b_y Kx]; have := Int.mul_comm bx Ky; omega)
 have hay : ax < 0 → 0 < ay := by
  intro h
  have := mpn hKy h
  rw [Int.mul_comm] at e4
  exact ng' (c := Kx) hKx (by rw [Int.mul_comm ay Kx]; have := Int.mul_comm ax Ky; omega)
 by_cases hb : bx < 0
 ·by_cases hu : Lu ≤ 0
  ·exact .inl ⟨hb, hby hb, hu⟩
  ·have r1 := mpp hap (show 0 < Lu by omega)
   have r2 : Lv < 0 := ng (c := bp) hbp (by rw [Int.mul_comm Lv bp]; omega)
   have r3 := mnn hb r2
   have r4 : ax < 0 := ng (c := Lu) (by omega) (by omega)
   exact .inr ⟨r4, hay r4, by omega⟩
 ·have ha : ax < 0 := by omega
  by_cases hv : Lv ≤ 0
  ·exact .inr ⟨ha, hay ha, hv⟩
  ·exfalso
   have r1 := mpp hbp (show 0 < Lv by omega)
   have r2 : Lu < 0 := ng (c := ap) hap (by rw [Int.mul_comm Lu ap]; omega)
   have r3 := mnn ha r2
   have r4 : bx < 0 := ng (c := Lv) (by omega) (by omega)
   omega
theorem coreB (hLu : 0 < Lu) (hLv : Lv < 0) (hD : 0 < D) (hdx : 0 < dx) (hx : ¬ (0 ≤ bx ∧ 0 ≤ ax))
  (e2 : 0 = ax * Lu + dx * Lb + bx * Lv) (hKx : Kx < 0) (hKy : 0 < Ky)
  (e3 : Ky * bx - Kx * b_y = Lu * D) (e4 : Ky * ax - Kx * ay = -(Lv * D)) :
  (bx < 0 ∧ 0 < b_y ∧ Lb < 0) ∨ (ax < 0 ∧ 0 < ay ∧ 0 ≤ Lb) := by
 have q4 := mpp hLu hD
 have q5 := mnp hLv hD
 have hby : bx < 0 → 0 < b_y := by
  intro h
  have := mpn hKy h
  exact ng' (c := Kx) hKx (by rw [Int.mul_comm b_y Kx]; omega)
 have hay : ax < 0 → 0 < ay := by
  intro h
  have := mpn hKy h
  exact ng' (c := Kx) hKx (by rw [Int.mul_comm ay Kx]; omega)
 by_cases hl : Lb < 0
 ·have q3 := mpn hdx hl
  have : bx < 0 := by
   by_cases ha : ax < 0
   ·have := mnp ha hLu
    exact ps' (c := Lv) hLv (by omega)
   ·omega
  exact .inl ⟨this, hby this, hl⟩
 ·have q3 := mzz (Int.le_of_lt hdx) (show 0 ≤ Lb by omega)
  have : ax < 0 := by
   by_cases hb : bx < 0
   ·have := mnn hb hLv
    exact ng (c := Lu) hLu (by omega)
   ·omega
  exact .inr ⟨this, hay this, by omega⟩
end core

def InT (s : Int) (u b v q : Pt) : Prop := 0 ≤ s * T u b q ∧ 0 ≤ s * T b v q ∧ 0 ≤ s * T v u q

theorem diag_half {s g : Int} (hs : s = 1 ∨ s = -1) (hg : g = 1 ∨ g = -1) {u b v p x y : Pt} (hD : 0 < s * T u b v) (ha : 0 < s * T b v p) (hb : 0 < s * T u b p) (hd : 0 ≤ s * T v u p)
  (hx : 0 ≤ s * T u b x → 0 ≤ s * T b v x → s * T v u x ≤ s * T v u p)
  (n1 : x ≠ u → y ≠ u → Dis x y u b) (n2 : x ≠ v → y ≠ v → Dis x y b v)
  (hdx : s * T v u p < s * T v u x) (hLb : 0 < g * T x y b) (hLp : g * T x y p < 0) (hk : opp (T b p x) (T b p y)) : False := by
 have e1 := baryS s g x y u b v p
 have e2 := baryS s g x y u b v x
 rw [T_aba] at e2
 have f3 := id4T s u b x y b p
 have f4 := id4T s b v x y b p
 rw [T_abb, T_cyc y b p |>.symm.trans (by rfl)] at f3
 rw [T_aba] at f4
 have z := sum4 x y b p
 have c1 := T_cyc b p x; have c2 := T_cyc b p y
 have c1' := T_cyc2 b p x; have c2' := T_cyc2 b p y
 have d1 : T y b p = T b p y := T_cyc2 b p y
 have d2 : T x b p = T b p x := T_cyc2 b p x
 rw [d1, d2] at z f4
 have f3' := id4T s u b x y b p
 rw [T_abb, d1, d2] at f3'
 have kk : g * T b p x < 0 ∧ 0 < g * T b p y := by
  unfold opp at hk
  rcases hg with rfl | rfl <;> omega
 have r := coreA (D := s * T u b v) (ap := s * T b v p) (bp := s * T u b p) (dp := s * T v u p) (ax := s * T b v x) (bx := s * T u b x) (dx := s * T v u x) (ay := s * T b v y) (b_y := s * T u b y)
  (Lu := g * T x y u) (Lv := g * T x y v) (Lb := g * T x y b) (Lp := g * T x y p) (Kx := g * T b p x) (Ky := g * T b p y) hLb hLp ha hb hd hD hdx (by intro k; have := hx k.1 k.2; omega) e1 (by rw [Int.mul_zero, Int.mul_zero] at e2; exact e2) kk.1 kk.2
  (by clear e1 e2 f3 f4 z; grind) (by clear e1 e2 f3 f3' z; grind)
 rcases r with ⟨k1, k2, k3⟩ | ⟨k1, k2, k3⟩
 ·have hxu : x ≠ u := by rintro rfl; rw [T_aba] at k1; omega
  have hyu : y ≠ u := by rintro rfl; rw [T_aba] at k2; omega
  have D := n1 hxu hyu
  by_cases h0 : T x y u = 0
  ·exact D.1 (on_T (s := s) (u := u) (b := b) h0 (by omega) (by rw [T_aba]; omega) (by rw [T_aba]; omega))
  ·refine D.2.2.2.2 ⟨?_, opp_s hs (.inl ⟨k1, k2⟩)⟩
   unfold opp; rcases hg with rfl | rfl <;> omega
 ·have hxu : x ≠ v := by rintro rfl; rw [T_abb] at k1; omega
  have hyu : y ≠ v := by rintro rfl; rw [T_abb] at k2; omega
  have D := n2 hxu hyu
  by_cases h0 : T x y v = 0
  ·exact D.2.1 (on_T (s := s) (u := b) (b := v) h0 (by omega) (by rw [T_abb]; omega) (by rw [T_abb]; omega))
  ·refine D.2.2.2.2 ⟨?_, opp_s hs (.inl ⟨k1, k2⟩)⟩
   unfold opp; rcases hg with rfl | rfl <;> omega
theorem tri_sum (s : Int) (u b v p : Pt) : s * T u b v = s * T b v p + s * T v u p + s * T u b p := by
 have := sum4 u b v p
 have e := T_swap v u p
 have e2 : T u b v = T b v p + T v u p + T u b p := by omega
 rw [e2, Int.mul_add, Int.mul_add]
theorem On.eq_end {a b p : Pt} {s u v : Int} {x y : Pt} (h : On a b p) (e : s * T x y p = s * T x y b) (n : s * T x y a ≠ s * T x y b) : p = b := by
 have g : ∀ i' j' k', aff i' j' k' p = aff i' j' k' b := by
  intro i' j' k'
  have c := id_col (s * (x.2 - y.2)) (s * (y.1 - x.1)) (s * (x.1 * y.2 - y.1 * x.2)) i' j' k' a b p
  rw [← sT_aff, ← sT_aff, ← sT_aff, h.1, e, Int.zero_mul] at c
  have c2 : (s * T x y b - s * T x y a) * (aff i' j' k' b - aff i' j' k' p) = 0 := by
   have : (s * T x y b - s * T x y a) * (aff i' j' k' b - aff i' j' k' p) = (s * T x y b - s * T x y a) * (aff i' j' k' b - aff i' j' k' a) - (aff i' j' k' p - aff i' j' k' a) * (s * T x y b - s * T x y a) := by grind
   rw [this]; exact c
  rcases Int.mul_eq_zero.mp c2 with h1 | h1 <;> omega
 have gx := g 1 0 0; have gy := g 0 1 0
 rw [aff_x, aff_x] at gx; rw [aff_y, aff_y] at gy
 exact Prod.ext gx gy
theorem On.btT {a b p : Pt} (h : On a b p) (s : Int) (x y : Pt) : Bt (s * T x y a) (s * T x y p) (s * T x y b) := by
 rw [sT_aff, sT_aff, sT_aff]; exact h.bt _ _ _
theorem diag {s : Int} (hs : s = 1 ∨ s = -1) {u b v p x y : Pt} (hD : 0 < s * T u b v) (ha : 0 < s * T b v p) (hb : 0 < s * T u b p) (hd : 0 ≤ s * T v u p) (hxp : x ≠ p) (hyp : y ≠ p)
  (hx : 0 ≤ s * T u b x → 0 ≤ s * T b v x → s * T v u x ≤ s * T v u p) (hy : 0 ≤ s * T u b y → 0 ≤ s * T b v y → s * T v u y ≤ s * T v u p)
  (n1 : x ≠ u → y ≠ u → Dis x y u b) (n2 : x ≠ v → y ≠ v → Dis x y b v) (o1 : ¬ On x y b) (o2 : ¬ On x y p) : Dis b p x y := by
 have ts := tri_sum s u b v p
 have db : s * T v u b = s * T u b v := by rw [T_cyc2 u b v]
 have no : ∀ q, q ≠ p → (0 ≤ s * T u b q → 0 ≤ s * T b v q → s * T v u q ≤ s * T v u p) → ¬ On b p q := by
  intro q hq hh ho
  have b1 := ho.btT s v u
  have b2 := ho.btT s u b
  have b3 := ho.btT s b v
  rw [T_abb] at b2; rw [T_aba] at b3
  unfold Bt at b1 b2 b3
  have hle := hh (by omega) (by omega)
  exact hq (ho.eq_end (s := s) (x := v) (y := u) (u := 0) (v := 0) (by omega) (by omega))
 refine ⟨no x hxp hx, no y hyp hy, o1, o2, fun k => ?_⟩
 obtain ⟨hk, hl⟩ := k
 obtain ⟨g, hg, hLb, hLp⟩ : ∃ g : Int, (g = 1 ∨ g = -1) ∧ 0 < g * T x y b ∧ g * T x y p < 0 := by
  unfold opp at hl
  rcases hl with h | h
  ·exact ⟨-1, .inr rfl, by omega, by omega⟩
  ·exact ⟨1, .inl rfl, by omega, by omega⟩
 have z := sum4 x y b p
 have d1 : T y b p = T b p y := T_cyc2 b p y
 have d2 : T x b p = T b p x := T_cyc2 b p x
 have f := id4T s v u x y b p
 rw [d1, d2] at z f
 have kk : g * T b p x < 0 ∧ 0 < g * T b p y := by
  unfold opp at hk
  rcases hg with rfl | rfl <;> omega
 by_cases h1 : s * T v u p < s * T v u x
 ·exact diag_half hs hg hD ha hb hd hx n1 n2 h1 hLb hLp hk
 by_cases h2 : s * T v u p < s * T v u y
 ·refine diag_half (g := -g) hs (by omega) hD ha hb hd hy (fun a c => (n1 c a).flip) (fun a c => (n2 c a).flip) h2 ?_ ?_ (opp_swap hk)
  ·rw [T_swap x y b, Int.neg_mul_neg]; exact hLb
  ·rw [T_swap x y p, Int.neg_mul_neg]; exact hLp
 have m1 := mzn (Int.le_of_lt kk.2) (show s * T v u x - s * T v u p ≤ 0 by omega)
 have m2 := mnnz (Int.le_of_lt kk.1) (show s * T v u y - s * T v u p ≤ 0 by omega)
 have m3 := mnp hLp (show 0 < s * T v u b - s * T v u p by omega)
 have : g * T b p y * (s * T v u x - s * T v u p) - g * T b p x * (s * T v u y - s * T v u p) + g * T x y p * (s * T v u b - s * T v u p) = 0 := by
  have e : T x y b = T b p y - T b p x + T x y p := by omega
  rw [e] at f
  clear m1 m2 m3 kk hk hl hLb hLp z
  grind
 omega

theorem cut_half {s g : Int} (hs : s = 1 ∨ s = -1) (hg : g = 1 ∨ g = -1) {u b v x y : Pt} (hD : 0 < s * T u b v) (hx : ¬ InT s u b v x)
  (n1 : x ≠ u → y ≠ u → Dis x y u b) (n2 : x ≠ v → y ≠ v → Dis x y b v)
  (hdx : 0 < s * T v u x) (hLu : 0 < g * T x y u) (hLv : g * T x y v < 0) (hk : opp (T u v x) (T u v y)) : False := by
 have e2 := baryS s g x y u b v x
 rw [T_aba, Int.mul_zero, Int.mul_zero] at e2
 have z := sum4 x y u v
 have d1 : T y u v = T u v y := T_cyc2 u v y
 have d2 : T x u v = T u v x := T_cyc2 u v x
 have f3 := id4T s u b x y u v
 have f4 := id4T s b v x y u v
 rw [d1, d2] at z f3 f4
 rw [T_aba] at f3
 rw [T_abb, T_cyc u b v] at f4
 have kk : g * T u v x < 0 ∧ 0 < g * T u v y := by
  unfold opp at hk
  rcases hg with rfl | rfl <;> omega
 have r := coreB (D := s * T u b v) (ax := s * T b v x) (bx := s * T u b x) (dx := s * T v u x) (ay := s * T b v y) (b_y := s * T u b y)
  (Lu := g * T x y u) (Lv := g * T x y v) (Lb := g * T x y b) (Kx := g * T u v x) (Ky := g * T u v y) hLu hLv hD hdx (by intro k; exact hx ⟨k.1, k.2, Int.le_of_lt hdx⟩) (by omega) kk.1 kk.2
  (by clear e2 f4 z; grind) (by clear e2 f3 z; grind)
 rcases r with ⟨k1, k2, k3⟩ | ⟨k1, k2, k3⟩
 ·have hxu : x ≠ u := by rintro rfl; rw [T_aba] at k1; omega
  have hyu : y ≠ u := by rintro rfl; rw [T_aba] at k2; omega
  have D := n1 hxu hyu
  refine D.2.2.2.2 ⟨?_, opp_s hs (.inl ⟨k1, k2⟩)⟩
  unfold opp; rcases hg with rfl | rfl <;> omega
 ·have hxu : x ≠ v := by rintro rfl; rw [T_abb] at k1; omega
  have hyu : y ≠ v := by rintro rfl; rw [T_abb] at k2; omega
  have D := n2 hxu hyu
  by_cases h0 : T x y b = 0
  ·exact D.1 (on_T (s := s) (u := b) (b := v) h0 (by omega) (by rw [T_aba]; omega) (by rw [T_aba]; omega))
  ·refine D.2.2.2.2 ⟨?_, opp_s hs (.inl ⟨k1, k2⟩)⟩
   unfold opp; rcases hg with rfl | rfl <;> omega
theorem cut {s : Int} (hs : s = 1 ∨ s = -1) {u b v x y : Pt} (hD : 0 < s * T u b v) (hx : ¬ InT s u b v x) (hy : ¬ InT s u b v y)
  (n1 : x ≠ u → y ≠ u → Dis x y u b) (n2 : x ≠ v → y ≠ v → Dis x y b v) (o1 : ¬ On x y u) (o2 : ¬ On x y v) : Dis u v x y := by
 have no : ∀ q, ¬ InT s u b v q → ¬ On u v q := by
  intro q hq ho
  have b1 := ho.btT s u b
  have b2 := ho.btT s b v
  rw [T_aba] at b1; rw [T_abb, T_cyc] at b2
  unfold Bt at b1 b2
  refine hq ⟨by omega, by omega, ?_⟩
  rw [T_swap, ho.1]; omega
 refine ⟨no x hx, no y hy, o1, o2, fun k => ?_⟩
 obtain ⟨hk, hl⟩ := k
 obtain ⟨g, hg, hLb, hLp⟩ : ∃ g : Int, (g = 1 ∨ g = -1) ∧ 0 < g * T x y u ∧ g * T x y v < 0 := by
  unfold opp at hl
  rcases hl with h | h
  ·exact ⟨-1, .inr rfl, by omega, by omega⟩
  ·exact ⟨1, .inl rfl, by omega, by omega⟩
 have e1 := T_swap u v x
 have e2 := T_swap u v y
 by_cases h1 : 0 < s * T v u x
 ·exact cut_half hs hg hD hx n1 n2 h1 hLb hLp hk
 ·refine cut_half (g := -g) hs (by omega) hD hy (fun a c => (n1 c a).flip) (fun a c => (n2 c a).flip) ?_ ?_ ?_ (opp_swap hk)
  ·unfold opp at hk; rcases hs with rfl | rfl <;> omega
  ·rw [T_swap x y u, Int.neg_mul_neg]; exact hLb
  ·rw [T_swap x y v, Int.neg_mul_neg]; exact hLp
end Go.Proofs.Ythaklbjcjoolcaa.Geo
