/- Proved here: what functions that the law reaches compute, and plain laws of that. -/
import Derived.Test.YthaklbjcjoolcaaBPlaneTiles1
import Derived.Outline
import Derived.Deep.DeepMust
import Derived.Shelf.SlSortCmp.WholeK
import Derived.Shelf.SlSortCmp.NoneTotal
import Derived.Shelf.SlicesQ.Reverse
import Derived.Shelf.SlicesE.Clone
import Derived.Ground.SlsfProg
import Derived.Ground.SlgnProg
import Derived.Test.YthaklbjcjoolcaaProg
set_option linter.unusedVariables false
set_option linter.unusedSimpArgs false
namespace Go.Proofs.Ythaklbjcjoolcaa.P
open Go.RowKit YthaklbjcjoolcaaW.PrintWords YthaklbjcjoolcaaW.PrintLast YthaklbjcjoolcaaW.PrintMore
attribute [local go_sem] max2_int min2_int max_two min_two max_three min_three max_four min_four

attribute [local go_sem high] eqA31
mutual
def plane_Simple.j0 : Nat → List (S31) → Int → Bool → Option (Bool)
 | 0, _, _, _ => none
 | k + 1, x0, x3, x16 => if x16 = true then (some false) else (plane_Simple.l0 k x0 x3 x3 0)
def plane_Simple.l0 : Nat → List (S31) → Int → Int → Int → Option (Bool)
 | 0, _, _, _, _ => none
 | k + 1, x0, x3, x17, x18 => if x18 < x17 then ((plane_edge.f x0 x18).bind fun bt133 => (if x3 = 0 then (none) else ((plane_edge.f x0 (Int.tmod (wrap64 (x18 + 1)) x3)).bind fun bt137 => (if (bt133.1 == bt133.2.2.1 && (bt133.2.1 == bt133.2.2.2)) = true then (plane_Simple.j2 k x0 x3 x18 x17 x18 true bt133.1 bt133.2.1 bt133.2.2.1 bt133.2.2.2) else ((plane_segment_has.f bt137.1 bt137.2.1 bt137.2.2.1 bt137.2.2.2 bt133.1 bt133.2.1).bind fun t143 => (if t143 = true then (plane_Simple.j2 k x0 x3 x18 x17 x18 true bt133.1 bt133.2.1 bt133.2.2.1 bt133.2.2.2) else ((plane_segment_has.f bt133.1 bt133.2.1 bt133.2.2.1 bt133.2.2.2 bt137.2.2.1 bt137.2.2.2).bind fun t144 => (plane_Simple.j2 k x0 x3 x18 x17 x18 t144 bt133.1 bt133.2.1 bt133.2.2.1 bt133.2.2.2)))))))) else (some true)
def plane_Simple.j2 : Nat → List (S31) → Int → Int → Int → Int → Bool → Int → Int → Int → Int → Option (Bool)
 | 0, _, _, _, _, _, _, _, _, _, _ => none
 | k + 1, x0, x3, x4, x17, x18, x46, x142000, x142001, x142002, x142003 => if x46 = true then (some false) else (plane_Simple.l1 k x0 x3 x4 (wrap64 (x4 + 2)) x17 x18 x142000 x142001 x142002 x142003)
def plane_Simple.l1 : Nat → List (S31) → Int → Int → Int → Int → Int → Int → Int → Int → Int → Option (Bool)
 | 0, _, _, _, _, _, _, _, _, _, _ => none
 | k + 1, x0, x3, x4, x7, x17, x18, x142000, x142001, x142002, x142003 => if x7 < x3 then (if x3 = 0 then (none) else (if (Int.tmod (wrap64 (x7 + 1)) x3) = x4 then (plane_Simple.l1 k x0 x3 x4 (wrap64 (x7 + 1)) x17 x18 x142000 x142001 x142002 x142003) else ((plane_edge.f x0 x7).bind fun bt145 => ((plane_segment_meets.f k x142000 x142001 x142002 x142003 bt145.1 bt145.2.1 bt145.2.2.1 bt145.2.2.2).bind fun t149 => (if t149 = true then (some false) else (plane_Simple.l1 k x0 x3 x4 (wrap64 (x7 + 1)) x17 x18 x142000 x142001 x142002 x142003)))))) else (plane_Simple.l0 k x0 x3 x17 (wrap64 (x18 + 1)))
end
def plane_Simple.f (k : Nat) (l0 : List (S31)) : Option (Bool) := if (l0.length : Int) < 3 then (plane_Simple.j0 k l0 (l0.length : Int) true) else ((plane_isSet.f l0).bind fun t132 => (plane_Simple.j0 k l0 (l0.length : Int) (!t132)))
theorem plane_Simple.mono_l : ∀ k, (∀ y0 y1 y2, LeO (plane_Simple.j0 k y0 y1 y2) (plane_Simple.j0 (k + 1) y0 y1 y2)) ∧ (∀ y0 y1 y2 y3, LeO (plane_Simple.l0 k y0 y1 y2 y3) (plane_Simple.l0 (k + 1) y0 y1 y2 y3)) ∧ (∀ y0 y1 y2 y3 y4 y5 y6 y7 y8 y9, LeO (plane_Simple.j2 k y0 y1 y2 y3 y4 y5 y6 y7 y8 y9) (plane_Simple.j2 (k + 1) y0 y1 y2 y3 y4 y5 y6 y7 y8 y9)) ∧ (∀ y0 y1 y2 y3 y4 y5 y6 y7 y8 y9, LeO (plane_Simple.l1 k y0 y1 y2 y3 y4 y5 y6 y7 y8 y9) (plane_Simple.l1 (k + 1) y0 y1 y2 y3 y4 y5 y6 y7 y8 y9))
 | 0 => ⟨fun _ _ _ r h => by simp [plane_Simple.j0] at h, fun _ _ _ _ r h => by simp [plane_Simple.l0] at h, fun _ _ _ _ _ _ _ _ _ _ r h => by simp [plane_Simple.j2] at h, fun _ _ _ _ _ _ _ _ _ _ r h => by simp [plane_Simple.l1] at h⟩
 | k + 1 => by
  obtain ⟨ih0, ih1, ih2, ih3⟩ := plane_Simple.mono_l k
  refine ⟨?_, ?_, ?_, ?_⟩
  ·intro y0 y1 y2
   unfold plane_Simple.j0
   repeat' first
   | (with_reducible exact ih0 _ _ _)
   | (with_reducible exact ih1 _ _ _ _)
   | (with_reducible exact ih2 _ _ _ _ _ _ _ _ _ _)
   | (with_reducible exact ih3 _ _ _ _ _ _ _ _ _ _)
   | (with_reducible exact plane_segment_meets.mono _ _ _ _ _ _ _ _ _)
   | (with_reducible first | exact LeO.refl _ | exact LeO.none _ | refine LeO.ite ?_ ?_ | refine LeO.bind ?_ (fun _ => ?_))
   | exact ih0 _ _ _
   | exact ih1 _ _ _ _
   | exact ih2 _ _ _ _ _ _ _ _ _ _
   | exact ih3 _ _ _ _ _ _ _ _ _ _
   | exact plane_segment_meets.mono _ _ _ _ _ _ _ _ _
   | exact LeO.none _ | refine LeO.ite ?_ ?_ | refine LeO.bind ?_ (fun _ => ?_)
  ·intro y0 y1 y2 y3
   unfold plane_Simple.l0
   repeat' first
   | (with_reducible exact ih0 _ _ _)
   | (with_reducible exact ih1 _ _ _ _)
   | (with_reducible exact ih2 _ _ _ _ _ _ _ _ _ _)
   | (with_reducible exact ih3 _ _ _ _ _ _ _ _ _ _)
   | (with_reducible exact plane_segment_meets.mono _ _ _ _ _ _ _ _ _)
   | (with_reducible first | exact LeO.refl _ | exact LeO.none _ | refine LeO.ite ?_ ?_ | refine LeO.bind ?_ (fun _ => ?_))
   | exact ih0 _ _ _
   | exact ih1 _ _ _ _
   | exact ih2 _ _ _ _ _ _ _ _ _ _
   | exact ih3 _ _ _ _ _ _ _ _ _ _
   | exact plane_segment_meets.mono _ _ _ _ _ _ _ _ _
   | exact LeO.none _ | refine LeO.ite ?_ ?_ | refine LeO.bind ?_ (fun _ => ?_)
  ·intro y0 y1 y2 y3 y4 y5 y6 y7 y8 y9
   unfold plane_Simple.j2
   repeat' first
   | (with_reducible exact ih0 _ _ _)
   | (with_reducible exact ih1 _ _ _ _)
   | (with_reducible exact ih2 _ _ _ _ _ _ _ _ _ _)
   | (with_reducible exact ih3 _ _ _ _ _ _ _ _ _ _)
   | (with_reducible exact plane_segment_meets.mono _ _ _ _ _ _ _ _ _)
   | (with_reducible first | exact LeO.refl _ | exact LeO.none _ | refine LeO.ite ?_ ?_ | refine LeO.bind ?_ (fun _ => ?_))
   | exact ih0 _ _ _
   | exact ih1 _ _ _ _
   | exact ih2 _ _ _ _ _ _ _ _ _ _
   | exact ih3 _ _ _ _ _ _ _ _ _ _
   | exact plane_segment_meets.mono _ _ _ _ _ _ _ _ _
   | exact LeO.none _ | refine LeO.ite ?_ ?_ | refine LeO.bind ?_ (fun _ => ?_)
  ·intro y0 y1 y2 y3 y4 y5 y6 y7 y8 y9
   unfold plane_Simple.l1
   repeat' first
   | (with_reducible exact ih0 _ _ _)
   | (with_reducible exact ih1 _ _ _ _)
   | (with_reducible exact ih2 _ _ _ _ _ _ _ _ _ _)
   | (with_reducible exact ih3 _ _ _ _ _ _ _ _ _ _)
   | (with_reducible exact plane_segment_meets.mono _ _ _ _ _ _ _ _ _)
   | (with_reducible first | exact LeO.refl _ | exact LeO.none _ | refine LeO.ite ?_ ?_ | refine LeO.bind ?_ (fun _ => ?_))
   | exact ih0 _ _ _
   | exact ih1 _ _ _ _
   | exact ih2 _ _ _ _ _ _ _ _ _ _
   | exact ih3 _ _ _ _ _ _ _ _ _ _
   | exact plane_segment_meets.mono _ _ _ _ _ _ _ _ _
   | exact LeO.none _ | refine LeO.ite ?_ ?_ | refine LeO.bind ?_ (fun _ => ?_)
theorem plane_Simple.mono : ∀ a0 k, LeO (plane_Simple.f k a0) (plane_Simple.f (k + 1) a0) := by
 intro a0 k
 obtain ⟨ih0, ih1, ih2, ih3⟩ := plane_Simple.mono_l k
 unfold plane_Simple.f
 repeat' first
   | (with_reducible exact ih0 _ _ _)
   | (with_reducible exact ih1 _ _ _ _)
   | (with_reducible exact ih2 _ _ _ _ _ _ _ _ _ _)
   | (with_reducible exact ih3 _ _ _ _ _ _ _ _ _ _)
   | (with_reducible exact plane_segment_meets.mono _ _ _ _ _ _ _ _ _)
   | (with_reducible first | exact LeO.refl _ | exact LeO.none _ | refine LeO.ite ?_ ?_ | refine LeO.bind ?_ (fun _ => ?_))
   | exact ih0 _ _ _
   | exact ih1 _ _ _ _
   | exact ih2 _ _ _ _ _ _ _ _ _ _
   | exact ih3 _ _ _ _ _ _ _ _ _ _
   | exact plane_segment_meets.mono _ _ _ _ _ _ _ _ _
   | exact LeO.none _ | refine LeO.ite ?_ ?_ | refine LeO.bind ?_ (fun _ => ?_)
def plane_Simple.T7 : Bool × List (List Nat × List Nat) := (true, [([], []), ([], []), ([0, 1], [0, 1]), ([], []), ([], []), ([4], [4]), ([], []), ([5, 6], [5, 6]), ([3, 7, 2], [3, 7]), ([], []), ([], []), ([9, 2, 8, 0, 1, 2, 9, 10], [2, 9]), ([10, 8, 11, 0, 1, 2, 3, 4, 5, 6, 7, 8, 9, 10, 11], [8, 10])])
def plane_Simple.B7 : List Nat := [0, 0, 3, 0, 0, 16, 0, 112, 255, 0, 0, 2047, 4095]
theorem plane_Simple.tab7 : rtab .any (opsOf Try.f25 7) = plane_Simple.T7 := by kernel_rfl
theorem plane_Simple.bits7 : waitsOk plane_Simple.T7.2 plane_Simple.B7 = true := by kernel_rfl
def plane_Simple.T13 : Bool × List (List Nat × List Nat) := (true, [([], []), ([0], [0]), ([], []), ([1, 2], [1, 2]), ([], []), ([3, 4], [3, 4]), ([5], [5]), ([6], [6]), ([6], [6]), ([6], [6]), ([8, 9, 6, 6], [6, 8, 9]), ([7, 10, 10, 6], [6, 7, 10]), ([6, 11], [6, 11])])
def plane_Simple.B13 : List Nat := [0, 1, 0, 7, 0, 31, 63, 127, 127, 127, 895, 2047, 4095]
theorem plane_Simple.tab13 : rtab .any (opsOf Try.f25 13) = plane_Simple.T13 := by kernel_rfl
theorem plane_Simple.bits13 : waitsOk plane_Simple.T13.2 plane_Simple.B13 = true := by kernel_rfl
set_option maxHeartbeats 8000000 in
set_option maxRecDepth 100000 in
theorem plane_Simple.calls (k : Nat) (A0 : Option Addr) (c0 : Nat) (l0 : List (S31)) (r : Bool) (w : World) (hr0 : Kd.C k31 w A0 l0.length l0) (hc0 : l0.length ≤ c0) (h : plane_Simple.f k l0 = some r) :
  Calls Try.prog 25 #[.slice A0 l0.length c0] w fun e w' => e = .returned (.bool r) ∧ Below w.heap.size w w' := by
 have hu61 := Try.underlying61
 have hu31 := Try.underlying31
 have HR0 := Aside0.mk hr0
 have HC0 := Aside0.mk hc0
 clear hr0 hc0
 have HB := Aside0.mk (Below.refl w.heap.size w)
 have H : (if (l0.length : Int) < 3 then (plane_Simple.j0 k l0 (l0.length : Int) true) else ((plane_isSet.f l0).bind fun t132 => (plane_Simple.j0 k l0 (l0.length : Int) (!t132)))) = some r := h
 clear h
 have HC2 := Aside0.mk H
 clear H
 go_enter Try.func25, Try.ntmps25
 go_upto_region 2 with (fail)
 go_cut [16] (fun v16 wc => ∃ (kq : Nat) (x16_1 : Bool), v16 = .bool x16_1 ∧ Aside0 (plane_Simple.j0 kq l0 (l0.length : Int) x16_1 = some r) ∧ Aside0 (kq ≤ k) ∧ Aside0 (Below w.heap.size w wc))
 case first =>
  have H := HC2.out
  clear HC2
  by_cases c3 : (l0.length : Int) < 3
  ·rw [if_pos c3] at H
   have c3b0 : decide ((l0.length : Int) < 3) = true := decide_eq_true c3
   have c3b1 : decide (l0.length < 3) = true := decide_eq_true (by omega)
   clear c3
   (first | rw [c3b0] | (simp only [i64_w, i32_w]; rw [c3b0]) | skip)
   have H' := Aside0.mk H
   clear H
   go_wp2
   go_meet
   case rel => exact ⟨_, (true), (by first | rfl | (simp; done) | (simp [*]; done)), H', ⟨by first | omega | exact Nat.le_refl _⟩, ⟨by repeat (first | (with_reducible first | exact HB.out | apply lA | apply lN | apply lD) | exact HB.out)⟩⟩
  rw [if_neg c3] at H
  have c3b0 : decide ((l0.length : Int) < 3) = false := decide_eq_false c3
  have c3b1 : decide (l0.length < 3) = false := decide_eq_false (by omega)
  clear c3
  (first | rw [c3b0] | (simp only [i64_w, i32_w]; rw [c3b0]) | skip)
  replace H := Option.bind_eq_some_iff.mp H
  obtain ⟨t132, A40, H⟩ := H
  replace H : (plane_Simple.j0 k l0 (l0.length : Int) (!t132)) = some r := H
  have A4 := Aside0.mk A40
  clear A40
  have H' := Aside0.mk H
  clear H
  go_wp2_with (first | (go_at_call 55; (with_reducible refine (plane_isSet.calls _ _ l0 t132 _ ?side1 ?side2 A4.out).mono ?_); (case side1 => repeat (first | exact (Kd.C_below HR0.out HB.out) | (with_reducible refine Kd.C_alloc ?_ _) | (with_reducible refine Kd.C_drewN ?_ _) | (with_reducible refine Kd.C_drew ?_))); (case side2 => exact HC0.out); rintro e w5 ⟨rfl, hb⟩; have n0_ := Aside0.mk (below_step lB hb); clear HB; have HB := n0_; clear n0_; (try clear hb); (try clear hb2); (try clear hk); (try clear hi)))
  go_meet
  case rel => exact ⟨_, (!t132), (by first | rfl | (simp; done) | (simp [*]; done)), H', ⟨by first | omega | exact Nat.le_refl _⟩, ⟨by repeat (first | (with_reducible first | exact HB.out | apply lA | apply lN | apply lD) | exact HB.out)⟩⟩
 case rest =>
  clear HC2
  try clear c2
  try clear p2
  try clear c3
  try clear c3b0
  try clear c3b1
  obtain ⟨kq, x16_1, rfl, HA, HJ1, HB⟩ := hcut
  cases kq with
  | zero => exact absurd HA.out (by simp [plane_Simple.j0])
  | succ kj1 =>
   have H := HA.out
   clear HA
   simp only [plane_Simple.j0] at H
   by_cases c6 : x16_1 = true
   ·subst c6
    have H1 : (some false) = some r := by rw [if_pos rfl] at H; exact H
    clear H
    have H := H1
    clear H1
    obtain rfl := Option.some.inj H
    go_wp2
    go_ret
    exact en
   replace c6 := Bool.eq_false_iff.mpr c6
   subst c6
   have H1 : (plane_Simple.l0 kj1 l0 (l0.length : Int) (l0.length : Int) 0) = some r := by rw [if_neg (show ¬ (false = true) by decide)] at H; exact H
   clear H
   have H := H1
   clear H1
   have H' := Aside0.mk H
   clear H
   go_wp2
   go_loopg [18] kj1 (fun kq v18 w' => ∃ (x18_2 : Int), v18 = .int .i64 x18_2 ∧ Aside0 (plane_Simple.l0 kq l0 (l0.length : Int) (l0.length : Int) x18_2 = some r) ∧ Aside0 (kq ≤ kj1) ∧ Aside0 (Below w.heap.size w w'))
   case atStart => exact ⟨(0), (by first | rfl | (simp; done) | (simp [*]; done)), H', ⟨Nat.le_refl _⟩, ⟨by repeat (first | (with_reducible first | exact HB.out | apply lA | apply lN | apply lD) | exact HB.out)⟩⟩
   case round =>
    clear H'
    try clear c2
    try clear p2
    try clear c3
    try clear c3b0
    try clear c3b1
    try clear c6
    try clear p2
    obtain ⟨x18_2, rfl, HA, HK2, HB⟩ := hrel
    cases gk with
    | zero => exact absurd HA.out (by simp [plane_Simple.l0])
    | succ k2 =>
     have H := HA.out
     clear HA
     simp only [plane_Simple.l0] at H
     by_cases c7 : x18_2 < (l0.length : Int)
     rotate_left
     ·rw [if_neg c7] at H
      have c7b0 : decide (x18_2 < (l0.length : Int)) = false := decide_eq_false c7
      clear c7
      obtain rfl := Option.some.inj H
      go_wp2
      go_ret
      exact en
     rw [if_pos c7] at H
     have c7b0 : decide (x18_2 < (l0.length : Int)) = true := decide_eq_true c7
     clear c7
     replace H := Option.bind_eq_some_iff.mp H
     obtain ⟨⟨t133, t134, t135, t136⟩, A80, H⟩ := H
     replace H : (if (l0.length : Int) = 0 then (none) else ((plane_edge.f l0 (Int.tmod (wrap64 (x18_2 + 1)) (l0.length : Int))).bind fun bt137 => (if (t133 == t135 && (t134 == t136)) = true then (plane_Simple.j2 k2 l0 (l0.length : Int) x18_2 (l0.length : Int) x18_2 true t133 t134 t135 t136) else ((plane_segment_has.f bt137.1 bt137.2.1 bt137.2.2.1 bt137.2.2.2 t133 t134).bind fun t143 => (if t143 = true then (plane_Simple.j2 k2 l0 (l0.length : Int) x18_2 (l0.length : Int) x18_2 true t133 t134 t135 t136) else ((plane_segment_has.f t133 t134 t135 t136 bt137.2.2.1 bt137.2.2.2).bind fun t144 => (plane_Simple.j2 k2 l0 (l0.length : Int) x18_2 (l0.length : Int) x18_2 t144 t133 t134 t135 t136))))))) = some r := H
     have A8 := Aside0.mk A80
     clear A80
     by_cases c9 : (l0.length : Int) = 0
     ·rw [if_pos c9] at H; exact absurd H (by simp)
     rw [if_neg c9] at H
     have c9b0 : ((l0.length : Int) == 0) = false := beq_eq_false_iff_ne.mpr c9
     have c9b1 : ((l0.length : Int) != 0) = true := bne_iff_ne.mpr c9
     have c9b2 : ¬ (l0 = []) := fun h_ => c9 (by rw [h_]; rfl)
     replace H := Option.bind_eq_some_iff.mp H
     obtain ⟨⟨t137, t138, t139, t140⟩, A100, H⟩ := H
     replace H : (if (t133 == t135 && (t134 == t136)) = true then (plane_Simple.j2 k2 l0 (l0.length : Int) x18_2 (l0.length : Int) x18_2 true t133 t134 t135 t136) else ((plane_segment_has.f t137 t138 t139 t140 t133 t134).bind fun t143 => (if t143 = true then (plane_Simple.j2 k2 l0 (l0.length : Int) x18_2 (l0.length : Int) x18_2 true t133 t134 t135 t136) else ((plane_segment_has.f t133 t134 t135 t136 t139 t140).bind fun t144 => (plane_Simple.j2 k2 l0 (l0.length : Int) x18_2 (l0.length : Int) x18_2 t144 t133 t134 t135 t136))))) = some r := H
     have A10 := Aside0.mk A100
     clear A100
     have HC11 := Aside0.mk H
     clear H
     try go_wp2
     replace HB := Aside0.mk (lD HB.out)
     refine start_ (n := 13) (S := fun w' => True) (ds := []) (Bs 0 13) (by kernel_rfl) rfl rfl trivial (fun hHeld => ?_); refine with_tabW plane_Simple.tab7 plane_Simple.bits7 (fun HT_ HW_ => ?_)
     generalize wr.drew = w12 at HB hHeld ⊢
     refine pu 0 21 (Bs 1 13) HT_ ?_
     refine pu 1 22 (Bs 2 13) HT_ ?_
     refine pu 3 24 (Br [2,1,1,9]) HT_ ?_
     refine pu 4 25 (Br [2,1,2,8]) HT_ ?_
     refine pu 5 26 (Br [2,1,3,7]) HT_ ?_
     refine pu 6 27 (Br [2,1,4,6]) HT_ ?_
     refine pu 7 28 (Br [2,1,5,5]) HT_ ?_
     refine join_ (σ := Nat × Nat) 2 (Bs 11 13) (fun s_ => [(23, .agg #[.int .i64 t133, .int .i64 t134, .int .i64 t135, .int .i64 t136]), (29, .agg #[.int .i64 t137, .int .i64 t138, .int .i64 t139, .int .i64 t140]), (5, .pointer (some ⟨s_.1, 0, none⟩)), (6, .pointer (some ⟨s_.2, 0, none⟩))]) (fun s_ w' => (w'.heap[s_.1]? = some (.cells #[.int .i64 0, .int .i64 0, .int .i64 0, .int .i64 0] 61 (0, 0))) ∧ (w'.heap[s_.2]? = some (.cells #[.int .i64 0, .int .i64 0, .int .i64 0, .int .i64 0] 61 (0, 0))) ∧ (w.heap.size ≤ s_.1) ∧ (w.heap.size ≤ s_.1) ∧ (s_.2 ≠ s_.1) ∧ (s_.1 ≠ s_.2) ∧ (w.heap.size ≤ s_.2) ∧ (w.heap.size ≤ s_.2) ∧ (Below w.heap.size w w')) ?_ ?_
     rotate_left
     ·intro hJ2_8_9_10
      refine join_ (σ := Nat) 3 (Bs 10 13) (fun s_ => [(23, .agg #[.int .i64 t133, .int .i64 t134, .int .i64 t135, .int .i64 t136]), (29, .agg #[.int .i64 t137, .int .i64 t138, .int .i64 t139, .int .i64 t140]), (5, .pointer (some ⟨s_, 0, none⟩))]) (fun s_ w' => (w'.heap[s_]? = some (.cells #[.int .i64 0, .int .i64 0, .int .i64 0, .int .i64 0] 61 (0, 0))) ∧ (w.heap.size ≤ s_) ∧ (w.heap.size ≤ s_) ∧ (Below w.heap.size w w')) ?_ ?_
      rotate_left
      ·intro hJ2_8_9
       refine join_ (σ := Nat) 3 (Br [9,1,1,2]) (fun s_ => [(23, .agg #[.int .i64 t133, .int .i64 t134, .int .i64 t135, .int .i64 t136]), (29, .agg #[.int .i64 t137, .int .i64 t138, .int .i64 t139, .int .i64 t140]), (6, .pointer (some ⟨s_, 0, none⟩))]) (fun s_ w' => (w'.heap[s_]? = some (.cells #[.int .i64 0, .int .i64 0, .int .i64 0, .int .i64 0] 61 (0, 0))) ∧ (w.heap.size ≤ s_) ∧ (w.heap.size ≤ s_) ∧ (Below w.heap.size w w')) ?_ ?_
       rotate_left
       ·intro hJ2_8_10
        refine join_ (σ := Nat × Nat) 3 (Br [8,1,2,2]) (fun s_ => [(23, .agg #[.int .i64 t133, .int .i64 t134, .int .i64 t135, .int .i64 t136]), (5, .pointer (some ⟨s_.1, 0, none⟩)), (6, .pointer (some ⟨s_.2, 0, none⟩))]) (fun s_ w' => (w'.heap[s_.1]? = some (.cells #[.int .i64 0, .int .i64 0, .int .i64 0, .int .i64 0] 61 (0, 0))) ∧ (w'.heap[s_.2]? = some (.cells #[.int .i64 0, .int .i64 0, .int .i64 0, .int .i64 0] 61 (0, 0))) ∧ (w.heap.size ≤ s_.1) ∧ (w.heap.size ≤ s_.1) ∧ (s_.2 ≠ s_.1) ∧ (s_.1 ≠ s_.2) ∧ (w.heap.size ≤ s_.2) ∧ (w.heap.size ≤ s_.2) ∧ (Below w.heap.size w w')) ?_ ?_
        rotate_left
        ·intro hJ2_9_10
         refine join_ (σ := Unit) 4 (Bs 9 13) (fun s_ => [(23, .agg #[.int .i64 t133, .int .i64 t134, .int .i64 t135, .int .i64 t136]), (29, .agg #[.int .i64 t137, .int .i64 t138, .int .i64 t139, .int .i64 t140])]) (fun s_ w' => (Below w.heap.size w w')) ?_ ?_
         rotate_left
         ·intro hJ2_8
          refine join_ (σ := Nat) 4 (Br [8,1,1,3]) (fun s_ => [(23, .agg #[.int .i64 t133, .int .i64 t134, .int .i64 t135, .int .i64 t136]), (5, .pointer (some ⟨s_, 0, none⟩))]) (fun s_ w' => (w'.heap[s_]? = some (.cells #[.int .i64 0, .int .i64 0, .int .i64 0, .int .i64 0] 61 (0, 0))) ∧ (w.heap.size ≤ s_) ∧ (w.heap.size ≤ s_) ∧ (Below w.heap.size w w')) ?_ ?_
          rotate_left
          ·intro hJ2_9
           refine join_ (σ := Nat) 4 (Br [8,2,1,2]) (fun s_ => [(23, .agg #[.int .i64 t133, .int .i64 t134, .int .i64 t135, .int .i64 t136]), (6, .pointer (some ⟨s_, 0, none⟩))]) (fun s_ w' => (w'.heap[s_]? = some (.cells #[.int .i64 0, .int .i64 0, .int .i64 0, .int .i64 0] 61 (0, 0))) ∧ (w.heap.size ≤ s_) ∧ (w.heap.size ≤ s_) ∧ (Below w.heap.size w w')) ?_ ?_
           rotate_left
           ·intro hJ2_10
            refine join_ (σ := Nat × Nat) 4 (Br [2,1,5,1,2,2]) (fun s_ => [(5, .pointer (some ⟨s_.1, 0, none⟩)), (6, .pointer (some ⟨s_.2, 0, none⟩))]) (fun s_ w' => (w'.heap[s_.1]? = some (.cells #[.int .i64 0, .int .i64 0, .int .i64 0, .int .i64 0] 61 (0, 0))) ∧ (w'.heap[s_.2]? = some (.cells #[.int .i64 0, .int .i64 0, .int .i64 0, .int .i64 0] 61 (0, 0))) ∧ (w.heap.size ≤ s_.1) ∧ (w.heap.size ≤ s_.1) ∧ (s_.2 ≠ s_.1) ∧ (s_.1 ≠ s_.2) ∧ (w.heap.size ≤ s_.2) ∧ (w.heap.size ≤ s_.2) ∧ (Below w.heap.size w w')) ?_ ?_
            rotate_left
            ·intro hJ9_10
             refine join_ (σ := Unit) 5 (Bs 8 13) (fun s_ => [(23, .agg #[.int .i64 t133, .int .i64 t134, .int .i64 t135, .int .i64 t136])]) (fun s_ w' => (Below w.heap.size w w')) ?_ ?_
             rotate_left
             ·intro hJ2
              refine join_ (σ := Nat) 5 (Br [2,1,5,1,1,3]) (fun s_ => [(5, .pointer (some ⟨s_, 0, none⟩))]) (fun s_ w' => (w'.heap[s_]? = some (.cells #[.int .i64 0, .int .i64 0, .int .i64 0, .int .i64 0] 61 (0, 0))) ∧ (w.heap.size ≤ s_) ∧ (w.heap.size ≤ s_) ∧ (Below w.heap.size w w')) ?_ ?_
              rotate_left
              ·intro hJ9
               refine join_ (σ := Nat) 5 (Br [2,1,5,2,1,2]) (fun s_ => [(6, .pointer (some ⟨s_, 0, none⟩))]) (fun s_ w' => (w'.heap[s_]? = some (.cells #[.int .i64 0, .int .i64 0, .int .i64 0, .int .i64 0] 61 (0, 0))) ∧ (w.heap.size ≤ s_) ∧ (w.heap.size ≤ s_) ∧ (Below w.heap.size w w')) ?_ ?_
               rotate_left
               ·intro hJ10
                refine three_ (i := 2) (j := 9) (k := 10) (Ni := some 23) (Nj := some 5) (Nk := some 6) (Bs 8 13) (Br [2,1,5,1,1,3]) (Br [2,1,5,2,1,2]) rfl rfl rfl rfl rfl rfl (three_of HT_.out (by kernel_rfl)) (by decide) (by decide) (by decide) (fun K hK => ?_) (fun K hK => ?_) (fun K hK => ?_)
                ·skip
                 refine goes_ Try.func56 (by kernel_rfl) rfl #[.slice A0 l0.length c0, .int .i64 x18_2] (by rfl) rfl rfl (by (try simp only [List.map_toArray, List.map_cons, List.map_nil]); first | done | rfl | (simp only [List.length_drop, List.length_take]; rfl)) ?_
                 with_reducible refine (plane_edge.calls _ _ l0 x18_2 t133 t134 t135 t136 _ ?side1 ?side2 A8.out).mono ?_
                 (case side1 => repeat (first | exact (Kd.C_below HR0.out HB.out) | (with_reducible refine Kd.C_alloc ?_ _) | (with_reducible refine Kd.C_drewN ?_ _) | (with_reducible refine Kd.C_drew ?_)))
                 (case side2 => exact HC0.out)
                 rintro e w13 ⟨rfl, hb⟩
                 refine ⟨_, rfl, ?_⟩
                 have n0_ := Aside0.mk (below_step lB hb)
                 clear HB
                 have HB := n0_
                 clear n0_
                 (try clear hb)
                 (try clear hb2)
                 (try clear hk)
                 (try clear hi)
                 refine hK.out _ _ trivial (fun hHeld => ?_)
                 clear hK K
                 refine nm 23 ?_
                 exact norm_ (by first | (simp only [putAll, Act.put, sA, sB, sC]; done) | (simp only [putAll, Act.put, sA, sB, sC]; rfl)) (hJ2 () _ lB)
                ·skip
                 refine box_step ?hg (N := 5) ?hd (cs := #[.int .i64 0, .int .i64 0, .int .i64 0, .int .i64 0]) (t := 61) ?hr ?_; (case hd => rfl); (case hg => rfl); (case hr => first | (go_simp; done) | (go_simp; rfl))
                 intro gb141 hg w13 hbox hb
                 have n0_ := Aside0.mk (below_step lB hb)
                 have n1_ := Aside0.mk (hbox)
                 have n2_ := Aside0.mk (lG (w := w) hg)
                 have n3_ := Aside0.mk (lG (w := w) hg)
                 clear HB
                 have HB := n0_
                 have BK141 := n1_
                 have GW141 := n2_
                 have GE141 := n3_
                 clear n0_ n1_ n2_ n3_
                 clear hb hbox hg
                 refine hK.out _ _ trivial (fun hHeld => ?_)
                 clear hK K
                 refine nm 5 ?_
                 exact norm_ (by first | (simp only [putAll, Act.put, sA, sB, sC]; done) | (simp only [putAll, Act.put, sA, sB, sC]; rfl)) (hJ9 (gb141) _ ⟨(kX BK141.out), GW141.out, GE141.out, lB⟩)
                ·skip
                 refine box_step ?hg (N := 6) ?hd (cs := #[.int .i64 0, .int .i64 0, .int .i64 0, .int .i64 0]) (t := 61) ?hr ?_; (case hd => rfl); (case hg => rfl); (case hr => first | (go_simp; done) | (go_simp; rfl))
                 intro gb142 hg w13 hbox hb
                 have n0_ := Aside0.mk (below_step lB hb)
                 have n1_ := Aside0.mk (hbox)
                 have n2_ := Aside0.mk (lG (w := w) hg)
                 have n3_ := Aside0.mk (lG (w := w) hg)
                 clear HB
                 have HB := n0_
                 have BK142 := n1_
                 have GW142 := n2_
                 have GE142 := n3_
                 clear n0_ n1_ n2_ n3_
                 clear hb hbox hg
                 refine hK.out _ _ trivial (fun hHeld => ?_)
                 clear hK K
                 refine nm 6 ?_
                 exact norm_ (by first | (simp only [putAll, Act.put, sA, sB, sC]; done) | (simp only [putAll, Act.put, sA, sB, sC]; rfl)) (hJ10 (gb142) _ ⟨(kX BK142.out), GW142.out, GE142.out, lB⟩)
               ·skip
                rintro gb142 w14 ⟨h0_, h1_, h2_, h3_⟩
                have n0_ : Aside0 (w14.heap[gb142]? = some (.cells #[.int .i64 0, .int .i64 0, .int .i64 0, .int .i64 0] 61 (0, 0))) := ⟨h0_⟩
                have n1_ : Aside0 (w.heap.size ≤ gb142) := ⟨h1_⟩
                have n2_ : Aside0 (w.heap.size ≤ gb142) := ⟨h2_⟩
                have n3_ : Aside0 (Below w.heap.size w w14) := ⟨h3_⟩
                clear HB
                clear h0_ h1_ h2_ h3_
                have BK142 := n0_
                have GW142 := n1_
                have GE142 := n2_
                have HB := n3_
                clear n0_ n1_ n2_ n3_
                have hHeld := trivial
                refine norm_ (a' := ?_) ?_ ?_
                rotate_left
                ·simp only [putAll, Act.put, sA, sB, sC]
                 rfl
                refine two_ (i := 2) (j := 9) (Ni := some 23) (Nj := some 5) (Br [8,2,1,2]) (Br [2,1,5,1,2,2]) rfl rfl rfl rfl (two_of HT_.out (by kernel_rfl)) (by decide) (by decide) (fun K hK => ?_) (fun K hK => ?_)
                ·skip
                 refine goes_ Try.func56 (by kernel_rfl) rfl #[.slice A0 l0.length c0, .int .i64 x18_2] (by rfl) rfl rfl (by (try simp only [List.map_toArray, List.map_cons, List.map_nil]); first | done | rfl | (simp only [List.length_drop, List.length_take]; rfl)) ?_
                 with_reducible refine (plane_edge.calls _ _ l0 x18_2 t133 t134 t135 t136 _ ?side1 ?side2 A8.out).mono ?_
                 (case side1 => repeat (first | exact (Kd.C_below HR0.out HB.out) | (with_reducible refine Kd.C_alloc ?_ _) | (with_reducible refine Kd.C_drewN ?_ _) | (with_reducible refine Kd.C_drew ?_)))
                 (case side2 => exact HC0.out)
                 rintro e w15 ⟨rfl, hb⟩
                 refine ⟨_, rfl, ?_⟩
                 have n1_ := Aside0.mk (below_step lB hb)
                 clear HB
                 have HB := n1_
                 clear n1_
                 replace BK142 := Aside0.mk (blk_below (g := gb142) (o := .cells #[.int .i64 0, .int .i64 0, .int .i64 0, .int .i64 0] 61 (0, 0)) (kX BK142.out) hb)
                 (try clear hb)
                 (try clear hb2)
                 (try clear hk)
                 (try clear hi)
                 refine hK.out _ _ trivial (fun hHeld => ?_)
                 clear hK K
                 refine nm 23 ?_
                 exact norm_ (by first | (simp only [putAll, Act.put, sA, sB, sC]; done) | (simp only [putAll, Act.put, sA, sB, sC]; rfl)) (hJ2_10 (gb142) _ ⟨(kX BK142.out), GW142.out, GE142.out, lB⟩)
                ·skip
                 refine box_step ?hg (N := 5) ?hd (cs := #[.int .i64 0, .int .i64 0, .int .i64 0, .int .i64 0]) (t := 61) ?hr ?_; (case hd => rfl); (case hg => rfl); (case hr => first | (go_simp; done) | (go_simp; rfl))
                 intro gb141 hg w15 hbox hb
                 have n0_ := Aside0.mk (blk_below (g := gb142) (o := .cells #[.int .i64 0, .int .i64 0, .int .i64 0, .int .i64 0] 61 (0, 0)) (kX BK142.out) hb)
                 have n1_ := Aside0.mk (below_step lB hb)
                 have n2_ := Aside0.mk (hbox)
                 have n3_ := Aside0.mk (lG (w := w) hg)
                 have n4_ := Aside0.mk (lG (w := w) hg)
                 have n5_ := Aside0.mk ((by rw [hg]; exact Nat.ne_of_lt (blk_lt (g := gb142) (o := .cells #[.int .i64 0, .int .i64 0, .int .i64 0, .int .i64 0] 61 (0, 0)) (kX BK142.out)) : gb142 ≠ gb141))
                 have n6_ := Aside0.mk ((by rw [hg]; exact Nat.ne_of_gt (blk_lt (g := gb142) (o := .cells #[.int .i64 0, .int .i64 0, .int .i64 0, .int .i64 0] 61 (0, 0)) (kX BK142.out)) : gb141 ≠ gb142))
                 clear BK142
                 clear HB
                 have BK142 := n0_
                 have HB := n1_
                 have BK141 := n2_
                 have GW141 := n3_
                 have GE141 := n4_
                 have NB142_141 := n5_
                 have NB141_142 := n6_
                 clear n0_ n1_ n2_ n3_ n4_ n5_ n6_
                 clear hb hbox hg
                 refine hK.out _ _ trivial (fun hHeld => ?_)
                 clear hK K
                 refine nm 5 ?_
                 exact norm_ (by first | (simp only [putAll, Act.put, sA, sB, sC]; done) | (simp only [putAll, Act.put, sA, sB, sC]; rfl)) (hJ9_10 (gb141, gb142) _ ⟨(kX BK141.out), (kX BK142.out), GW141.out, GE141.out, NB142_141.out, NB141_142.out, GW142.out, GE142.out, lB⟩)
              ·skip
               rintro gb141 w14 ⟨h0_, h1_, h2_, h3_⟩
               have n0_ : Aside0 (w14.heap[gb141]? = some (.cells #[.int .i64 0, .int .i64 0, .int .i64 0, .int .i64 0] 61 (0, 0))) := ⟨h0_⟩
               have n1_ : Aside0 (w.heap.size ≤ gb141) := ⟨h1_⟩
               have n2_ : Aside0 (w.heap.size ≤ gb141) := ⟨h2_⟩
               have n3_ : Aside0 (Below w.heap.size w w14) := ⟨h3_⟩
               clear HB
               clear h0_ h1_ h2_ h3_
               have BK141 := n0_
               have GW141 := n1_
               have GE141 := n2_
               have HB := n3_
               clear n0_ n1_ n2_ n3_
               have hHeld := trivial
               refine norm_ (a' := ?_) ?_ ?_
               rotate_left
               ·simp only [putAll, Act.put, sA, sB, sC]
                rfl
               refine two_ (i := 2) (j := 10) (Ni := some 23) (Nj := some 6) (Br [8,1,1,3]) (Br [2,1,5,1,2,2]) rfl rfl rfl rfl (two_of HT_.out (by kernel_rfl)) (by decide) (by decide) (fun K hK => ?_) (fun K hK => ?_)
               ·skip
                refine goes_ Try.func56 (by kernel_rfl) rfl #[.slice A0 l0.length c0, .int .i64 x18_2] (by rfl) rfl rfl (by (try simp only [List.map_toArray, List.map_cons, List.map_nil]); first | done | rfl | (simp only [List.length_drop, List.length_take]; rfl)) ?_
                with_reducible refine (plane_edge.calls _ _ l0 x18_2 t133 t134 t135 t136 _ ?side1 ?side2 A8.out).mono ?_
                (case side1 => repeat (first | exact (Kd.C_below HR0.out HB.out) | (with_reducible refine Kd.C_alloc ?_ _) | (with_reducible refine Kd.C_drewN ?_ _) | (with_reducible refine Kd.C_drew ?_)))
                (case side2 => exact HC0.out)
                rintro e w15 ⟨rfl, hb⟩
                refine ⟨_, rfl, ?_⟩
                have n1_ := Aside0.mk (below_step lB hb)
                clear HB
                have HB := n1_
                clear n1_
                replace BK141 := Aside0.mk (blk_below (g := gb141) (o := .cells #[.int .i64 0, .int .i64 0, .int .i64 0, .int .i64 0] 61 (0, 0)) (kX BK141.out) hb)
                (try clear hb)
                (try clear hb2)
                (try clear hk)
                (try clear hi)
                refine hK.out _ _ trivial (fun hHeld => ?_)
                clear hK K
                refine nm 23 ?_
                exact norm_ (by first | (simp only [putAll, Act.put, sA, sB, sC]; done) | (simp only [putAll, Act.put, sA, sB, sC]; rfl)) (hJ2_9 (gb141) _ ⟨(kX BK141.out), GW141.out, GE141.out, lB⟩)
               ·skip
                refine box_step ?hg (N := 6) ?hd (cs := #[.int .i64 0, .int .i64 0, .int .i64 0, .int .i64 0]) (t := 61) ?hr ?_; (case hd => rfl); (case hg => rfl); (case hr => first | (go_simp; done) | (go_simp; rfl))
                intro gb142 hg w15 hbox hb
                have n0_ := Aside0.mk (blk_below (g := gb141) (o := .cells #[.int .i64 0, .int .i64 0, .int .i64 0, .int .i64 0] 61 (0, 0)) (kX BK141.out) hb)
                have n1_ := Aside0.mk (below_step lB hb)
                have n2_ := Aside0.mk (hbox)
                have n3_ := Aside0.mk (lG (w := w) hg)
                have n4_ := Aside0.mk (lG (w := w) hg)
                have n5_ := Aside0.mk ((by rw [hg]; exact Nat.ne_of_lt (blk_lt (g := gb141) (o := .cells #[.int .i64 0, .int .i64 0, .int .i64 0, .int .i64 0] 61 (0, 0)) (kX BK141.out)) : gb141 ≠ gb142))
                have n6_ := Aside0.mk ((by rw [hg]; exact Nat.ne_of_gt (blk_lt (g := gb141) (o := .cells #[.int .i64 0, .int .i64 0, .int .i64 0, .int .i64 0] 61 (0, 0)) (kX BK141.out)) : gb142 ≠ gb141))
                clear BK141
                clear HB
                have BK141 := n0_
                have HB := n1_
                have BK142 := n2_
                have GW142 := n3_
                have GE142 := n4_
                have NB141_142 := n5_
                have NB142_141 := n6_
                clear n0_ n1_ n2_ n3_ n4_ n5_ n6_
                clear hb hbox hg
                refine hK.out _ _ trivial (fun hHeld => ?_)
                clear hK K
                refine nm 6 ?_
                exact norm_ (by first | (simp only [putAll, Act.put, sA, sB, sC]; done) | (simp only [putAll, Act.put, sA, sB, sC]; rfl)) (hJ9_10 (gb141, gb142) _ ⟨(kX BK141.out), (kX BK142.out), GW141.out, GE141.out, NB142_141.out, NB141_142.out, GW142.out, GE142.out, lB⟩)
             ·skip
              rintro _ w14 h0_
              have n0_ : Aside0 (Below w.heap.size w w14) := ⟨h0_⟩
              clear HB
              clear h0_
              have HB := n0_
              clear n0_
              have hHeld := trivial
              refine norm_ (a' := ?_) ?_ ?_
              rotate_left
              ·simp only [putAll, Act.put, sA, sB, sC]
               rfl
              refine three_ (i := 8) (j := 9) (k := 10) (Ni := some 29) (Nj := some 5) (Nk := some 6) (Bs 9 13) (Br [8,1,1,3]) (Br [8,2,1,2]) rfl rfl rfl rfl rfl rfl (three_of HT_.out (by kernel_rfl)) (by decide) (by decide) (by decide) (fun K hK => ?_) (fun K hK => ?_) (fun K hK => ?_)
              ·skip
               refine goes_ Try.func56 (by kernel_rfl) rfl #[.slice A0 l0.length c0, .int .i64 (Int.tmod (wrap64 (x18_2 + 1)) (l0.length : Int))] (by rfl) rfl rfl (by (try simp only [List.map_toArray, List.map_cons, List.map_nil]); first | done | rfl | (simp only [List.length_drop, List.length_take]; rfl)) ?_
               with_reducible refine (plane_edge.calls _ _ l0 (Int.tmod (wrap64 (x18_2 + 1)) (l0.length : Int)) t137 t138 t139 t140 _ ?side1 ?side2 A10.out).mono ?_
               (case side1 => repeat (first | exact (Kd.C_below HR0.out HB.out) | (with_reducible refine Kd.C_alloc ?_ _) | (with_reducible refine Kd.C_drewN ?_ _) | (with_reducible refine Kd.C_drew ?_)))
               (case side2 => exact HC0.out)
               rintro e w15 ⟨rfl, hb⟩
               refine ⟨_, rfl, ?_⟩
               have n0_ := Aside0.mk (below_step lB hb)
               clear HB
               have HB := n0_
               clear n0_
               (try clear hb)
               (try clear hb2)
               (try clear hk)
               (try clear hi)
               refine hK.out _ _ trivial (fun hHeld => ?_)
               clear hK K
               refine nm 29 ?_
               exact norm_ (by first | (simp only [putAll, Act.put, sA, sB, sC]; done) | (simp only [putAll, Act.put, sA, sB, sC]; rfl)) (hJ2_8 () _ lB)
              ·skip
               refine box_step ?hg (N := 5) ?hd (cs := #[.int .i64 0, .int .i64 0, .int .i64 0, .int .i64 0]) (t := 61) ?hr ?_; (case hd => rfl); (case hg => rfl); (case hr => first | (go_simp; done) | (go_simp; rfl))
               intro gb141 hg w15 hbox hb
               have n0_ := Aside0.mk (below_step lB hb)
               have n1_ := Aside0.mk (hbox)
               have n2_ := Aside0.mk (lG (w := w) hg)
               have n3_ := Aside0.mk (lG (w := w) hg)
               clear HB
               have HB := n0_
               have BK141 := n1_
               have GW141 := n2_
               have GE141 := n3_
               clear n0_ n1_ n2_ n3_
               clear hb hbox hg
               refine hK.out _ _ trivial (fun hHeld => ?_)
               clear hK K
               refine nm 5 ?_
               exact norm_ (by first | (simp only [putAll, Act.put, sA, sB, sC]; done) | (simp only [putAll, Act.put, sA, sB, sC]; rfl)) (hJ2_9 (gb141) _ ⟨(kX BK141.out), GW141.out, GE141.out, lB⟩)
              ·skip
               refine box_step ?hg (N := 6) ?hd (cs := #[.int .i64 0, .int .i64 0, .int .i64 0, .int .i64 0]) (t := 61) ?hr ?_; (case hd => rfl); (case hg => rfl); (case hr => first | (go_simp; done) | (go_simp; rfl))
               intro gb142 hg w15 hbox hb
               have n0_ := Aside0.mk (below_step lB hb)
               have n1_ := Aside0.mk (hbox)
               have n2_ := Aside0.mk (lG (w := w) hg)
               have n3_ := Aside0.mk (lG (w := w) hg)
               clear HB
               have HB := n0_
               have BK142 := n1_
               have GW142 := n2_
               have GE142 := n3_
               clear n0_ n1_ n2_ n3_
               clear hb hbox hg
               refine hK.out _ _ trivial (fun hHeld => ?_)
               clear hK K
               refine nm 6 ?_
               exact norm_ (by first | (simp only [putAll, Act.put, sA, sB, sC]; done) | (simp only [putAll, Act.put, sA, sB, sC]; rfl)) (hJ2_10 (gb142) _ ⟨(kX BK142.out), GW142.out, GE142.out, lB⟩)
            ·skip
             rintro ⟨gb141, gb142⟩ w15 ⟨h0_, h1_, h2_, h3_, h4_, h5_, h6_, h7_, h8_⟩
             have n0_ : Aside0 (w15.heap[gb141]? = some (.cells #[.int .i64 0, .int .i64 0, .int .i64 0, .int .i64 0] 61 (0, 0))) := ⟨h0_⟩
             have n1_ : Aside0 (w15.heap[gb142]? = some (.cells #[.int .i64 0, .int .i64 0, .int .i64 0, .int .i64 0] 61 (0, 0))) := ⟨h1_⟩
             have n2_ : Aside0 (w.heap.size ≤ gb141) := ⟨h2_⟩
             have n3_ : Aside0 (w.heap.size ≤ gb141) := ⟨h3_⟩
             have n4_ : Aside0 (gb142 ≠ gb141) := ⟨h4_⟩
             have n5_ : Aside0 (gb141 ≠ gb142) := ⟨h5_⟩
             have n6_ : Aside0 (w.heap.size ≤ gb142) := ⟨h6_⟩
             have n7_ : Aside0 (w.heap.size ≤ gb142) := ⟨h7_⟩
             have n8_ : Aside0 (Below w.heap.size w w15) := ⟨h8_⟩
             clear HB
             clear h0_ h1_ h2_ h3_ h4_ h5_ h6_ h7_ h8_
             have BK141 := n0_
             have BK142 := n1_
             have GW141 := n2_
             have GE141 := n3_
             have NB142_141 := n4_
             have NB141_142 := n5_
             have GW142 := n6_
             have GE142 := n7_
             have HB := n8_
             clear n0_ n1_ n2_ n3_ n4_ n5_ n6_ n7_ n8_
             have hHeld := trivial
             refine norm_ (a' := ?_) ?_ ?_
             rotate_left
             ·simp only [putAll, Act.put, sA, sB, sC]
              rfl
             refine one_ (i := 2) (N := some 23) (Br [8,1,2,2]) rfl rfl (one_of HT_.out (by kernel_rfl)) (by decide) (fun K hK => ?_)
             refine goes_ Try.func56 (by kernel_rfl) rfl #[.slice A0 l0.length c0, .int .i64 x18_2] (by rfl) rfl rfl (by (try simp only [List.map_toArray, List.map_cons, List.map_nil]); first | done | rfl | (simp only [List.length_drop, List.length_take]; rfl)) ?_
             with_reducible refine (plane_edge.calls _ _ l0 x18_2 t133 t134 t135 t136 _ ?side1 ?side2 A8.out).mono ?_
             (case side1 => repeat (first | exact (Kd.C_below HR0.out HB.out) | (with_reducible refine Kd.C_alloc ?_ _) | (with_reducible refine Kd.C_drewN ?_ _) | (with_reducible refine Kd.C_drew ?_)))
             (case side2 => exact HC0.out)
             rintro e w16 ⟨rfl, hb⟩
             refine ⟨_, rfl, ?_⟩
             have n2_ := Aside0.mk (below_step lB hb)
             clear HB
             have HB := n2_
             clear n2_
             replace BK141 := Aside0.mk (blk_below (g := gb141) (o := .cells #[.int .i64 0, .int .i64 0, .int .i64 0, .int .i64 0] 61 (0, 0)) (kX BK141.out) hb)
             replace BK142 := Aside0.mk (blk_below (g := gb142) (o := .cells #[.int .i64 0, .int .i64 0, .int .i64 0, .int .i64 0] 61 (0, 0)) (kX BK142.out) hb)
             (try clear hb)
             (try clear hb2)
             (try clear hk)
             (try clear hi)
             refine hK.out _ _ trivial (fun hHeld => ?_)
             clear hK K
             refine nm 23 ?_
             exact norm_ (by first | (simp only [putAll, Act.put, sA, sB, sC]; done) | (simp only [putAll, Act.put, sA, sB, sC]; rfl)) (hJ2_9_10 (gb141, gb142) _ ⟨(kX BK141.out), (kX BK142.out), GW141.out, GE141.out, NB142_141.out, NB141_142.out, GW142.out, GE142.out, lB⟩)
           ·skip
            rintro gb142 w15 ⟨h0_, h1_, h2_, h3_⟩
            have n0_ : Aside0 (w15.heap[gb142]? = some (.cells #[.int .i64 0, .int .i64 0, .int .i64 0, .int .i64 0] 61 (0, 0))) := ⟨h0_⟩
            have n1_ : Aside0 (w.heap.size ≤ gb142) := ⟨h1_⟩
            have n2_ : Aside0 (w.heap.size ≤ gb142) := ⟨h2_⟩
            have n3_ : Aside0 (Below w.heap.size w w15) := ⟨h3_⟩
            clear HB
            clear h0_ h1_ h2_ h3_
            have BK142 := n0_
            have GW142 := n1_
            have GE142 := n2_
            have HB := n3_
            clear n0_ n1_ n2_ n3_
            have hHeld := trivial
            refine norm_ (a' := ?_) ?_ ?_
            rotate_left
            ·simp only [putAll, Act.put, sA, sB, sC]
             rfl
            refine two_ (i := 8) (j := 9) (Ni := some 29) (Nj := some 5) (Br [9,1,1,2]) (Br [8,1,2,2]) rfl rfl rfl rfl (two_of HT_.out (by kernel_rfl)) (by decide) (by decide) (fun K hK => ?_) (fun K hK => ?_)
            ·skip
             refine goes_ Try.func56 (by kernel_rfl) rfl #[.slice A0 l0.length c0, .int .i64 (Int.tmod (wrap64 (x18_2 + 1)) (l0.length : Int))] (by rfl) rfl rfl (by (try simp only [List.map_toArray, List.map_cons, List.map_nil]); first | done | rfl | (simp only [List.length_drop, List.length_take]; rfl)) ?_
             with_reducible refine (plane_edge.calls _ _ l0 (Int.tmod (wrap64 (x18_2 + 1)) (l0.length : Int)) t137 t138 t139 t140 _ ?side1 ?side2 A10.out).mono ?_
             (case side1 => repeat (first | exact (Kd.C_below HR0.out HB.out) | (with_reducible refine Kd.C_alloc ?_ _) | (with_reducible refine Kd.C_drewN ?_ _) | (with_reducible refine Kd.C_drew ?_)))
             (case side2 => exact HC0.out)
             rintro e w16 ⟨rfl, hb⟩
             refine ⟨_, rfl, ?_⟩
             have n1_ := Aside0.mk (below_step lB hb)
             clear HB
             have HB := n1_
             clear n1_
             replace BK142 := Aside0.mk (blk_below (g := gb142) (o := .cells #[.int .i64 0, .int .i64 0, .int .i64 0, .int .i64 0] 61 (0, 0)) (kX BK142.out) hb)
             (try clear hb)
             (try clear hb2)
             (try clear hk)
             (try clear hi)
             refine hK.out _ _ trivial (fun hHeld => ?_)
             clear hK K
             refine nm 29 ?_
             exact norm_ (by first | (simp only [putAll, Act.put, sA, sB, sC]; done) | (simp only [putAll, Act.put, sA, sB, sC]; rfl)) (hJ2_8_10 (gb142) _ ⟨(kX BK142.out), GW142.out, GE142.out, lB⟩)
            ·skip
             refine box_step ?hg (N := 5) ?hd (cs := #[.int .i64 0, .int .i64 0, .int .i64 0, .int .i64 0]) (t := 61) ?hr ?_; (case hd => rfl); (case hg => rfl); (case hr => first | (go_simp; done) | (go_simp; rfl))
             intro gb141 hg w16 hbox hb
             have n0_ := Aside0.mk (blk_below (g := gb142) (o := .cells #[.int .i64 0, .int .i64 0, .int .i64 0, .int .i64 0] 61 (0, 0)) (kX BK142.out) hb)
             have n1_ := Aside0.mk (below_step lB hb)
             have n2_ := Aside0.mk (hbox)
             have n3_ := Aside0.mk (lG (w := w) hg)
             have n4_ := Aside0.mk (lG (w := w) hg)
             have n5_ := Aside0.mk ((by rw [hg]; exact Nat.ne_of_lt (blk_lt (g := gb142) (o := .cells #[.int .i64 0, .int .i64 0, .int .i64 0, .int .i64 0] 61 (0, 0)) (kX BK142.out)) : gb142 ≠ gb141))
             have n6_ := Aside0.mk ((by rw [hg]; exact Nat.ne_of_gt (blk_lt (g := gb142) (o := .cells #[.int .i64 0, .int .i64 0, .int .i64 0, .int .i64 0] 61 (0, 0)) (kX BK142.out)) : gb141 ≠ gb142))
             clear BK142
             clear HB
             have BK142 := n0_
             have HB := n1_
             have BK141 := n2_
             have GW141 := n3_
             have GE141 := n4_
             have NB142_141 := n5_
             have NB141_142 := n6_
             clear n0_ n1_ n2_ n3_ n4_ n5_ n6_
             clear hb hbox hg
             refine hK.out _ _ trivial (fun hHeld => ?_)
             clear hK K
             refine nm 5 ?_
             exact norm_ (by first | (simp only [putAll, Act.put, sA, sB, sC]; done) | (simp only [putAll, Act.put, sA, sB, sC]; rfl)) (hJ2_9_10 (gb141, gb142) _ ⟨(kX BK141.out), (kX BK142.out), GW141.out, GE141.out, NB142_141.out, NB141_142.out, GW142.out, GE142.out, lB⟩)
          ·skip
           rintro gb141 w15 ⟨h0_, h1_, h2_, h3_⟩
           have n0_ : Aside0 (w15.heap[gb141]? = some (.cells #[.int .i64 0, .int .i64 0, .int .i64 0, .int .i64 0] 61 (0, 0))) := ⟨h0_⟩
           have n1_ : Aside0 (w.heap.size ≤ gb141) := ⟨h1_⟩
           have n2_ : Aside0 (w.heap.size ≤ gb141) := ⟨h2_⟩
           have n3_ : Aside0 (Below w.heap.size w w15) := ⟨h3_⟩
           clear HB
           clear h0_ h1_ h2_ h3_
           have BK141 := n0_
           have GW141 := n1_
           have GE141 := n2_
           have HB := n3_
           clear n0_ n1_ n2_ n3_
           have hHeld := trivial
           refine norm_ (a' := ?_) ?_ ?_
           rotate_left
           ·simp only [putAll, Act.put, sA, sB, sC]
            rfl
           refine two_ (i := 8) (j := 10) (Ni := some 29) (Nj := some 6) (Bs 10 13) (Br [8,1,2,2]) rfl rfl rfl rfl (two_of HT_.out (by kernel_rfl)) (by decide) (by decide) (fun K hK => ?_) (fun K hK => ?_)
           ·skip
            refine goes_ Try.func56 (by kernel_rfl) rfl #[.slice A0 l0.length c0, .int .i64 (Int.tmod (wrap64 (x18_2 + 1)) (l0.length : Int))] (by rfl) rfl rfl (by (try simp only [List.map_toArray, List.map_cons, List.map_nil]); first | done | rfl | (simp only [List.length_drop, List.length_take]; rfl)) ?_
            with_reducible refine (plane_edge.calls _ _ l0 (Int.tmod (wrap64 (x18_2 + 1)) (l0.length : Int)) t137 t138 t139 t140 _ ?side1 ?side2 A10.out).mono ?_
            (case side1 => repeat (first | exact (Kd.C_below HR0.out HB.out) | (with_reducible refine Kd.C_alloc ?_ _) | (with_reducible refine Kd.C_drewN ?_ _) | (with_reducible refine Kd.C_drew ?_)))
            (case side2 => exact HC0.out)
            rintro e w16 ⟨rfl, hb⟩
            refine ⟨_, rfl, ?_⟩
            have n1_ := Aside0.mk (below_step lB hb)
            clear HB
            have HB := n1_
            clear n1_
            replace BK141 := Aside0.mk (blk_below (g := gb141) (o := .cells #[.int .i64 0, .int .i64 0, .int .i64 0, .int .i64 0] 61 (0, 0)) (kX BK141.out) hb)
            (try clear hb)
            (try clear hb2)
            (try clear hk)
            (try clear hi)
            refine hK.out _ _ trivial (fun hHeld => ?_)
            clear hK K
            refine nm 29 ?_
            exact norm_ (by first | (simp only [putAll, Act.put, sA, sB, sC]; done) | (simp only [putAll, Act.put, sA, sB, sC]; rfl)) (hJ2_8_9 (gb141) _ ⟨(kX BK141.out), GW141.out, GE141.out, lB⟩)
           ·skip
            refine box_step ?hg (N := 6) ?hd (cs := #[.int .i64 0, .int .i64 0, .int .i64 0, .int .i64 0]) (t := 61) ?hr ?_; (case hd => rfl); (case hg => rfl); (case hr => first | (go_simp; done) | (go_simp; rfl))
            intro gb142 hg w16 hbox hb
            have n0_ := Aside0.mk (blk_below (g := gb141) (o := .cells #[.int .i64 0, .int .i64 0, .int .i64 0, .int .i64 0] 61 (0, 0)) (kX BK141.out) hb)
            have n1_ := Aside0.mk (below_step lB hb)
            have n2_ := Aside0.mk (hbox)
            have n3_ := Aside0.mk (lG (w := w) hg)
            have n4_ := Aside0.mk (lG (w := w) hg)
            have n5_ := Aside0.mk ((by rw [hg]; exact Nat.ne_of_lt (blk_lt (g := gb141) (o := .cells #[.int .i64 0, .int .i64 0, .int .i64 0, .int .i64 0] 61 (0, 0)) (kX BK141.out)) : gb141 ≠ gb142))
            have n6_ := Aside0.mk ((by rw [hg]; exact Nat.ne_of_gt (blk_lt (g := gb141) (o := .cells #[.int .i64 0, .int .i64 0, .int .i64 0, .int .i64 0] 61 (0, 0)) (kX BK141.out)) : gb142 ≠ gb141))
            clear BK141
            clear HB
            have BK141 := n0_
            have HB := n1_
            have BK142 := n2_
            have GW142 := n3_
            have GE142 := n4_
            have NB141_142 := n5_
            have NB142_141 := n6_
            clear n0_ n1_ n2_ n3_ n4_ n5_ n6_
            clear hb hbox hg
            refine hK.out _ _ trivial (fun hHeld => ?_)
            clear hK K
            refine nm 6 ?_
            exact norm_ (by first | (simp only [putAll, Act.put, sA, sB, sC]; done) | (simp only [putAll, Act.put, sA, sB, sC]; rfl)) (hJ2_9_10 (gb141, gb142) _ ⟨(kX BK141.out), (kX BK142.out), GW141.out, GE141.out, NB142_141.out, NB141_142.out, GW142.out, GE142.out, lB⟩)
         ·skip
          rintro _ w15 h0_
          have n0_ : Aside0 (Below w.heap.size w w15) := ⟨h0_⟩
          clear HB
          clear h0_
          have HB := n0_
          clear n0_
          have hHeld := trivial
          refine norm_ (a' := ?_) ?_ ?_
          rotate_left
          ·simp only [putAll, Act.put, sA, sB, sC]
           rfl
          refine two_ (i := 9) (j := 10) (Ni := some 5) (Nj := some 6) (Bs 10 13) (Br [9,1,1,2]) rfl rfl rfl rfl (two_of HT_.out (by kernel_rfl)) (by decide) (by decide) (fun K hK => ?_) (fun K hK => ?_)
          ·skip
           refine box_step ?hg (N := 5) ?hd (cs := #[.int .i64 0, .int .i64 0, .int .i64 0, .int .i64 0]) (t := 61) ?hr ?_; (case hd => rfl); (case hg => rfl); (case hr => first | (go_simp; done) | (go_simp; rfl))
           intro gb141 hg w16 hbox hb
           have n0_ := Aside0.mk (below_step lB hb)
           have n1_ := Aside0.mk (hbox)
           have n2_ := Aside0.mk (lG (w := w) hg)
           have n3_ := Aside0.mk (lG (w := w) hg)
           clear HB
           have HB := n0_
           have BK141 := n1_
           have GW141 := n2_
           have GE141 := n3_
           clear n0_ n1_ n2_ n3_
           clear hb hbox hg
           refine hK.out _ _ trivial (fun hHeld => ?_)
           clear hK K
           refine nm 5 ?_
           exact norm_ (by first | (simp only [putAll, Act.put, sA, sB, sC]; done) | (simp only [putAll, Act.put, sA, sB, sC]; rfl)) (hJ2_8_9 (gb141) _ ⟨(kX BK141.out), GW141.out, GE141.out, lB⟩)
          ·skip
           refine box_step ?hg (N := 6) ?hd (cs := #[.int .i64 0, .int .i64 0, .int .i64 0, .int .i64 0]) (t := 61) ?hr ?_; (case hd => rfl); (case hg => rfl); (case hr => first | (go_simp; done) | (go_simp; rfl))
           intro gb142 hg w16 hbox hb
           have n0_ := Aside0.mk (below_step lB hb)
           have n1_ := Aside0.mk (hbox)
           have n2_ := Aside0.mk (lG (w := w) hg)
           have n3_ := Aside0.mk (lG (w := w) hg)
           clear HB
           have HB := n0_
           have BK142 := n1_
           have GW142 := n2_
           have GE142 := n3_
           clear n0_ n1_ n2_ n3_
           clear hb hbox hg
           refine hK.out _ _ trivial (fun hHeld => ?_)
           clear hK K
           refine nm 6 ?_
           exact norm_ (by first | (simp only [putAll, Act.put, sA, sB, sC]; done) | (simp only [putAll, Act.put, sA, sB, sC]; rfl)) (hJ2_8_10 (gb142) _ ⟨(kX BK142.out), GW142.out, GE142.out, lB⟩)
        ·skip
         rintro ⟨gb141, gb142⟩ w16 ⟨h0_, h1_, h2_, h3_, h4_, h5_, h6_, h7_, h8_⟩
         have n0_ : Aside0 (w16.heap[gb141]? = some (.cells #[.int .i64 0, .int .i64 0, .int .i64 0, .int .i64 0] 61 (0, 0))) := ⟨h0_⟩
         have n1_ : Aside0 (w16.heap[gb142]? = some (.cells #[.int .i64 0, .int .i64 0, .int .i64 0, .int .i64 0] 61 (0, 0))) := ⟨h1_⟩
         have n2_ : Aside0 (w.heap.size ≤ gb141) := ⟨h2_⟩
         have n3_ : Aside0 (w.heap.size ≤ gb141) := ⟨h3_⟩
         have n4_ : Aside0 (gb142 ≠ gb141) := ⟨h4_⟩
         have n5_ : Aside0 (gb141 ≠ gb142) := ⟨h5_⟩
         have n6_ : Aside0 (w.heap.size ≤ gb142) := ⟨h6_⟩
         have n7_ : Aside0 (w.heap.size ≤ gb142) := ⟨h7_⟩
         have n8_ : Aside0 (Below w.heap.size w w16) := ⟨h8_⟩
         clear HB
         clear h0_ h1_ h2_ h3_ h4_ h5_ h6_ h7_ h8_
         have BK141 := n0_
         have BK142 := n1_
         have GW141 := n2_
         have GE141 := n3_
         have NB142_141 := n4_
         have NB141_142 := n5_
         have GW142 := n6_
         have GE142 := n7_
         have HB := n8_
         clear n0_ n1_ n2_ n3_ n4_ n5_ n6_ n7_ n8_
         have hHeld := trivial
         refine norm_ (a' := ?_) ?_ ?_
         rotate_left
         ·simp only [putAll, Act.put, sA, sB, sC]
          rfl
         refine one_ (i := 8) (N := some 29) (Bs 11 13) rfl rfl (one_of HT_.out (by kernel_rfl)) (by decide) (fun K hK => ?_)
         refine goes_ Try.func56 (by kernel_rfl) rfl #[.slice A0 l0.length c0, .int .i64 (Int.tmod (wrap64 (x18_2 + 1)) (l0.length : Int))] (by rfl) rfl rfl (by (try simp only [List.map_toArray, List.map_cons, List.map_nil]); first | done | rfl | (simp only [List.length_drop, List.length_take]; rfl)) ?_
         with_reducible refine (plane_edge.calls _ _ l0 (Int.tmod (wrap64 (x18_2 + 1)) (l0.length : Int)) t137 t138 t139 t140 _ ?side1 ?side2 A10.out).mono ?_
         (case side1 => repeat (first | exact (Kd.C_below HR0.out HB.out) | (with_reducible refine Kd.C_alloc ?_ _) | (with_reducible refine Kd.C_drewN ?_ _) | (with_reducible refine Kd.C_drew ?_)))
         (case side2 => exact HC0.out)
         rintro e w17 ⟨rfl, hb⟩
         refine ⟨_, rfl, ?_⟩
         have n2_ := Aside0.mk (below_step lB hb)
         clear HB
         have HB := n2_
         clear n2_
         replace BK141 := Aside0.mk (blk_below (g := gb141) (o := .cells #[.int .i64 0, .int .i64 0, .int .i64 0, .int .i64 0] 61 (0, 0)) (kX BK141.out) hb)
         replace BK142 := Aside0.mk (blk_below (g := gb142) (o := .cells #[.int .i64 0, .int .i64 0, .int .i64 0, .int .i64 0] 61 (0, 0)) (kX BK142.out) hb)
         (try clear hb)
         (try clear hb2)
         (try clear hk)
         (try clear hi)
         refine hK.out _ _ trivial (fun hHeld => ?_)
         clear hK K
         refine nm 29 ?_
         exact norm_ (by first | (simp only [putAll, Act.put, sA, sB, sC]; done) | (simp only [putAll, Act.put, sA, sB, sC]; rfl)) (hJ2_8_9_10 (gb141, gb142) _ ⟨(kX BK141.out), (kX BK142.out), GW141.out, GE141.out, NB142_141.out, NB141_142.out, GW142.out, GE142.out, lB⟩)
       ·skip
        rintro gb142 w16 ⟨h0_, h1_, h2_, h3_⟩
        have n0_ : Aside0 (w16.heap[gb142]? = some (.cells #[.int .i64 0, .int .i64 0, .int .i64 0, .int .i64 0] 61 (0, 0))) := ⟨h0_⟩
        have n1_ : Aside0 (w.heap.size ≤ gb142) := ⟨h1_⟩
        have n2_ : Aside0 (w.heap.size ≤ gb142) := ⟨h2_⟩
        have n3_ : Aside0 (Below w.heap.size w w16) := ⟨h3_⟩
        clear HB
        clear h0_ h1_ h2_ h3_
        have BK142 := n0_
        have GW142 := n1_
        have GE142 := n2_
        have HB := n3_
        clear n0_ n1_ n2_ n3_
        have hHeld := trivial
        refine norm_ (a' := ?_) ?_ ?_
        rotate_left
        ·simp only [putAll, Act.put, sA, sB, sC]
         rfl
        refine one_ (i := 9) (N := some 5) (Bs 11 13) rfl rfl (one_of HT_.out (by kernel_rfl)) (by decide) (fun K hK => ?_)
        refine box_step ?hg (N := 5) ?hd (cs := #[.int .i64 0, .int .i64 0, .int .i64 0, .int .i64 0]) (t := 61) ?hr ?_; (case hd => rfl); (case hg => rfl); (case hr => first | (go_simp; done) | (go_simp; rfl))
        intro gb141 hg w17 hbox hb
        have n0_ := Aside0.mk (blk_below (g := gb142) (o := .cells #[.int .i64 0, .int .i64 0, .int .i64 0, .int .i64 0] 61 (0, 0)) (kX BK142.out) hb)
        have n1_ := Aside0.mk (below_step lB hb)
        have n2_ := Aside0.mk (hbox)
        have n3_ := Aside0.mk (lG (w := w) hg)
        have n4_ := Aside0.mk (lG (w := w) hg)
        have n5_ := Aside0.mk ((by rw [hg]; exact Nat.ne_of_lt (blk_lt (g := gb142) (o := .cells #[.int .i64 0, .int .i64 0, .int .i64 0, .int .i64 0] 61 (0, 0)) (kX BK142.out)) : gb142 ≠ gb141))
        have n6_ := Aside0.mk ((by rw [hg]; exact Nat.ne_of_gt (blk_lt (g := gb142) (o := .cells #[.int .i64 0, .int .i64 0, .int .i64 0, .int .i64 0] 61 (0, 0)) (kX BK142.out)) : gb141 ≠ gb142))
        clear BK142
        clear HB
        have BK142 := n0_
        have HB := n1_
        have BK141 := n2_
        have GW141 := n3_
        have GE141 := n4_
        have NB142_141 := n5_
        have NB141_142 := n6_
        clear n0_ n1_ n2_ n3_ n4_ n5_ n6_
        clear hb hbox hg
        refine hK.out _ _ trivial (fun hHeld => ?_)
        clear hK K
        refine nm 5 ?_
        exact norm_ (by first | (simp only [putAll, Act.put, sA, sB, sC]; done) | (simp only [putAll, Act.put, sA, sB, sC]; rfl)) (hJ2_8_9_10 (gb141, gb142) _ ⟨(kX BK141.out), (kX BK142.out), GW141.out, GE141.out, NB142_141.out, NB141_142.out, GW142.out, GE142.out, lB⟩)
      ·skip
       rintro gb141 w16 ⟨h0_, h1_, h2_, h3_⟩
       have n0_ : Aside0 (w16.heap[gb141]? = some (.cells #[.int .i64 0, .int .i64 0, .int .i64 0, .int .i64 0] 61 (0, 0))) := ⟨h0_⟩
       have n1_ : Aside0 (w.heap.size ≤ gb141) := ⟨h1_⟩
       have n2_ : Aside0 (w.heap.size ≤ gb141) := ⟨h2_⟩
       have n3_ : Aside0 (Below w.heap.size w w16) := ⟨h3_⟩
       clear HB
       clear h0_ h1_ h2_ h3_
       have BK141 := n0_
       have GW141 := n1_
       have GE141 := n2_
       have HB := n3_
       clear n0_ n1_ n2_ n3_
       have hHeld := trivial
       refine norm_ (a' := ?_) ?_ ?_
       rotate_left
       ·simp only [putAll, Act.put, sA, sB, sC]
        rfl
       refine one_ (i := 10) (N := some 6) (Bs 11 13) rfl rfl (one_of HT_.out (by kernel_rfl)) (by decide) (fun K hK => ?_)
       refine box_step ?hg (N := 6) ?hd (cs := #[.int .i64 0, .int .i64 0, .int .i64 0, .int .i64 0]) (t := 61) ?hr ?_; (case hd => rfl); (case hg => rfl); (case hr => first | (go_simp; done) | (go_simp; rfl))
       intro gb142 hg w17 hbox hb
       have n0_ := Aside0.mk (blk_below (g := gb141) (o := .cells #[.int .i64 0, .int .i64 0, .int .i64 0, .int .i64 0] 61 (0, 0)) (kX BK141.out) hb)
       have n1_ := Aside0.mk (below_step lB hb)
       have n2_ := Aside0.mk (hbox)
       have n3_ := Aside0.mk (lG (w := w) hg)
       have n4_ := Aside0.mk (lG (w := w) hg)
       have n5_ := Aside0.mk ((by rw [hg]; exact Nat.ne_of_lt (blk_lt (g := gb141) (o := .cells #[.int .i64 0, .int .i64 0, .int .i64 0, .int .i64 0] 61 (0, 0)) (kX BK141.out)) : gb141 ≠ gb142))
       have n6_ := Aside0.mk ((by rw [hg]; exact Nat.ne_of_gt (blk_lt (g := gb141) (o := .cells #[.int .i64 0, .int .i64 0, .int .i64 0, .int .i64 0] 61 (0, 0)) (kX BK141.out)) : gb142 ≠ gb141))
       clear BK141
       clear HB
       have BK141 := n0_
       have HB := n1_
       have BK142 := n2_
       have GW142 := n3_
       have GE142 := n4_
       have NB141_142 := n5_
       have NB142_141 := n6_
       clear n0_ n1_ n2_ n3_ n4_ n5_ n6_
       clear hb hbox hg
       refine hK.out _ _ trivial (fun hHeld => ?_)
       clear hK K
       refine nm 6 ?_
       exact norm_ (by first | (simp only [putAll, Act.put, sA, sB, sC]; done) | (simp only [putAll, Act.put, sA, sB, sC]; rfl)) (hJ2_8_9_10 (gb141, gb142) _ ⟨(kX BK141.out), (kX BK142.out), GW141.out, GE141.out, NB142_141.out, NB141_142.out, GW142.out, GE142.out, lB⟩)
     rintro ⟨gb141, gb142⟩ w17 ⟨h0_, h1_, h2_, h3_, h4_, h5_, h6_, h7_, h8_⟩
     have n0_ : Aside0 (w17.heap[gb141]? = some (.cells #[.int .i64 0, .int .i64 0, .int .i64 0, .int .i64 0] 61 (0, 0))) := ⟨h0_⟩
     have n1_ : Aside0 (w17.heap[gb142]? = some (.cells #[.int .i64 0, .int .i64 0, .int .i64 0, .int .i64 0] 61 (0, 0))) := ⟨h1_⟩
     have n2_ : Aside0 (w.heap.size ≤ gb141) := ⟨h2_⟩
     have n3_ : Aside0 (w.heap.size ≤ gb141) := ⟨h3_⟩
     have n4_ : Aside0 (gb142 ≠ gb141) := ⟨h4_⟩
     have n5_ : Aside0 (gb141 ≠ gb142) := ⟨h5_⟩
     have n6_ : Aside0 (w.heap.size ≤ gb142) := ⟨h6_⟩
     have n7_ : Aside0 (w.heap.size ≤ gb142) := ⟨h7_⟩
     have n8_ : Aside0 (Below w.heap.size w w17) := ⟨h8_⟩
     clear HB
     clear h0_ h1_ h2_ h3_ h4_ h5_ h6_ h7_ h8_
     have BK141 := n0_
     have BK142 := n1_
     have GW141 := n2_
     have GE141 := n3_
     have NB142_141 := n4_
     have NB141_142 := n5_
     have GW142 := n6_
     have GE142 := n7_
     have HB := n8_
     clear n0_ n1_ n2_ n3_ n4_ n5_ n6_ n7_ n8_
     have hHeld := trivial
     refine norm_ (a' := ?_) ?_ ?_
     rotate_left
     ·simp only [putAll, Act.put, sA, sB, sC]
      rfl
     refine one_ (i := 11) (N := none) (Bs 12 13) rfl rfl (one_of HT_.out (by kernel_rfl)) (by decide) (fun K hK => ?_)
     have hs18 : w17.cell? ⟨gb141, 0, none⟩ = some (.int .i64 0) := (blk_cell BK141.out 0).trans rfl
     have hfs18 := blk_frozen BK141.out 0
     have hns18_1 := NB142_141.out
     have hms18_1 := NB141_142.out
     have hs19 : w17.cell? ⟨gb141, 1, none⟩ = some (.int .i64 0) := (blk_cell BK141.out 1).trans rfl
     have hfs19 := blk_frozen BK141.out 1
     have hns19_1 := NB142_141.out
     have hms19_1 := NB141_142.out
     have hs20 : w17.cell? ⟨gb141, 2, none⟩ = some (.int .i64 0) := (blk_cell BK141.out 2).trans rfl
     have hfs20 := blk_frozen BK141.out 2
     have hns20_1 := NB142_141.out
     have hms20_1 := NB141_142.out
     have hs21 : w17.cell? ⟨gb141, 3, none⟩ = some (.int .i64 0) := (blk_cell BK141.out 3).trans rfl
     have hfs21 := blk_frozen BK141.out 3
     have hns21_1 := NB142_141.out
     have hms21_1 := NB141_142.out
     refine skip_ (w1 := ?_) (by rfl) rfl ?_ ?_
     rotate_left
     ·go_simp
      rfl
     refine hK.out _ _ trivial (fun hHeld => ?_)
     clear hK K
     refine one_ (i := 12) (N := none) (Bs 13 13) rfl rfl (one_of HT_.out (by kernel_rfl)) (by decide) (fun K hK => ?_)
     have hs22 : w17.cell? ⟨gb142, 0, none⟩ = some (.int .i64 0) := (blk_cell BK142.out 0).trans rfl
     have hfs22 := blk_frozen BK142.out 0
     have hns22_0 := NB141_142.out
     have hms22_0 := NB142_141.out
     have hs23 : w17.cell? ⟨gb142, 1, none⟩ = some (.int .i64 0) := (blk_cell BK142.out 1).trans rfl
     have hfs23 := blk_frozen BK142.out 1
     have hns23_0 := NB141_142.out
     have hms23_0 := NB142_141.out
     have hs24 : w17.cell? ⟨gb142, 2, none⟩ = some (.int .i64 0) := (blk_cell BK142.out 2).trans rfl
     have hfs24 := blk_frozen BK142.out 2
     have hns24_0 := NB141_142.out
     have hms24_0 := NB142_141.out
     have hs25 : w17.cell? ⟨gb142, 3, none⟩ = some (.int .i64 0) := (blk_cell BK142.out 3).trans rfl
     have hfs25 := blk_frozen BK142.out 3
     have hns25_0 := NB141_142.out
     have hms25_0 := NB142_141.out
     refine skip_ (w1 := ?_) (by rfl) rfl ?_ ?_
     rotate_left
     ·go_simp
      rfl
     refine hK.out _ _ trivial (fun hHeld => ?_)
     clear hK K
     refine done_ (done_of HT_.out (by kernel_rfl)) ?_
     go_upto_region 8 with (fail)
     go_cut [46] (fun v46 wc => ∃ (kq : Nat) (x46_10 : Bool), v46 = .bool x46_10 ∧ Aside0 (plane_Simple.j2 kq l0 (l0.length : Int) x18_2 (l0.length : Int) x18_2 x46_10 t133 t134 t135 t136 = some r) ∧ Aside0 (kq ≤ k2) ∧ Aside0 (wc.heap[gb141]? = some (.cells #[.int .i64 t133, .int .i64 t134, .int .i64 t135, .int .i64 t136] 61 (0, 0))) ∧ Aside0 (wc.heap[gb142]? = some (.cells #[.int .i64 t137, .int .i64 t138, .int .i64 t139, .int .i64 t140] 61 (0, 0))) ∧ Aside0 (Below w.heap.size w wc))
     case first =>
      have H := HC11.out
      clear HC11
      by_cases c26 : (t133 == t135 && (t134 == t136)) = true
      ·rw [if_pos c26] at H
       have c26b0 : (t133 == t135 && (t134 == t136)) = true := c26
       (try (have c26b1 : decide (t133 = t135 && (t134 == t136)) = true := by simpa using c26))
       (try (have c26b2 : (t133 == t135 && (t134 == t136)) = true := by simpa using c26))
       clear c26
       (first | rw [c26b0] | (simp only [i64_w, i32_w]; rw [c26b0]) | skip)
       have H' := Aside0.mk H
       clear H
       have hnb27 := NB141_142.out
       have hnc27 := NB142_141.out
       have hcz28_0 : w17.cell? ⟨gb141, 0, none⟩ = some (.int .i64 0) := (blk_cell BK141.out 0).trans rfl
       have hcz28_1 : w17.cell? ⟨gb141, 1, none⟩ = some (.int .i64 0) := (blk_cell BK141.out 1).trans rfl
       have hcz28_2 : w17.cell? ⟨gb141, 2, none⟩ = some (.int .i64 0) := (blk_cell BK141.out 2).trans rfl
       have hcz28_3 : w17.cell? ⟨gb141, 3, none⟩ = some (.int .i64 0) := (blk_cell BK141.out 3).trans rfl
       have hfz28_0 := blk_frozen BK141.out 0
       have hfz28_1 := blk_frozen BK141.out 1
       have hfz28_2 := blk_frozen BK141.out 2
       have hfz28_3 := blk_frozen BK141.out 3
       go_wp2
       go_meet
       case rel => exact ⟨_, (true), (by first | rfl | (simp; done) | (simp [*]; done)), H', ⟨by have := HJ1.out; have := HK2.out; first | omega | exact Nat.le_refl _⟩, ⟨by (with_reducible repeat (first | refine kN ?_ _ | refine kD ?_ | refine kA ?_ _)); refine blk_far ?_ NB141_142.out _; (with_reducible repeat (first | refine kN ?_ _ | refine kD ?_ | refine kA ?_ _)); refine blk_far ?_ NB141_142.out _; (with_reducible repeat (first | refine kN ?_ _ | refine kD ?_ | refine kA ?_ _)); refine blk_far ?_ NB141_142.out _; (with_reducible repeat (first | refine kN ?_ _ | refine kD ?_ | refine kA ?_ _)); refine blk_far ?_ NB141_142.out _; (with_reducible repeat (first | refine kN ?_ _ | refine kD ?_ | refine kA ?_ _)); refine blk_put (cs := #[.int .i64 t133, .int .i64 t134, .int .i64 t135, .int .i64 0]) ?_ 3 _ rfl; (with_reducible repeat (first | refine kN ?_ _ | refine kD ?_ | refine kA ?_ _)); refine blk_put (cs := #[.int .i64 t133, .int .i64 t134, .int .i64 0, .int .i64 0]) ?_ 2 _ rfl; (with_reducible repeat (first | refine kN ?_ _ | refine kD ?_ | refine kA ?_ _)); refine blk_put (cs := #[.int .i64 t133, .int .i64 0, .int .i64 0, .int .i64 0]) ?_ 1 _ rfl; (with_reducible repeat (first | refine kN ?_ _ | refine kD ?_ | refine kA ?_ _)); refine blk_put (cs := #[.int .i64 0, .int .i64 0, .int .i64 0, .int .i64 0]) ?_ 0 _ rfl; (with_reducible repeat (first | refine kN ?_ _ | refine kD ?_ | refine kA ?_ _)); exact BK141.out⟩, ⟨by (with_reducible repeat (first | refine kN ?_ _ | refine kD ?_ | refine kA ?_ _)); refine blk_put (cs := #[.int .i64 t137, .int .i64 t138, .int .i64 t139, .int .i64 0]) ?_ 3 _ rfl; (with_reducible repeat (first | refine kN ?_ _ | refine kD ?_ | refine kA ?_ _)); refine blk_put (cs := #[.int .i64 t137, .int .i64 t138, .int .i64 0, .int .i64 0]) ?_ 2 _ rfl; (with_reducible repeat (first | refine kN ?_ _ | refine kD ?_ | refine kA ?_ _)); refine blk_put (cs := #[.int .i64 t137, .int .i64 0, .int .i64 0, .int .i64 0]) ?_ 1 _ rfl; (with_reducible repeat (first | refine kN ?_ _ | refine kD ?_ | refine kA ?_ _)); refine blk_put (cs := #[.int .i64 0, .int .i64 0, .int .i64 0, .int .i64 0]) ?_ 0 _ rfl; (with_reducible repeat (first | refine kN ?_ _ | refine kD ?_ | refine kA ?_ _)); refine blk_far ?_ NB142_141.out _; (with_reducible repeat (first | refine kN ?_ _ | refine kD ?_ | refine kA ?_ _)); refine blk_far ?_ NB142_141.out _; (with_reducible repeat (first | refine kN ?_ _ | refine kD ?_ | refine kA ?_ _)); refine blk_far ?_ NB142_141.out _; (with_reducible repeat (first | refine kN ?_ _ | refine kD ?_ | refine kA ?_ _)); refine blk_far ?_ NB142_141.out _; (with_reducible repeat (first | refine kN ?_ _ | refine kD ?_ | refine kA ?_ _)); exact BK142.out⟩, ⟨by repeat (first | (with_reducible first | exact HB.out | apply lA | apply lN | apply lD | refine lS ?_ GE141.out | refine lS ?_ GE142.out) | exact HB.out)⟩⟩
      rw [if_neg c26] at H
      have c26b0 : (t133 == t135 && (t134 == t136)) = false := by simpa using c26
      (try (have c26b1 : decide (t133 = t135 && (t134 == t136)) = false := by simpa using c26))
      (try (have c26b2 : (t133 == t135 && (t134 == t136)) = false := by simpa using c26))
      (try (have c26b3 : ¬ (t133 = t135 && (t134 == t136)) := by simpa using c26))
      clear c26
      (first | rw [c26b0] | (simp only [i64_w, i32_w]; rw [c26b0]) | skip)
      replace H := Option.bind_eq_some_iff.mp H
      obtain ⟨t143, A290, H⟩ := H
      replace H : (if t143 = true then (plane_Simple.j2 k2 l0 (l0.length : Int) x18_2 (l0.length : Int) x18_2 true t133 t134 t135 t136) else ((plane_segment_has.f t133 t134 t135 t136 t139 t140).bind fun t144 => (plane_Simple.j2 k2 l0 (l0.length : Int) x18_2 (l0.length : Int) x18_2 t144 t133 t134 t135 t136))) = some r := H
      have A29 := Aside0.mk A290
      clear A290
      by_cases c30 : t143 = true
      ·subst c30
       have H1 : (plane_Simple.j2 k2 l0 (l0.length : Int) x18_2 (l0.length : Int) x18_2 true t133 t134 t135 t136) = some r := by rw [if_pos rfl] at H; exact H
       clear H
       have H := H1
       clear H1
       have H' := Aside0.mk H
       clear H
       have hnb31 := NB141_142.out
       have hnc31 := NB142_141.out
       have hcz32_0 : w17.cell? ⟨gb141, 0, none⟩ = some (.int .i64 0) := (blk_cell BK141.out 0).trans rfl
       have hcz32_1 : w17.cell? ⟨gb141, 1, none⟩ = some (.int .i64 0) := (blk_cell BK141.out 1).trans rfl
       have hcz32_2 : w17.cell? ⟨gb141, 2, none⟩ = some (.int .i64 0) := (blk_cell BK141.out 2).trans rfl
       have hcz32_3 : w17.cell? ⟨gb141, 3, none⟩ = some (.int .i64 0) := (blk_cell BK141.out 3).trans rfl
       have hfz32_0 := blk_frozen BK141.out 0
       have hfz32_1 := blk_frozen BK141.out 1
       have hfz32_2 := blk_frozen BK141.out 2
       have hfz32_3 := blk_frozen BK141.out 3
       have hcz33_0 : w17.cell? ⟨gb142, 0, none⟩ = some (.int .i64 0) := (blk_cell BK142.out 0).trans rfl
       have hcz33_1 : w17.cell? ⟨gb142, 1, none⟩ = some (.int .i64 0) := (blk_cell BK142.out 1).trans rfl
       have hcz33_2 : w17.cell? ⟨gb142, 2, none⟩ = some (.int .i64 0) := (blk_cell BK142.out 2).trans rfl
       have hcz33_3 : w17.cell? ⟨gb142, 3, none⟩ = some (.int .i64 0) := (blk_cell BK142.out 3).trans rfl
       have hfz33_0 := blk_frozen BK142.out 0
       have hfz33_1 := blk_frozen BK142.out 1
       have hfz33_2 := blk_frozen BK142.out 2
       have hfz33_3 := blk_frozen BK142.out 3
       go_wp2_with (first | (go_at_call 57; (with_reducible refine (plane_segment_has.calls t137 t138 t139 t140 t133 t134 true _ A29.out).mono ?_); rintro e w34 ⟨rfl, hb⟩; have n0_ := Aside0.mk (blk_below (g := gb141) (o := .cells #[.int .i64 t133, .int .i64 t134, .int .i64 t135, .int .i64 t136] 61 (0, 0)) (by (with_reducible repeat (first | refine kN ?_ _ | refine kD ?_ | refine kA ?_ _)); refine blk_far ?_ NB141_142.out _; (with_reducible repeat (first | refine kN ?_ _ | refine kD ?_ | refine kA ?_ _)); refine blk_far ?_ NB141_142.out _; (with_reducible repeat (first | refine kN ?_ _ | refine kD ?_ | refine kA ?_ _)); refine blk_far ?_ NB141_142.out _; (with_reducible repeat (first | refine kN ?_ _ | refine kD ?_ | refine kA ?_ _)); refine blk_far ?_ NB141_142.out _; (with_reducible repeat (first | refine kN ?_ _ | refine kD ?_ | refine kA ?_ _)); refine blk_put (cs := #[.int .i64 t133, .int .i64 t134, .int .i64 t135, .int .i64 0]) ?_ 3 _ rfl; (with_reducible repeat (first | refine kN ?_ _ | refine kD ?_ | refine kA ?_ _)); refine blk_put (cs := #[.int .i64 t133, .int .i64 t134, .int .i64 0, .int .i64 0]) ?_ 2 _ rfl; (with_reducible repeat (first | refine kN ?_ _ | refine kD ?_ | refine kA ?_ _)); refine blk_put (cs := #[.int .i64 t133, .int .i64 0, .int .i64 0, .int .i64 0]) ?_ 1 _ rfl; (with_reducible repeat (first | refine kN ?_ _ | refine kD ?_ | refine kA ?_ _)); refine blk_put (cs := #[.int .i64 0, .int .i64 0, .int .i64 0, .int .i64 0]) ?_ 0 _ rfl; (with_reducible repeat (first | refine kN ?_ _ | refine kD ?_ | refine kA ?_ _)); exact BK141.out) hb); have n1_ := Aside0.mk (blk_below (g := gb142) (o := .cells #[.int .i64 t137, .int .i64 t138, .int .i64 t139, .int .i64 t140] 61 (0, 0)) (by (with_reducible repeat (first | refine kN ?_ _ | refine kD ?_ | refine kA ?_ _)); refine blk_put (cs := #[.int .i64 t137, .int .i64 t138, .int .i64 t139, .int .i64 0]) ?_ 3 _ rfl; (with_reducible repeat (first | refine kN ?_ _ | refine kD ?_ | refine kA ?_ _)); refine blk_put (cs := #[.int .i64 t137, .int .i64 t138, .int .i64 0, .int .i64 0]) ?_ 2 _ rfl; (with_reducible repeat (first | refine kN ?_ _ | refine kD ?_ | refine kA ?_ _)); refine blk_put (cs := #[.int .i64 t137, .int .i64 0, .int .i64 0, .int .i64 0]) ?_ 1 _ rfl; (with_reducible repeat (first | refine kN ?_ _ | refine kD ?_ | refine kA ?_ _)); refine blk_put (cs := #[.int .i64 0, .int .i64 0, .int .i64 0, .int .i64 0]) ?_ 0 _ rfl; (with_reducible repeat (first | refine kN ?_ _ | refine kD ?_ | refine kA ?_ _)); refine blk_far ?_ NB142_141.out _; (with_reducible repeat (first | refine kN ?_ _ | refine kD ?_ | refine kA ?_ _)); refine blk_far ?_ NB142_141.out _; (with_reducible repeat (first | refine kN ?_ _ | refine kD ?_ | refine kA ?_ _)); refine blk_far ?_ NB142_141.out _; (with_reducible repeat (first | refine kN ?_ _ | refine kD ?_ | refine kA ?_ _)); refine blk_far ?_ NB142_141.out _; (with_reducible repeat (first | refine kN ?_ _ | refine kD ?_ | refine kA ?_ _)); exact BK142.out) hb); have n2_ := Aside0.mk (below_step lB hb); clear BK141; clear BK142; clear HB; have BK141 := n0_; have BK142 := n1_; have HB := n2_; clear n0_ n1_ n2_; (try clear hb); (try clear hb2); (try clear hk); (try clear hi)))
       go_meet
       case rel => exact ⟨_, (true), (by first | rfl | (simp; done) | (simp [*]; done)), H', ⟨by have := HJ1.out; have := HK2.out; first | omega | exact Nat.le_refl _⟩, ⟨by (with_reducible repeat (first | refine kN ?_ _ | refine kD ?_ | refine kA ?_ _)); exact BK141.out⟩, ⟨by (with_reducible repeat (first | refine kN ?_ _ | refine kD ?_ | refine kA ?_ _)); exact BK142.out⟩, ⟨by repeat (first | (with_reducible first | exact HB.out | apply lA | apply lN | apply lD | refine lS ?_ GE141.out | refine lS ?_ GE142.out) | exact HB.out)⟩⟩
      replace c30 := Bool.eq_false_iff.mpr c30
      subst c30
      have H1 : ((plane_segment_has.f t133 t134 t135 t136 t139 t140).bind fun t144 => (plane_Simple.j2 k2 l0 (l0.length : Int) x18_2 (l0.length : Int) x18_2 t144 t133 t134 t135 t136)) = some r := by rw [if_neg (show ¬ (false = true) by decide)] at H; exact H
      clear H
      have H := H1
      clear H1
      replace H := Option.bind_eq_some_iff.mp H
      obtain ⟨t144, A350, H⟩ := H
      replace H : (plane_Simple.j2 k2 l0 (l0.length : Int) x18_2 (l0.length : Int) x18_2 t144 t133 t134 t135 t136) = some r := H
      have A35 := Aside0.mk A350
      clear A350
      have H' := Aside0.mk H
      clear H
      have hnb36 := NB141_142.out
      have hnc36 := NB142_141.out
      have hcz37_0 : w17.cell? ⟨gb141, 0, none⟩ = some (.int .i64 0) := (blk_cell BK141.out 0).trans rfl
      have hcz37_1 : w17.cell? ⟨gb141, 1, none⟩ = some (.int .i64 0) := (blk_cell BK141.out 1).trans rfl
      have hcz37_2 : w17.cell? ⟨gb141, 2, none⟩ = some (.int .i64 0) := (blk_cell BK141.out 2).trans rfl
      have hcz37_3 : w17.cell? ⟨gb141, 3, none⟩ = some (.int .i64 0) := (blk_cell BK141.out 3).trans rfl
      have hfz37_0 := blk_frozen BK141.out 0
      have hfz37_1 := blk_frozen BK141.out 1
      have hfz37_2 := blk_frozen BK141.out 2
      have hfz37_3 := blk_frozen BK141.out 3
      have hcz38_0 : w17.cell? ⟨gb142, 0, none⟩ = some (.int .i64 0) := (blk_cell BK142.out 0).trans rfl
      have hcz38_1 : w17.cell? ⟨gb142, 1, none⟩ = some (.int .i64 0) := (blk_cell BK142.out 1).trans rfl
      have hcz38_2 : w17.cell? ⟨gb142, 2, none⟩ = some (.int .i64 0) := (blk_cell BK142.out 2).trans rfl
      have hcz38_3 : w17.cell? ⟨gb142, 3, none⟩ = some (.int .i64 0) := (blk_cell BK142.out 3).trans rfl
      have hfz38_0 := blk_frozen BK142.out 0
      have hfz38_1 := blk_frozen BK142.out 1
      have hfz38_2 := blk_frozen BK142.out 2
      have hfz38_3 := blk_frozen BK142.out 3
      go_wp2_with (first | (go_at_call 57; (with_reducible refine (plane_segment_has.calls t137 t138 t139 t140 t133 t134 false _ A29.out).mono ?_); rintro e w39 ⟨rfl, hb⟩; have n0_ := Aside0.mk (blk_below (g := gb141) (o := .cells #[.int .i64 t133, .int .i64 t134, .int .i64 t135, .int .i64 t136] 61 (0, 0)) (by (with_reducible repeat (first | refine kN ?_ _ | refine kD ?_ | refine kA ?_ _)); refine blk_far ?_ NB141_142.out _; (with_reducible repeat (first | refine kN ?_ _ | refine kD ?_ | refine kA ?_ _)); refine blk_far ?_ NB141_142.out _; (with_reducible repeat (first | refine kN ?_ _ | refine kD ?_ | refine kA ?_ _)); refine blk_far ?_ NB141_142.out _; (with_reducible repeat (first | refine kN ?_ _ | refine kD ?_ | refine kA ?_ _)); refine blk_far ?_ NB141_142.out _; (with_reducible repeat (first | refine kN ?_ _ | refine kD ?_ | refine kA ?_ _)); refine blk_put (cs := #[.int .i64 t133, .int .i64 t134, .int .i64 t135, .int .i64 0]) ?_ 3 _ rfl; (with_reducible repeat (first | refine kN ?_ _ | refine kD ?_ | refine kA ?_ _)); refine blk_put (cs := #[.int .i64 t133, .int .i64 t134, .int .i64 0, .int .i64 0]) ?_ 2 _ rfl; (with_reducible repeat (first | refine kN ?_ _ | refine kD ?_ | refine kA ?_ _)); refine blk_put (cs := #[.int .i64 t133, .int .i64 0, .int .i64 0, .int .i64 0]) ?_ 1 _ rfl; (with_reducible repeat (first | refine kN ?_ _ | refine kD ?_ | refine kA ?_ _)); refine blk_put (cs := #[.int .i64 0, .int .i64 0, .int .i64 0, .int .i64 0]) ?_ 0 _ rfl; (with_reducible repeat (first | refine kN ?_ _ | refine kD ?_ | refine kA ?_ _)); exact BK141.out) hb); have n1_ := Aside0.mk (blk_below (g := gb142) (o := .cells #[.int .i64 t137, .int .i64 t138, .int .i64 t139, .int .i64 t140] 61 (0, 0)) (by (with_reducible repeat (first | refine kN ?_ _ | refine kD ?_ | refine kA ?_ _)); refine blk_put (cs := #[.int .i64 t137, .int .i64 t138, .int .i64 t139, .int .i64 0]) ?_ 3 _ rfl; (with_reducible repeat (first | refine kN ?_ _ | refine kD ?_ | refine kA ?_ _)); refine blk_put (cs := #[.int .i64 t137, .int .i64 t138, .int .i64 0, .int .i64 0]) ?_ 2 _ rfl; (with_reducible repeat (first | refine kN ?_ _ | refine kD ?_ | refine kA ?_ _)); refine blk_put (cs := #[.int .i64 t137, .int .i64 0, .int .i64 0, .int .i64 0]) ?_ 1 _ rfl; (with_reducible repeat (first | refine kN ?_ _ | refine kD ?_ | refine kA ?_ _)); refine blk_put (cs := #[.int .i64 0, .int .i64 0, .int .i64 0, .int .i64 0]) ?_ 0 _ rfl; (with_reducible repeat (first | refine kN ?_ _ | refine kD ?_ | refine kA ?_ _)); refine blk_far ?_ NB142_141.out _; (with_reducible repeat (first | refine kN ?_ _ | refine kD ?_ | refine kA ?_ _)); refine blk_far ?_ NB142_141.out _; (with_reducible repeat (first | refine kN ?_ _ | refine kD ?_ | refine kA ?_ _)); refine blk_far ?_ NB142_141.out _; (with_reducible repeat (first | refine kN ?_ _ | refine kD ?_ | refine kA ?_ _)); refine blk_far ?_ NB142_141.out _; (with_reducible repeat (first | refine kN ?_ _ | refine kD ?_ | refine kA ?_ _)); exact BK142.out) hb); have n2_ := Aside0.mk (below_step lB hb); clear BK141; clear BK142; clear HB; have BK141 := n0_; have BK142 := n1_; have HB := n2_; clear n0_ n1_ n2_; (try clear hb); (try clear hb2); (try clear hk); (try clear hi); have hcz40_0 : w39.cell? ⟨gb141, 0, none⟩ = some (.int .i64 t133) := (blk_cell BK141.out 0).trans rfl; have hcz40_1 : w39.cell? ⟨gb141, 1, none⟩ = some (.int .i64 t134) := (blk_cell BK141.out 1).trans rfl; have hcz40_2 : w39.cell? ⟨gb141, 2, none⟩ = some (.int .i64 t135) := (blk_cell BK141.out 2).trans rfl; have hcz40_3 : w39.cell? ⟨gb141, 3, none⟩ = some (.int .i64 t136) := (blk_cell BK141.out 3).trans rfl; have hfz40_0 := blk_frozen BK141.out 0; have hfz40_1 := blk_frozen BK141.out 1; have hfz40_2 := blk_frozen BK141.out 2; have hfz40_3 := blk_frozen BK141.out 3; have hcz41_0 : w39.cell? ⟨gb142, 0, none⟩ = some (.int .i64 t137) := (blk_cell BK142.out 0).trans rfl; have hcz41_1 : w39.cell? ⟨gb142, 1, none⟩ = some (.int .i64 t138) := (blk_cell BK142.out 1).trans rfl; have hcz41_2 : w39.cell? ⟨gb142, 2, none⟩ = some (.int .i64 t139) := (blk_cell BK142.out 2).trans rfl; have hcz41_3 : w39.cell? ⟨gb142, 3, none⟩ = some (.int .i64 t140) := (blk_cell BK142.out 3).trans rfl; have hfz41_0 := blk_frozen BK142.out 0; have hfz41_1 := blk_frozen BK142.out 1; have hfz41_2 := blk_frozen BK142.out 2; have hfz41_3 := blk_frozen BK142.out 3) | (go_at_call 57; (with_reducible refine (plane_segment_has.calls t133 t134 t135 t136 t139 t140 t144 _ A35.out).mono ?_); rintro e w42 ⟨rfl, hb⟩; have n0_ := Aside0.mk (blk_below (g := gb141) (o := .cells #[.int .i64 t133, .int .i64 t134, .int .i64 t135, .int .i64 t136] 61 (0, 0)) (kX BK141.out) hb); have n1_ := Aside0.mk (blk_below (g := gb142) (o := .cells #[.int .i64 t137, .int .i64 t138, .int .i64 t139, .int .i64 t140] 61 (0, 0)) (kX BK142.out) hb); have n2_ := Aside0.mk (below_step lB hb); clear BK141; clear BK142; clear HB; have BK141 := n0_; have BK142 := n1_; have HB := n2_; clear n0_ n1_ n2_; (try clear hb); (try clear hb2); (try clear hk); (try clear hi)))
      go_meet
      case rel => exact ⟨_, (t144), (by first | rfl | (simp; done) | (simp [*]; done)), H', ⟨by have := HJ1.out; have := HK2.out; first | omega | exact Nat.le_refl _⟩, ⟨by (with_reducible repeat (first | refine kN ?_ _ | refine kD ?_ | refine kA ?_ _)); exact BK141.out⟩, ⟨by (with_reducible repeat (first | refine kN ?_ _ | refine kD ?_ | refine kA ?_ _)); exact BK142.out⟩, ⟨by repeat (first | (with_reducible first | exact HB.out | apply lA | apply lN | apply lD | refine lS ?_ GE141.out | refine lS ?_ GE142.out) | exact HB.out)⟩⟩
     case rest =>
      clear HC11
      try clear c2
      try clear p2
      try clear c3
      try clear c5
      try clear p6
      try clear c26
      try clear c26b0
      try clear c26b1
      try clear c26b2
      try clear c27
      try clear c30
      try clear c31
      try clear c36
      try clear hcz28_0
      try clear hcz28_1
      try clear hcz28_2
      try clear hcz28_3
      try clear hcz32_0
      try clear hcz32_1
      try clear hcz32_2
      try clear hcz32_3
      try clear hcz33_0
      try clear hcz33_1
      try clear hcz33_2
      try clear hcz33_3
      try clear hcz37_0
      try clear hcz37_1
      try clear hcz37_2
      try clear hcz37_3
      try clear hcz38_0
      try clear hcz38_1
      try clear hcz38_2
      try clear hcz38_3
      try clear hcz40_0
      try clear hcz40_1
      try clear hcz40_2
      try clear hcz40_3
      try clear hcz41_0
      try clear hcz41_1
      try clear hcz41_2
      try clear hcz41_3
      try clear hfz28_0
      try clear hfz28_1
      try clear hfz28_2
      try clear hfz28_3
      try clear hfz32_0
      try clear hfz32_1
      try clear hfz32_2
      try clear hfz32_3
      try clear hfz33_0
      try clear hfz33_1
      try clear hfz33_2
      try clear hfz33_3
      try clear hfz37_0
      try clear hfz37_1
      try clear hfz37_2
      try clear hfz37_3
      try clear hfz38_0
      try clear hfz38_1
      try clear hfz38_2
      try clear hfz38_3
      try clear hfz40_0
      try clear hfz40_1
      try clear hfz40_2
      try clear hfz40_3
      try clear hfz41_0
      try clear hfz41_1
      try clear hfz41_2
      try clear hfz41_3
      obtain ⟨kq, x46_10, rfl, HA, HJ10, BK141, BK142, HB⟩ := hcut
      cases kq with
      | zero => exact absurd HA.out (by simp [plane_Simple.j2])
      | succ kj10 =>
       have H := HA.out
       clear HA
       simp only [plane_Simple.j2] at H
       by_cases c43 : x46_10 = true
       ·subst c43
        have H1 : (some false) = some r := by rw [if_pos rfl] at H; exact H
        clear H
        have H := H1
        clear H1
        obtain rfl := Option.some.inj H
        go_wp2
        go_ret
        exact en
       replace c43 := Bool.eq_false_iff.mpr c43
       subst c43
       have H1 : (plane_Simple.l1 kj10 l0 (l0.length : Int) x18_2 (wrap64 (x18_2 + 2)) (l0.length : Int) x18_2 t133 t134 t135 t136) = some r := by rw [if_neg (show ¬ (false = true) by decide)] at H; exact H
       clear H
       have H := H1
       clear H1
       have H' := Aside0.mk H
       clear H
       go_wp2
       go_loopg [7] kj10 (fun kq v7 w' => ∃ (x7_4 : Int), v7 = .int .i64 x7_4 ∧ Aside0 (plane_Simple.l1 kq l0 (l0.length : Int) x18_2 x7_4 (l0.length : Int) x18_2 t133 t134 t135 t136 = some r) ∧ Aside0 (kq ≤ kj10) ∧ Aside0 (w'.heap[gb141]? = some (.cells #[.int .i64 t133, .int .i64 t134, .int .i64 t135, .int .i64 t136] 61 (0, 0))) ∧ Aside0 (w'.heap[gb142]? = some (.cells #[.int .i64 t137, .int .i64 t138, .int .i64 t139, .int .i64 t140] 61 (0, 0))) ∧ Aside0 (Below w.heap.size w w'))
       case atStart => exact ⟨(wrap64 (x18_2 + 2)), (by first | rfl | (simp; done) | (simp [*]; done)), H', ⟨Nat.le_refl _⟩, ⟨by (with_reducible repeat (first | refine kN ?_ _ | refine kD ?_ | refine kA ?_ _)); exact BK141.out⟩, ⟨by (with_reducible repeat (first | refine kN ?_ _ | refine kD ?_ | refine kA ?_ _)); exact BK142.out⟩, ⟨by repeat (first | (with_reducible first | exact HB.out | apply lA | apply lN | apply lD | refine lS ?_ GE141.out | refine lS ?_ GE142.out) | exact HB.out)⟩⟩
       case round =>
        clear H'
        try clear c2
        try clear p2
        try clear c3
        try clear c4
        try clear c5
        try clear p6
        try clear c26
        try clear c26b0
        try clear c26b1
        try clear c26b2
        try clear c27
        try clear c30
        try clear c31
        try clear c36
        try clear c43
        try clear hcz28_0
        try clear hcz28_1
        try clear hcz28_2
        try clear hcz28_3
        try clear hcz32_0
        try clear hcz32_1
        try clear hcz32_2
        try clear hcz32_3
        try clear hcz33_0
        try clear hcz33_1
        try clear hcz33_2
        try clear hcz33_3
        try clear hcz37_0
        try clear hcz37_1
        try clear hcz37_2
        try clear hcz37_3
        try clear hcz38_0
        try clear hcz38_1
        try clear hcz38_2
        try clear hcz38_3
        try clear hcz40_0
        try clear hcz40_1
        try clear hcz40_2
        try clear hcz40_3
        try clear hcz41_0
        try clear hcz41_1
        try clear hcz41_2
        try clear hcz41_3
        try clear hfz28_0
        try clear hfz28_1
        try clear hfz28_2
        try clear hfz28_3
        try clear hfz32_0
        try clear hfz32_1
        try clear hfz32_2
        try clear hfz32_3
        try clear hfz33_0
        try clear hfz33_1
        try clear hfz33_2
        try clear hfz33_3
        try clear hfz37_0
        try clear hfz37_1
        try clear hfz37_2
        try clear hfz37_3
        try clear hfz38_0
        try clear hfz38_1
        try clear hfz38_2
        try clear hfz38_3
        try clear hfz40_0
        try clear hfz40_1
        try clear hfz40_2
        try clear hfz40_3
        try clear hfz41_0
        try clear hfz41_1
        try clear hfz41_2
        try clear hfz41_3
        try clear p2
        try clear p6
        obtain ⟨x7_4, rfl, HA, HK4, BK141, BK142, HB⟩ := hrel
        cases gk with
        | zero => exact absurd HA.out (by simp [plane_Simple.l1])
        | succ k4 =>
         have H := HA.out
         clear HA
         simp only [plane_Simple.l1] at H
         by_cases c44 : x7_4 < (l0.length : Int)
         rotate_left
         ·rw [if_neg c44] at H
          have c44b0 : decide (x7_4 < (l0.length : Int)) = false := decide_eq_false c44
          clear c44
          have H' := Aside0.mk H
          clear H
          go_wp2
          go_roundg k4
          case measure => have := HJ1.out; have := HK2.out; have := HJ10.out; have := HK4.out; omega
          case rel => exact ⟨(wrap64 (x18_2 + 1)), (by first | rfl | (simp; done) | (simp [*]; done)), H', ⟨by have := HJ1.out; have := HK2.out; have := HJ10.out; have := HK4.out; omega⟩, ⟨by repeat (first | (with_reducible first | exact HB.out | apply lA | apply lN | apply lD | refine lS ?_ GE141.out | refine lS ?_ GE142.out) | exact HB.out)⟩⟩
         rw [if_pos c44] at H
         have c44b0 : decide (x7_4 < (l0.length : Int)) = true := decide_eq_true c44
         clear c44
         by_cases c45 : (l0.length : Int) = 0
         ·rw [if_pos c45] at H; exact absurd H (by simp)
         rw [if_neg c45] at H
         have c45b0 : ((l0.length : Int) == 0) = false := beq_eq_false_iff_ne.mpr c45
         have c45b1 : ((l0.length : Int) != 0) = true := bne_iff_ne.mpr c45
         have c45b2 : ¬ (l0 = []) := fun h_ => c45 (by rw [h_]; rfl)
         by_cases c46 : (Int.tmod (wrap64 (x7_4 + 1)) (l0.length : Int)) = x18_2
         ·rw [if_pos c46] at H
          have c46b0 : ((Int.tmod (wrap64 (x7_4 + 1)) (l0.length : Int)) == x18_2) = true := beq_iff_eq.mpr c46
          have c46b1 : ((Int.tmod (wrap64 (x7_4 + 1)) (l0.length : Int)) != x18_2) = false := bne_eq_false_iff_eq.mpr c46
          clear c46
          have H' := Aside0.mk H
          clear H
          try go_wp2
          replace BK141 := Aside0.mk (kD BK141.out)
          replace BK142 := Aside0.mk (kD BK142.out)
          replace HB := Aside0.mk (lD HB.out)
          refine start_ (n := 13) (S := fun w' => True) (ds := []) (Bs 0 13) (by kernel_rfl) rfl rfl trivial (fun hHeld => ?_); refine with_tabW plane_Simple.tab13 plane_Simple.bits13 (fun HT_ HW_ => ?_)
          generalize wr.drew = w47 at BK141 BK142 HB hHeld ⊢
          refine pu 0 54 (Bs 1 13) HT_ ?_
          refine pu 1 55 (Bs 2 13) HT_ ?_
          refine pu 2 56 (Bs 3 13) HT_ ?_
          refine pu 3 57 (Bs 4 13) HT_ ?_
          refine pu 4 58 (Bs 5 13) HT_ ?_
          refine pu 5 59 (Bs 6 13) HT_ ?_
          refine pu 6 60 (Bs 7 13) HT_ ?_
          refine po 7 61 (Bs 8 13) HT_ ?_
          refine po 8 62 (Bs 9 13) HT_ ?_
          refine po 9 63 (Bs 10 13) HT_ ?_
          refine po 10 64 (Bs 11 13) HT_ ?_
          refine po 11 65 (Bs 12 13) HT_ ?_
          refine pu 12 66 (Bs 13 13) HT_ ?_
          refine done_ (done_of HT_.out (by kernel_rfl)) ?_
          try go_wp2
          go_roundg k4
          case measure => have := HJ1.out; have := HK2.out; have := HJ10.out; have := HK4.out; omega
          case rel => exact ⟨(wrap64 (x7_4 + 1)), (by first | rfl | (simp; done) | (simp [*]; done)), H', ⟨by have := HJ1.out; have := HK2.out; have := HJ10.out; have := HK4.out; omega⟩, ⟨by (with_reducible repeat (first | refine kN ?_ _ | refine kD ?_ | refine kA ?_ _)); exact BK141.out⟩, ⟨by (with_reducible repeat (first | refine kN ?_ _ | refine kD ?_ | refine kA ?_ _)); exact BK142.out⟩, ⟨by repeat (first | (with_reducible first | exact HB.out | apply lA | apply lN | apply lD | refine lS ?_ GE141.out | refine lS ?_ GE142.out) | exact HB.out)⟩⟩
         rw [if_neg c46] at H
         have c46b0 : ((Int.tmod (wrap64 (x7_4 + 1)) (l0.length : Int)) == x18_2) = false := beq_eq_false_iff_ne.mpr c46
         have c46b1 : ((Int.tmod (wrap64 (x7_4 + 1)) (l0.length : Int)) != x18_2) = true := bne_iff_ne.mpr c46
         replace H := Option.bind_eq_some_iff.mp H
         obtain ⟨⟨t145, t146, t147, t148⟩, A480, H⟩ := H
         replace H : ((plane_segment_meets.f k4 t133 t134 t135 t136 t145 t146 t147 t148).bind fun t149 => (if t149 = true then (some false) else (plane_Simple.l1 k4 l0 (l0.length : Int) x18_2 (wrap64 (x7_4 + 1)) (l0.length : Int) x18_2 t133 t134 t135 t136))) = some r := H
         have A48 := Aside0.mk A480
         clear A480
         replace H := Option.bind_eq_some_iff.mp H
         obtain ⟨t149, A490, H⟩ := H
         replace H : (if t149 = true then (some false) else (plane_Simple.l1 k4 l0 (l0.length : Int) x18_2 (wrap64 (x7_4 + 1)) (l0.length : Int) x18_2 t133 t134 t135 t136)) = some r := H
         have A49 := Aside0.mk A490
         clear A490
         by_cases c50 : t149 = true
         ·subst c50
          have H1 : (some false) = some r := by rw [if_pos rfl] at H; exact H
          clear H
          have H := H1
          clear H1
          obtain rfl := Option.some.inj H
          try go_wp2
          replace BK141 := Aside0.mk (kD BK141.out)
          replace BK142 := Aside0.mk (kD BK142.out)
          replace HB := Aside0.mk (lD HB.out)
          refine start_ (n := 13) (S := fun w' => w'.cell? ⟨gb141, 0, none⟩ = some (.int .i64 t133) ∧ w'.cell? ⟨gb141, 1, none⟩ = some (.int .i64 t134) ∧ w'.cell? ⟨gb141, 2, none⟩ = some (.int .i64 t135) ∧ w'.cell? ⟨gb141, 3, none⟩ = some (.int .i64 t136)) (ds := []) (Bs 0 13) (by kernel_rfl) rfl rfl ⟨(blk_cell BK141.out 0).trans rfl, (blk_cell BK141.out 1).trans rfl, (blk_cell BK141.out 2).trans rfl, (blk_cell BK141.out 3).trans rfl⟩ (fun hHeld => ?_); refine with_tabW plane_Simple.tab13 plane_Simple.bits13 (fun HT_ HW_ => ?_)
          generalize wr.drew = w51 at BK141 BK142 HB hHeld ⊢
          refine pu 0 54 (Bs 1 13) HT_ ?_
          refine pu 1 55 (Bs 2 13) HT_ ?_
          refine pu 2 56 (Bs 3 13) HT_ ?_
          refine pu 3 57 (Bs 4 13) HT_ ?_
          refine pu 4 58 (Bs 5 13) HT_ ?_
          refine pu 5 59 (Bs 6 13) HT_ ?_
          refine pu 6 60 (Bs 7 13) HT_ ?_
          refine pu 8 62 (Br [7,1,1,4]) HT_ ?_
          refine pu 9 63 (Br [7,1,2,3]) HT_ ?_
          refine ta 7 61 (Bs 10 13) HT_ HW_ hHeld ?_
          refine one_ (i := 10) (N := some 64) (Bs 11 13) rfl rfl (one_of HT_.out (by kernel_rfl)) (by decide) (fun K hK => ?_)
          refine goes_ Try.func56 (by kernel_rfl) rfl #[.slice A0 l0.length c0, .int .i64 x7_4] (by rfl) rfl rfl (by (try simp only [List.map_toArray, List.map_cons, List.map_nil]); first | done | rfl | (simp only [List.length_drop, List.length_take]; rfl)) ?_
          with_reducible refine (plane_edge.calls _ _ l0 x7_4 t145 t146 t147 t148 _ ?side1 ?side2 A48.out).mono ?_
          (case side1 => repeat (first | exact (Kd.C_below HR0.out HB.out) | (with_reducible refine Kd.C_alloc ?_ _) | (with_reducible refine Kd.C_drewN ?_ _) | (with_reducible refine Kd.C_drew ?_)))
          (case side2 => exact HC0.out)
          rintro e w52 ⟨rfl, hb⟩
          refine ⟨_, rfl, ?_⟩
          have n2_ := Aside0.mk (below_step lB hb)
          clear HB
          have HB := n2_
          clear n2_
          replace BK141 := Aside0.mk (blk_below (g := gb141) (o := .cells #[.int .i64 t133, .int .i64 t134, .int .i64 t135, .int .i64 t136] 61 (0, 0)) (kX BK141.out) hb)
          replace BK142 := Aside0.mk (blk_below (g := gb142) (o := .cells #[.int .i64 t137, .int .i64 t138, .int .i64 t139, .int .i64 t140] 61 (0, 0)) (kX BK142.out) hb)
          (try clear hb)
          (try clear hb2)
          (try clear hk)
          (try clear hi)
          refine hK.out _ _ ⟨(blk_cell BK141.out 0).trans rfl, (blk_cell BK141.out 1).trans rfl, (blk_cell BK141.out 2).trans rfl, (blk_cell BK141.out 3).trans rfl⟩ (fun hHeld => ?_)
          clear hK K
          refine nm 64 ?_
          refine one_ (i := 11) (N := some 65) (Bs 12 13) rfl rfl (one_of HT_.out (by kernel_rfl)) (by decide) (fun K hK => ?_)
          refine goes_ Try.func58 (by kernel_rfl) rfl #[.agg #[.int .i64 t133, .int .i64 t134, .int .i64 t135, .int .i64 t136], .agg #[.int .i64 t145, .int .i64 t146, .int .i64 t147, .int .i64 t148]] (by rfl) rfl rfl (by (try simp only [List.map_toArray, List.map_cons, List.map_nil]); first | done | rfl | (simp only [List.length_drop, List.length_take]; rfl)) ?_
          with_reducible refine (plane_segment_meets.calls k4 t133 t134 t135 t136 t145 t146 t147 t148 true _ A49.out).mono ?_
          rintro e w53 ⟨rfl, hb⟩
          refine ⟨_, rfl, ?_⟩
          have n2_ := Aside0.mk (below_step lB hb)
          clear HB
          have HB := n2_
          clear n2_
          replace BK141 := Aside0.mk (blk_below (g := gb141) (o := .cells #[.int .i64 t133, .int .i64 t134, .int .i64 t135, .int .i64 t136] 61 (0, 0)) (kX BK141.out) hb)
          replace BK142 := Aside0.mk (blk_below (g := gb142) (o := .cells #[.int .i64 t137, .int .i64 t138, .int .i64 t139, .int .i64 t140] 61 (0, 0)) (kX BK142.out) hb)
          (try clear hb)
          (try clear hb2)
          (try clear hk)
          (try clear hi)
          refine hK.out _ _ ⟨(blk_cell BK141.out 0).trans rfl, (blk_cell BK141.out 1).trans rfl, (blk_cell BK141.out 2).trans rfl, (blk_cell BK141.out 3).trans rfl⟩ (fun hHeld => ?_)
          clear hK K
          refine nm 65 ?_
          refine pu 12 66 (Bs 13 13) HT_ ?_
          refine done_ (done_of HT_.out (by kernel_rfl)) ?_
          try go_wp2
          go_ret
          exact en
         replace c50 := Bool.eq_false_iff.mpr c50
         subst c50
         have H1 : (plane_Simple.l1 k4 l0 (l0.length : Int) x18_2 (wrap64 (x7_4 + 1)) (l0.length : Int) x18_2 t133 t134 t135 t136) = some r := by rw [if_neg (show ¬ (false = true) by decide)] at H; exact H
         clear H
         have H := H1
         clear H1
         have H' := Aside0.mk H
         clear H
         try go_wp2
         replace BK141 := Aside0.mk (kD BK141.out)
         replace BK142 := Aside0.mk (kD BK142.out)
         replace HB := Aside0.mk (lD HB.out)
         refine start_ (n := 13) (S := fun w' => w'.cell? ⟨gb141, 0, none⟩ = some (.int .i64 t133) ∧ w'.cell? ⟨gb141, 1, none⟩ = some (.int .i64 t134) ∧ w'.cell? ⟨gb141, 2, none⟩ = some (.int .i64 t135) ∧ w'.cell? ⟨gb141, 3, none⟩ = some (.int .i64 t136)) (ds := []) (Bs 0 13) (by kernel_rfl) rfl rfl ⟨(blk_cell BK141.out 0).trans rfl, (blk_cell BK141.out 1).trans rfl, (blk_cell BK141.out 2).trans rfl, (blk_cell BK141.out 3).trans rfl⟩ (fun hHeld => ?_); refine with_tabW plane_Simple.tab13 plane_Simple.bits13 (fun HT_ HW_ => ?_)
         generalize wr.drew = w54 at BK141 BK142 HB hHeld ⊢
         refine pu 0 54 (Bs 1 13) HT_ ?_
         refine pu 1 55 (Bs 2 13) HT_ ?_
         refine pu 2 56 (Bs 3 13) HT_ ?_
         refine pu 3 57 (Bs 4 13) HT_ ?_
         refine pu 4 58 (Bs 5 13) HT_ ?_
         refine pu 5 59 (Bs 6 13) HT_ ?_
         refine pu 6 60 (Bs 7 13) HT_ ?_
         refine pu 8 62 (Br [7,1,1,4]) HT_ ?_
         refine pu 9 63 (Br [7,1,2,3]) HT_ ?_
         refine ta 7 61 (Bs 10 13) HT_ HW_ hHeld ?_
         refine one_ (i := 10) (N := some 64) (Bs 11 13) rfl rfl (one_of HT_.out (by kernel_rfl)) (by decide) (fun K hK => ?_)
         refine goes_ Try.func56 (by kernel_rfl) rfl #[.slice A0 l0.length c0, .int .i64 x7_4] (by rfl) rfl rfl (by (try simp only [List.map_toArray, List.map_cons, List.map_nil]); first | done | rfl | (simp only [List.length_drop, List.length_take]; rfl)) ?_
         with_reducible refine (plane_edge.calls _ _ l0 x7_4 t145 t146 t147 t148 _ ?side1 ?side2 A48.out).mono ?_
         (case side1 => repeat (first | exact (Kd.C_below HR0.out HB.out) | (with_reducible refine Kd.C_alloc ?_ _) | (with_reducible refine Kd.C_drewN ?_ _) | (with_reducible refine Kd.C_drew ?_)))
         (case side2 => exact HC0.out)
         rintro e w55 ⟨rfl, hb⟩
         refine ⟨_, rfl, ?_⟩
         have n2_ := Aside0.mk (below_step lB hb)
         clear HB
         have HB := n2_
         clear n2_
         replace BK141 := Aside0.mk (blk_below (g := gb141) (o := .cells #[.int .i64 t133, .int .i64 t134, .int .i64 t135, .int .i64 t136] 61 (0, 0)) (kX BK141.out) hb)
         replace BK142 := Aside0.mk (blk_below (g := gb142) (o := .cells #[.int .i64 t137, .int .i64 t138, .int .i64 t139, .int .i64 t140] 61 (0, 0)) (kX BK142.out) hb)
         (try clear hb)
         (try clear hb2)
         (try clear hk)
         (try clear hi)
         refine hK.out _ _ ⟨(blk_cell BK141.out 0).trans rfl, (blk_cell BK141.out 1).trans rfl, (blk_cell BK141.out 2).trans rfl, (blk_cell BK141.out 3).trans rfl⟩ (fun hHeld => ?_)
         clear hK K
         refine nm 64 ?_
         refine one_ (i := 11) (N := some 65) (Bs 12 13) rfl rfl (one_of HT_.out (by kernel_rfl)) (by decide) (fun K hK => ?_)
         refine goes_ Try.func58 (by kernel_rfl) rfl #[.agg #[.int .i64 t133, .int .i64 t134, .int .i64 t135, .int .i64 t136], .agg #[.int .i64 t145, .int .i64 t146, .int .i64 t147, .int .i64 t148]] (by rfl) rfl rfl (by (try simp only [List.map_toArray, List.map_cons, List.map_nil]); first | done | rfl | (simp only [List.length_drop, List.length_take]; rfl)) ?_
         with_reducible refine (plane_segment_meets.calls k4 t133 t134 t135 t136 t145 t146 t147 t148 false _ A49.out).mono ?_
         rintro e w56 ⟨rfl, hb⟩
         refine ⟨_, rfl, ?_⟩
         have n2_ := Aside0.mk (below_step lB hb)
         clear HB
         have HB := n2_
         clear n2_
         replace BK141 := Aside0.mk (blk_below (g := gb141) (o := .cells #[.int .i64 t133, .int .i64 t134, .int .i64 t135, .int .i64 t136] 61 (0, 0)) (kX BK141.out) hb)
         replace BK142 := Aside0.mk (blk_below (g := gb142) (o := .cells #[.int .i64 t137, .int .i64 t138, .int .i64 t139, .int .i64 t140] 61 (0, 0)) (kX BK142.out) hb)
         (try clear hb)
         (try clear hb2)
         (try clear hk)
         (try clear hi)
         refine hK.out _ _ ⟨(blk_cell BK141.out 0).trans rfl, (blk_cell BK141.out 1).trans rfl, (blk_cell BK141.out 2).trans rfl, (blk_cell BK141.out 3).trans rfl⟩ (fun hHeld => ?_)
         clear hK K
         refine nm 65 ?_
         refine pu 12 66 (Bs 13 13) HT_ ?_
         refine done_ (done_of HT_.out (by kernel_rfl)) ?_
         try go_wp2
         go_roundg k4
         case measure => have := HJ1.out; have := HK2.out; have := HJ10.out; have := HK4.out; omega
         case rel => exact ⟨(wrap64 (x7_4 + 1)), (by first | rfl | (simp; done) | (simp [*]; done)), H', ⟨by have := HJ1.out; have := HK2.out; have := HJ10.out; have := HK4.out; omega⟩, ⟨by (with_reducible repeat (first | refine kN ?_ _ | refine kD ?_ | refine kA ?_ _)); exact BK141.out⟩, ⟨by (with_reducible repeat (first | refine kN ?_ _ | refine kD ?_ | refine kA ?_ _)); exact BK142.out⟩, ⟨by repeat (first | (with_reducible first | exact HB.out | apply lA | apply lN | apply lD | refine lS ?_ GE141.out | refine lS ?_ GE142.out) | exact HB.out)⟩⟩


mutual
def plane_Inside.j0 : Nat → List (S31) → Bool → Int → Int → Option (Int × Int)
 | 0, _, _, _, _ => none
 | k + 1, x0, x15, x156000, x156001 => if x15 = true then (some (0, 2)) else (plane_Inside.l0 k x0 (-1) (x0.length : Int) 0 x156000 x156001)
def plane_Inside.l0 : Nat → List (S31) → Int → Int → Int → Int → Int → Option (Int × Int)
 | 0, _, _, _, _, _, _ => none
 | k + 1, x0, x6, x17, x18, x156000, x156001 => if x18 < x17 then ((plane_edge.f x0 x18).bind fun bt158 => ((plane_segment_has.f bt158.1 bt158.2.1 bt158.2.2.1 bt158.2.2.2 x156000 x156001).bind fun t163 => (if t163 = true then (some (0, 0)) else (if bt158.2.1 > bt158.2.2.2 then (if bt158.2.2.2 ≤ x156001 then (if x156001 < bt158.2.1 then ((plane_turn.f bt158.2.2.1 bt158.2.2.2 bt158.1 bt158.2.1 x156000 x156001).bind fun t164 => (if t164 > 0 then (plane_Inside.l0 k x0 (wrap64 (-x6)) x17 (wrap64 (x18 + 1)) x156000 x156001) else (plane_Inside.l0 k x0 x6 x17 (wrap64 (x18 + 1)) x156000 x156001))) else (plane_Inside.l0 k x0 x6 x17 (wrap64 (x18 + 1)) x156000 x156001)) else (plane_Inside.l0 k x0 x6 x17 (wrap64 (x18 + 1)) x156000 x156001)) else (if bt158.2.1 ≤ x156001 then (if x156001 < bt158.2.2.2 then ((plane_turn.f bt158.1 bt158.2.1 bt158.2.2.1 bt158.2.2.2 x156000 x156001).bind fun t165 => (if t165 > 0 then (plane_Inside.l0 k x0 (wrap64 (-x6)) x17 (wrap64 (x18 + 1)) x156000 x156001) else (plane_Inside.l0 k x0 x6 x17 (wrap64 (x18 + 1)) x156000 x156001))) else (plane_Inside.l0 k x0 x6 x17 (wrap64 (x18 + 1)) x156000 x156001)) else (plane_Inside.l0 k x0 x6 x17 (wrap64 (x18 + 1)) x156000 x156001)))))) else (some (x6, 0))
end
def plane_Inside.f (k : Nat) (l0 : List (S31)) (a1_0 : Int) (a1_1 : Int) : Option (Int × Int) := (plane_Simple.f k l0).bind fun t156 => (if t156 = true then ((plane_invalid.f a1_0 a1_1).bind fun t157 => (plane_Inside.j0 k l0 t157 a1_0 a1_1)) else (plane_Inside.j0 k l0 true a1_0 a1_1))
theorem plane_Inside.mono_l : ∀ k, (∀ y0 y1 y2 y3, LeO (plane_Inside.j0 k y0 y1 y2 y3) (plane_Inside.j0 (k + 1) y0 y1 y2 y3)) ∧ (∀ y0 y1 y2 y3 y4 y5, LeO (plane_Inside.l0 k y0 y1 y2 y3 y4 y5) (plane_Inside.l0 (k + 1) y0 y1 y2 y3 y4 y5))
 | 0 => ⟨fun _ _ _ _ r h => by simp [plane_Inside.j0] at h, fun _ _ _ _ _ _ r h => by simp [plane_Inside.l0] at h⟩
 | k + 1 => by
  obtain ⟨ih0, ih1⟩ := plane_Inside.mono_l k
  refine ⟨?_, ?_⟩
  ·intro y0 y1 y2 y3
   unfold plane_Inside.j0
   repeat' first
   | (with_reducible exact ih0 _ _ _ _)
   | (with_reducible exact ih1 _ _ _ _ _ _)
   | (with_reducible exact plane_Simple.mono _ _)
   | (with_reducible first | exact LeO.refl _ | exact LeO.none _ | refine LeO.ite ?_ ?_ | refine LeO.bind ?_ (fun _ => ?_))
   | exact ih0 _ _ _ _
   | exact ih1 _ _ _ _ _ _
   | exact plane_Simple.mono _ _
   | exact LeO.none _ | refine LeO.ite ?_ ?_ | refine LeO.bind ?_ (fun _ => ?_)
  ·intro y0 y1 y2 y3 y4 y5
   unfold plane_Inside.l0
   repeat' first
   | (with_reducible exact ih0 _ _ _ _)
   | (with_reducible exact ih1 _ _ _ _ _ _)
   | (with_reducible exact plane_Simple.mono _ _)
   | (with_reducible first | exact LeO.refl _ | exact LeO.none _ | refine LeO.ite ?_ ?_ | refine LeO.bind ?_ (fun _ => ?_))
   | exact ih0 _ _ _ _
   | exact ih1 _ _ _ _ _ _
   | exact plane_Simple.mono _ _
   | exact LeO.none _ | refine LeO.ite ?_ ?_ | refine LeO.bind ?_ (fun _ => ?_)
theorem plane_Inside.mono : ∀ a0 a1 a2 k, LeO (plane_Inside.f k a0 a1 a2) (plane_Inside.f (k + 1) a0 a1 a2) := by
 intro a0 a1 a2 k
 obtain ⟨ih0, ih1⟩ := plane_Inside.mono_l k
 unfold plane_Inside.f
 repeat' first
   | (with_reducible exact ih0 _ _ _ _)
   | (with_reducible exact ih1 _ _ _ _ _ _)
   | (with_reducible exact plane_Simple.mono _ _)
   | (with_reducible first | exact LeO.refl _ | exact LeO.none _ | refine LeO.ite ?_ ?_ | refine LeO.bind ?_ (fun _ => ?_))
   | exact ih0 _ _ _ _
   | exact ih1 _ _ _ _ _ _
   | exact plane_Simple.mono _ _
   | exact LeO.none _ | refine LeO.ite ?_ ?_ | refine LeO.bind ?_ (fun _ => ?_)
set_option maxHeartbeats 8000000 in
set_option maxRecDepth 100000 in
theorem plane_Inside.calls (k : Nat) (A0 : Option Addr) (c0 : Nat) (l0 : List (S31)) (a1_0 : Int) (a1_1 : Int) (r1 : Int) (r2 : Int) (w : World) (hr0 : Kd.C k31 w A0 l0.length l0) (hc0 : l0.length ≤ c0) (h : plane_Inside.f k l0 a1_0 a1_1 = some (r1, r2)) :
  Calls Try.prog 27 #[.slice A0 l0.length c0, .agg #[.int .i64 a1_0, .int .i64 a1_1]] w fun e w' => e = .returned (.tuple #[.int .i64 r1, .int .i64 r2]) ∧ Below w.heap.size w w' := by
 have hu31 := Try.underlying31
 have hu61 := Try.underlying61
 have HR0 := Aside0.mk hr0
 have HC0 := Aside0.mk hc0
 clear hr0 hc0
 have HB := Aside0.mk (Below.refl w.heap.size w)
 have H : ((plane_Simple.f k l0).bind fun t156 => (if t156 = true then ((plane_invalid.f a1_0 a1_1).bind fun t157 => (plane_Inside.j0 k l0 t157 a1_0 a1_1)) else (plane_Inside.j0 k l0 true a1_0 a1_1))) = some (r1, r2) := h
 clear h
 have HC3 := Aside0.mk H
 clear H
 go_enter Try.func27, Try.ntmps27
 go_upto_region 1 with (first | ((with_reducible refine gate_dst (N := 3) rfl ?_); refine bxe 3 #[.int .i64 a1_0, .int .i64 a1_1] 31 ?_; intro gb155 hg w4 hbox hb; have n0_ := Aside0.mk (below_step lB hb); have n1_ := Aside0.mk (hbox); have n2_ := Aside0.mk (lG (w := w) hg); have n3_ := Aside0.mk (lG (w := w) hg); clear HB; have HB := n0_; have BK155 := n1_; have GW155 := n2_; have GE155 := n3_; clear n0_ n1_ n2_ n3_; clear hb hbox hg))
 (try simp only [Act.put, sA, sB, sC])
 go_cut [15] (fun v15 wc => ∃ (kq : Nat) (x15_2 : Bool), v15 = .bool x15_2 ∧ Aside0 (plane_Inside.j0 kq l0 x15_2 a1_0 a1_1 = some (r1, r2)) ∧ Aside0 (kq ≤ k) ∧ Aside0 (wc.heap[gb155]? = some (.cells #[.int .i64 a1_0, .int .i64 a1_1] 31 (0, 0))) ∧ Aside0 (Below w.heap.size w wc))
 case first =>
  have H := HC3.out
  clear HC3
  replace H := Option.bind_eq_some_iff.mp H
  obtain ⟨t156, A50, H⟩ := H
  replace H : (if t156 = true then ((plane_invalid.f a1_0 a1_1).bind fun t157 => (plane_Inside.j0 k l0 t157 a1_0 a1_1)) else (plane_Inside.j0 k l0 true a1_0 a1_1)) = some (r1, r2) := H
  have A5 := Aside0.mk A50
  clear A50
  by_cases c6 : t156 = true
  subst c6
  have H1 : ((plane_invalid.f a1_0 a1_1).bind fun t157 => (plane_Inside.j0 k l0 t157 a1_0 a1_1)) = some (r1, r2) := by rw [if_pos rfl] at H; exact H
  clear H
  have H := H1
  clear H1
  replace H := Option.bind_eq_some_iff.mp H
  obtain ⟨t157, A70, H⟩ := H
  replace H : (plane_Inside.j0 k l0 t157 a1_0 a1_1) = some (r1, r2) := H
  have A7 := Aside0.mk A70
  clear A70
  have H' := Aside0.mk H
  clear H
  rotate_left 1
  replace c6 := Bool.eq_false_iff.mpr c6
  subst c6
  have H1 : (plane_Inside.j0 k l0 true a1_0 a1_1) = some (r1, r2) := by rw [if_neg (show ¬ (false = true) by decide)] at H; exact H
  clear H
  have H := H1
  clear H1
  have H' := Aside0.mk H
  clear H
  all_goals go_wp2_with (first | ((with_reducible refine gate_callee (f := 25) rfl ?_); refine goesL_ (some 10) rfl rfl Try.func25 (by kernel_rfl) rfl #[.slice A0 l0.length c0] rfl (by (try simp only [List.map_toArray, List.map_cons, List.map_nil]); first | done | rfl | (simp only [List.length_drop, List.length_take]; rfl)) ?_; (with_reducible refine (plane_Simple.calls k _ _ l0 false _ ?side1 ?side2 A5.out).mono ?_); (case side1 => repeat (first | exact (Kd.C_below HR0.out HB.out) | (with_reducible refine Kd.C_alloc ?_ _) | (with_reducible refine Kd.C_drewN ?_ _) | (with_reducible refine Kd.C_drew ?_))); (case side2 => exact HC0.out); rintro e wz0 ⟨rfl, hb⟩; refine ⟨_, rfl, ?_⟩; have n0_ := Aside0.mk (blk_below (g := gb155) (o := .cells #[.int .i64 a1_0, .int .i64 a1_1] 31 (0, 0)) (kX BK155.out) hb); have n1_ := Aside0.mk (below_step lB hb); clear BK155; clear HB; have BK155 := n0_; have HB := n1_; clear n0_ n1_; (try clear hb); (try clear hb2); (try clear hk); (try clear hi)) | ((with_reducible refine gate_callee (f := 25) rfl ?_); refine goesL_ (some 10) rfl rfl Try.func25 (by kernel_rfl) rfl #[.slice A0 l0.length c0] rfl (by (try simp only [List.map_toArray, List.map_cons, List.map_nil]); first | done | rfl | (simp only [List.length_drop, List.length_take]; rfl)) ?_; (with_reducible refine (plane_Simple.calls k _ _ l0 true _ ?side1 ?side2 A5.out).mono ?_); (case side1 => repeat (first | exact (Kd.C_below HR0.out HB.out) | (with_reducible refine Kd.C_alloc ?_ _) | (with_reducible refine Kd.C_drewN ?_ _) | (with_reducible refine Kd.C_drew ?_))); (case side2 => exact HC0.out); rintro e wz0 ⟨rfl, hb⟩; refine ⟨_, rfl, ?_⟩; have n0_ := Aside0.mk (blk_below (g := gb155) (o := .cells #[.int .i64 a1_0, .int .i64 a1_1] 31 (0, 0)) (kX BK155.out) hb); have n1_ := Aside0.mk (below_step lB hb); clear BK155; clear HB; have BK155 := n0_; have HB := n1_; clear n0_ n1_; (try clear hb); (try clear hb2); (try clear hk); (try clear hi); have hcz9_0 : wz0.cell? ⟨gb155, 0, none⟩ = some (.int .i64 a1_0) := (blk_cell BK155.out 0).trans rfl; have hcz9_1 : wz0.cell? ⟨gb155, 1, none⟩ = some (.int .i64 a1_1) := (blk_cell BK155.out 1).trans rfl; have hfz9_0 := blk_frozen BK155.out 0; have hfz9_1 := blk_frozen BK155.out 1) | (go_at_call 52; (with_reducible refine (plane_invalid.calls a1_0 a1_1 t157 _ A7.out).mono ?_); rintro e wz1 ⟨rfl, hb⟩; have n0_ := Aside0.mk (blk_below (g := gb155) (o := .cells #[.int .i64 a1_0, .int .i64 a1_1] 31 (0, 0)) (kX BK155.out) hb); have n1_ := Aside0.mk (below_step lB hb); clear BK155; clear HB; have BK155 := n0_; have HB := n1_; clear n0_ n1_; (try clear hb); (try clear hb2); (try clear hk); (try clear hi)))
  all_goals first
    | (go_meet
       case rel => exact ⟨_, (t157), (by first | rfl | (simp; done) | (simp [*]; done)), H', ⟨by first | omega | exact Nat.le_refl _⟩, ⟨by (with_reducible repeat (first | refine kN ?_ _ | refine kD ?_ | refine kA ?_ _)); exact BK155.out⟩, ⟨by repeat (first | (with_reducible first | exact HB.out | apply lA | apply lN | apply lD | refine lS ?_ GE155.out) | exact HB.out)⟩⟩)
    | (go_meet
       case rel => exact ⟨_, (true), (by first | rfl | (simp; done) | (simp [*]; done)), H', ⟨by first | omega | exact Nat.le_refl _⟩, ⟨by (with_reducible repeat (first | refine kN ?_ _ | refine kD ?_ | refine kA ?_ _)); exact BK155.out⟩, ⟨by repeat (first | (with_reducible first | exact HB.out | apply lA | apply lN | apply lD | refine lS ?_ GE155.out) | exact HB.out)⟩⟩)
 case rest =>
  clear HC3
  try clear c2
  try clear p2
  try clear c6
  try clear hcz9_0
  try clear hcz9_1
  try clear hfz9_0
  try clear hfz9_1
  obtain ⟨kq, x15_2, rfl, HA, HJ2, BK155, HB⟩ := hcut
  cases kq with
  | zero => exact absurd HA.out (by simp [plane_Inside.j0])
  | succ kj2 =>
   have H := HA.out
   clear HA
   simp only [plane_Inside.j0] at H
   by_cases c12 : x15_2 = true
   ·subst c12
    have H1 : (some (0, 2)) = some (r1, r2) := by rw [if_pos rfl] at H; exact H
    clear H
    have H := H1
    clear H1
    simp only [Option.some.injEq, Prod.mk.injEq] at H
    obtain ⟨rfl, rfl⟩ := H
    go_wp2
    go_ret2
    exact en
   ·replace c12 := Bool.eq_false_iff.mpr c12
    subst c12
    have H1 : (plane_Inside.l0 kj2 l0 (-1) (l0.length : Int) 0 a1_0 a1_1) = some (r1, r2) := by rw [if_neg (show ¬ (false = true) by decide)] at H; exact H
    clear H
    have H := H1
    clear H1
    have H' := Aside0.mk H
    clear H
    go_wp2
    go_loopg [6, 18] kj2 (fun kq v6 v18 w' => ∃ (x6_2 : Int) (x18_2 : Int), v6 = .int .i64 x6_2 ∧ v18 = .int .i64 x18_2 ∧ Aside0 (plane_Inside.l0 kq l0 x6_2 (l0.length : Int) x18_2 a1_0 a1_1 = some (r1, r2)) ∧ Aside0 (kq ≤ kj2) ∧ Aside0 (w'.heap[gb155]? = some (.cells #[.int .i64 a1_0, .int .i64 a1_1] 31 (0, 0))) ∧ Aside0 (Below w.heap.size w w'))
    case atStart => exact ⟨((-1)), (0), (by first | rfl | (simp; done) | (simp [*]; done)), (by first | rfl | (simp; done) | (simp [*]; done)), H', ⟨Nat.le_refl _⟩, ⟨by (with_reducible repeat (first | refine kN ?_ _ | refine kD ?_ | refine kA ?_ _)); exact BK155.out⟩, ⟨by repeat (first | (with_reducible first | exact HB.out | apply lA | apply lN | apply lD | refine lS ?_ GE155.out) | exact HB.out)⟩⟩
    case round =>
     clear H'
     try clear c1
     try clear c2
     try clear p2
     try clear c6
     try clear c12
     try clear hcz9_0
     try clear hcz9_1
     try clear hfz9_0
     try clear hfz9_1
     try clear p2
     obtain ⟨x6_2, x18_2, rfl, rfl, HA, HK2, BK155, HB⟩ := hrel
     cases gk with
     | zero => exact absurd HA.out (by simp [plane_Inside.l0])
     | succ k2 =>
      have H := HA.out
      clear HA
      simp only [plane_Inside.l0] at H
      by_cases c13 : x18_2 < (l0.length : Int)
      rw [if_pos c13] at H
      have c13b0 : decide (x18_2 < (l0.length : Int)) = true := decide_eq_true c13
      clear c13
      replace H := Option.bind_eq_some_iff.mp H
      obtain ⟨⟨t158, t159, t160, t161⟩, A140, H⟩ := H
      replace H : ((plane_segment_has.f t158 t159 t160 t161 a1_0 a1_1).bind fun t163 => (if t163 = true then (some (0, 0)) else (if t159 > t161 then (if t161 ≤ a1_1 then (if a1_1 < t159 then ((plane_turn.f t160 t161 t158 t159 a1_0 a1_1).bind fun t164 => (if t164 > 0 then (plane_Inside.l0 k2 l0 (wrap64 (-x6_2)) (l0.length : Int) (wrap64 (x18_2 + 1)) a1_0 a1_1) else (plane_Inside.l0 k2 l0 x6_2 (l0.length : Int) (wrap64 (x18_2 + 1)) a1_0 a1_1))) else (plane_Inside.l0 k2 l0 x6_2 (l0.length : Int) (wrap64 (x18_2 + 1)) a1_0 a1_1)) else (plane_Inside.l0 k2 l0 x6_2 (l0.length : Int) (wrap64 (x18_2 + 1)) a1_0 a1_1)) else (if t159 ≤ a1_1 then (if a1_1 < t161 then ((plane_turn.f t158 t159 t160 t161 a1_0 a1_1).bind fun t165 => (if t165 > 0 then (plane_Inside.l0 k2 l0 (wrap64 (-x6_2)) (l0.length : Int) (wrap64 (x18_2 + 1)) a1_0 a1_1) else (plane_Inside.l0 k2 l0 x6_2 (l0.length : Int) (wrap64 (x18_2 + 1)) a1_0 a1_1))) else (plane_Inside.l0 k2 l0 x6_2 (l0.length : Int) (wrap64 (x18_2 + 1)) a1_0 a1_1)) else (plane_Inside.l0 k2 l0 x6_2 (l0.length : Int) (wrap64 (x18_2 + 1)) a1_0 a1_1))))) = some (r1, r2) := H
      have A14 := Aside0.mk A140
      clear A140
      replace H := Option.bind_eq_some_iff.mp H
      obtain ⟨t163, A150, H⟩ := H
      replace H : (if t163 = true then (some (0, 0)) else (if t159 > t161 then (if t161 ≤ a1_1 then (if a1_1 < t159 then ((plane_turn.f t160 t161 t158 t159 a1_0 a1_1).bind fun t164 => (if t164 > 0 then (plane_Inside.l0 k2 l0 (wrap64 (-x6_2)) (l0.length : Int) (wrap64 (x18_2 + 1)) a1_0 a1_1) else (plane_Inside.l0 k2 l0 x6_2 (l0.length : Int) (wrap64 (x18_2 + 1)) a1_0 a1_1))) else (plane_Inside.l0 k2 l0 x6_2 (l0.length : Int) (wrap64 (x18_2 + 1)) a1_0 a1_1)) else (plane_Inside.l0 k2 l0 x6_2 (l0.length : Int) (wrap64 (x18_2 + 1)) a1_0 a1_1)) else (if t159 ≤ a1_1 then (if a1_1 < t161 then ((plane_turn.f t158 t159 t160 t161 a1_0 a1_1).bind fun t165 => (if t165 > 0 then (plane_Inside.l0 k2 l0 (wrap64 (-x6_2)) (l0.length : Int) (wrap64 (x18_2 + 1)) a1_0 a1_1) else (plane_Inside.l0 k2 l0 x6_2 (l0.length : Int) (wrap64 (x18_2 + 1)) a1_0 a1_1))) else (plane_Inside.l0 k2 l0 x6_2 (l0.length : Int) (wrap64 (x18_2 + 1)) a1_0 a1_1)) else (plane_Inside.l0 k2 l0 x6_2 (l0.length : Int) (wrap64 (x18_2 + 1)) a1_0 a1_1)))) = some (r1, r2) := H
      have A15 := Aside0.mk A150
      clear A150
      by_cases c16 : t163 = true
      subst c16
      have H1 : (some (0, 0)) = some (r1, r2) := by rw [if_pos rfl] at H; exact H
      clear H
      have H := H1
      clear H1
      simp only [Option.some.injEq, Prod.mk.injEq] at H
      obtain ⟨rfl, rfl⟩ := H
      rotate_left 1
      replace c16 := Bool.eq_false_iff.mpr c16
      subst c16
      have H1 : (if t159 > t161 then (if t161 ≤ a1_1 then (if a1_1 < t159 then ((plane_turn.f t160 t161 t158 t159 a1_0 a1_1).bind fun t164 => (if t164 > 0 then (plane_Inside.l0 k2 l0 (wrap64 (-x6_2)) (l0.length : Int) (wrap64 (x18_2 + 1)) a1_0 a1_1) else (plane_Inside.l0 k2 l0 x6_2 (l0.length : Int) (wrap64 (x18_2 + 1)) a1_0 a1_1))) else (plane_Inside.l0 k2 l0 x6_2 (l0.length : Int) (wrap64 (x18_2 + 1)) a1_0 a1_1)) else (plane_Inside.l0 k2 l0 x6_2 (l0.length : Int) (wrap64 (x18_2 + 1)) a1_0 a1_1)) else (if t159 ≤ a1_1 then (if a1_1 < t161 then ((plane_turn.f t158 t159 t160 t161 a1_0 a1_1).bind fun t165 => (if t165 > 0 then (plane_Inside.l0 k2 l0 (wrap64 (-x6_2)) (l0.length : Int) (wrap64 (x18_2 + 1)) a1_0 a1_1) else (plane_Inside.l0 k2 l0 x6_2 (l0.length : Int) (wrap64 (x18_2 + 1)) a1_0 a1_1))) else (plane_Inside.l0 k2 l0 x6_2 (l0.length : Int) (wrap64 (x18_2 + 1)) a1_0 a1_1)) else (plane_Inside.l0 k2 l0 x6_2 (l0.length : Int) (wrap64 (x18_2 + 1)) a1_0 a1_1))) = some (r1, r2) := by rw [if_neg (show ¬ (false = true) by decide)] at H; exact H
      clear H
      have H := H1
      clear H1
      by_cases c23 : t159 > t161
      rw [if_pos c23] at H
      have c23b0 : decide (t161 < t159) = true := decide_eq_true c23
      clear c23
      by_cases c24 : t161 ≤ a1_1
      rw [if_pos c24] at H
      have c24b0 : decide (t161 ≤ a1_1) = true := decide_eq_true c24
      clear c24
      by_cases c25 : a1_1 < t159
      rw [if_pos c25] at H
      have c25b0 : decide (a1_1 < t159) = true := decide_eq_true c25
      clear c25
      replace H := Option.bind_eq_some_iff.mp H
      obtain ⟨t164, A260, H⟩ := H
      replace H : (if t164 > 0 then (plane_Inside.l0 k2 l0 (wrap64 (-x6_2)) (l0.length : Int) (wrap64 (x18_2 + 1)) a1_0 a1_1) else (plane_Inside.l0 k2 l0 x6_2 (l0.length : Int) (wrap64 (x18_2 + 1)) a1_0 a1_1)) = some (r1, r2) := H
      have A26 := Aside0.mk A260
      clear A260
      by_cases c27 : t164 > 0
      rw [if_pos c27] at H
      have c27b0 : decide (0 < t164) = true := decide_eq_true c27
      clear c27
      have H' := Aside0.mk H
      clear H
      rotate_left 1
      rw [if_neg c27] at H
      have c27b0 : decide (0 < t164) = false := decide_eq_false c27
      clear c27
      have H' := Aside0.mk H
      clear H
      rotate_left 1
      rw [if_neg c25] at H
      have c25b0 : decide (a1_1 < t159) = false := decide_eq_false c25
      clear c25
      have H' := Aside0.mk H
      clear H
      rotate_left 1
      rw [if_neg c24] at H
      have c24b0 : decide (t161 ≤ a1_1) = false := decide_eq_false c24
      clear c24
      have H' := Aside0.mk H
      clear H
      rotate_left 1
      rw [if_neg c23] at H
      have c23b0 : decide (t161 < t159) = false := decide_eq_false c23
      clear c23
      by_cases c62 : t159 ≤ a1_1
      rw [if_pos c62] at H
      have c62b0 : decide (t159 ≤ a1_1) = true := decide_eq_true c62
      clear c62
      by_cases c63 : a1_1 < t161
      rw [if_pos c63] at H
      have c63b0 : decide (a1_1 < t161) = true := decide_eq_true c63
      clear c63
      replace H := Option.bind_eq_some_iff.mp H
      obtain ⟨t165, A640, H⟩ := H
      replace H : (if t165 > 0 then (plane_Inside.l0 k2 l0 (wrap64 (-x6_2)) (l0.length : Int) (wrap64 (x18_2 + 1)) a1_0 a1_1) else (plane_Inside.l0 k2 l0 x6_2 (l0.length : Int) (wrap64 (x18_2 + 1)) a1_0 a1_1)) = some (r1, r2) := H
      have A64 := Aside0.mk A640
      clear A640
      by_cases c65 : t165 > 0
      rw [if_pos c65] at H
      have c65b0 : decide (0 < t165) = true := decide_eq_true c65
      clear c65
      have H' := Aside0.mk H
      clear H
      rotate_left 1
      rw [if_neg c65] at H
      have c65b0 : decide (0 < t165) = false := decide_eq_false c65
      clear c65
      have H' := Aside0.mk H
      clear H
      rotate_left 1
      rw [if_neg c63] at H
      have c63b0 : decide (a1_1 < t161) = false := decide_eq_false c63
      clear c63
      have H' := Aside0.mk H
      clear H
      rotate_left 1
      rw [if_neg c62] at H
      have c62b0 : decide (t159 ≤ a1_1) = false := decide_eq_false c62
      clear c62
      have H' := Aside0.mk H
      clear H
      rotate_left 1
      rw [if_neg c13] at H
      have c13b0 : decide (x18_2 < (l0.length : Int)) = false := decide_eq_false c13
      clear c13
      simp only [Option.some.injEq, Prod.mk.injEq] at H
      obtain ⟨rfl, rfl⟩ := H
      all_goals go_wp2_with (first | ((with_reducible refine gate_callee (f := 56) rfl ?_); refine goesL_ (some 23) rfl rfl Try.func56 (by kernel_rfl) rfl #[.slice A0 l0.length c0, .int .i64 x18_2] rfl (by (try simp only [List.map_toArray, List.map_cons, List.map_nil]); first | done | rfl | (simp only [List.length_drop, List.length_take]; rfl)) ?_; (with_reducible refine (plane_edge.calls _ _ l0 x18_2 t158 t159 t160 t161 _ ?side1 ?side2 A14.out).mono ?_); (case side1 => repeat (first | exact (Kd.C_below HR0.out HB.out) | (with_reducible refine Kd.C_alloc ?_ _) | (with_reducible refine Kd.C_drewN ?_ _) | (with_reducible refine Kd.C_drew ?_))); (case side2 => exact HC0.out); rintro e wz0 ⟨rfl, hb⟩; refine ⟨_, rfl, ?_⟩; have n0_ := Aside0.mk (blk_below (g := gb155) (o := .cells #[.int .i64 a1_0, .int .i64 a1_1] 31 (0, 0)) (kX BK155.out) hb); have n1_ := Aside0.mk (below_step lB hb); clear BK155; clear HB; have BK155 := n0_; have HB := n1_; clear n0_ n1_; (try clear hb); (try clear hb2); (try clear hk); (try clear hi)) | ((with_reducible refine gate_dst (N := 8) rfl ?_); refine bxe 8 #[.int .i64 0, .int .i64 0, .int .i64 0, .int .i64 0] 61 ?_; intro gb162 hg wz1 hbox hb; have n0_ := Aside0.mk (blk_below (g := gb155) (o := .cells #[.int .i64 a1_0, .int .i64 a1_1] 31 (0, 0)) (kX BK155.out) hb); have n1_ := Aside0.mk (below_step lB hb); have n2_ := Aside0.mk (hbox); have n3_ := Aside0.mk (lG (w := w) hg); have n4_ := Aside0.mk (lG (w := w) hg); have n5_ := Aside0.mk ((by rw [hg]; exact Nat.ne_of_lt (blk_lt (g := gb155) (o := .cells #[.int .i64 a1_0, .int .i64 a1_1] 31 (0, 0)) (kX BK155.out)) : gb155 ≠ gb162)); have n6_ := Aside0.mk ((by rw [hg]; exact Nat.ne_of_gt (blk_lt (g := gb155) (o := .cells #[.int .i64 a1_0, .int .i64 a1_1] 31 (0, 0)) (kX BK155.out)) : gb162 ≠ gb155)); clear BK155; clear HB; have BK155 := n0_; have HB := n1_; have BK162 := n2_; have GW162 := n3_; have GE162 := n4_; have NB155_162 := n5_; have NB162_155 := n6_; clear n0_ n1_ n2_ n3_ n4_ n5_ n6_; clear hb hbox hg; have hnb19 := NB162_155.out; have hnc19 := NB155_162.out; have hcz20_0 : wz1.cell? ⟨gb162, 0, none⟩ = some (.int .i64 0) := (blk_cell BK162.out 0).trans rfl; have hcz20_1 : wz1.cell? ⟨gb162, 1, none⟩ = some (.int .i64 0) := (blk_cell BK162.out 1).trans rfl; have hcz20_2 : wz1.cell? ⟨gb162, 2, none⟩ = some (.int .i64 0) := (blk_cell BK162.out 2).trans rfl; have hcz20_3 : wz1.cell? ⟨gb162, 3, none⟩ = some (.int .i64 0) := (blk_cell BK162.out 3).trans rfl; have hfz20_0 := blk_frozen BK162.out 0; have hfz20_1 := blk_frozen BK162.out 1; have hfz20_2 := blk_frozen BK162.out 2; have hfz20_3 := blk_frozen BK162.out 3; have hcz21_0 : wz1.cell? ⟨gb155, 0, none⟩ = some (.int .i64 a1_0) := (blk_cell BK155.out 0).trans rfl; have hcz21_1 : wz1.cell? ⟨gb155, 1, none⟩ = some (.int .i64 a1_1) := (blk_cell BK155.out 1).trans rfl; have hfz21_0 := blk_frozen BK155.out 0; have hfz21_1 := blk_frozen BK155.out 1) | ((with_reducible refine gate_callee (f := 57) rfl ?_); refine goesL_ (some 26) rfl rfl Try.func57 (by kernel_rfl) rfl #[.agg #[.int .i64 t158, .int .i64 t159, .int .i64 t160, .int .i64 t161], .agg #[.int .i64 a1_0, .int .i64 a1_1]] rfl (by (try simp only [List.map_toArray, List.map_cons, List.map_nil]); first | done | rfl | (simp only [List.length_drop, List.length_take]; rfl)) ?_; (with_reducible refine (plane_segment_has.calls t158 t159 t160 t161 a1_0 a1_1 false _ A15.out).mono ?_); rintro e wz2 ⟨rfl, hb⟩; refine ⟨_, rfl, ?_⟩; have n0_ := Aside0.mk (blk_below (g := gb155) (o := .cells #[.int .i64 a1_0, .int .i64 a1_1] 31 (0, 0)) (by (with_reducible repeat (first | refine kN ?_ _ | refine kD ?_ | refine kA ?_ _)); refine blk_far ?_ NB155_162.out _; (with_reducible repeat (first | refine kN ?_ _ | refine kD ?_ | refine kA ?_ _)); refine blk_far ?_ NB155_162.out _; (with_reducible repeat (first | refine kN ?_ _ | refine kD ?_ | refine kA ?_ _)); refine blk_far ?_ NB155_162.out _; (with_reducible repeat (first | refine kN ?_ _ | refine kD ?_ | refine kA ?_ _)); refine blk_far ?_ NB155_162.out _; (with_reducible repeat (first | refine kN ?_ _ | refine kD ?_ | refine kA ?_ _)); exact BK155.out) hb); have n1_ := Aside0.mk (blk_below (g := gb162) (o := .cells #[.int .i64 t158, .int .i64 t159, .int .i64 t160, .int .i64 t161] 61 (0, 0)) (by (with_reducible repeat (first | refine kN ?_ _ | refine kD ?_ | refine kA ?_ _)); refine blk_put (cs := #[.int .i64 t158, .int .i64 t159, .int .i64 t160, .int .i64 0]) ?_ 3 _ rfl; (with_reducible repeat (first | refine kN ?_ _ | refine kD ?_ | refine kA ?_ _)); refine blk_put (cs := #[.int .i64 t158, .int .i64 t159, .int .i64 0, .int .i64 0]) ?_ 2 _ rfl; (with_reducible repeat (first | refine kN ?_ _ | refine kD ?_ | refine kA ?_ _)); refine blk_put (cs := #[.int .i64 t158, .int .i64 0, .int .i64 0, .int .i64 0]) ?_ 1 _ rfl; (with_reducible repeat (first | refine kN ?_ _ | refine kD ?_ | refine kA ?_ _)); refine blk_put (cs := #[.int .i64 0, .int .i64 0, .int .i64 0, .int .i64 0]) ?_ 0 _ rfl; (with_reducible repeat (first | refine kN ?_ _ | refine kD ?_ | refine kA ?_ _)); exact BK162.out) hb); have n2_ := Aside0.mk (below_step lB hb); clear BK155; clear BK162; clear HB; have BK155 := n0_; have BK162 := n1_; have HB := n2_; clear n0_ n1_ n2_; (try clear hb); (try clear hb2); (try clear hk); (try clear hi); have hcz34_0 : wz2.cell? ⟨gb162, 0, none⟩ = some (.int .i64 t158) := (blk_cell BK162.out 0).trans rfl; have hcz34_1 : wz2.cell? ⟨gb162, 1, none⟩ = some (.int .i64 t159) := (blk_cell BK162.out 1).trans rfl; have hcz34_2 : wz2.cell? ⟨gb162, 2, none⟩ = some (.int .i64 t160) := (blk_cell BK162.out 2).trans rfl; have hcz34_3 : wz2.cell? ⟨gb162, 3, none⟩ = some (.int .i64 t161) := (blk_cell BK162.out 3).trans rfl; have hfz34_0 := blk_frozen BK162.out 0; have hfz34_1 := blk_frozen BK162.out 1; have hfz34_2 := blk_frozen BK162.out 2; have hfz34_3 := blk_frozen BK162.out 3; have hcz35_0 : wz2.cell? ⟨gb155, 0, none⟩ = some (.int .i64 a1_0) := (blk_cell BK155.out 0).trans rfl; have hcz35_1 : wz2.cell? ⟨gb155, 1, none⟩ = some (.int .i64 a1_1) := (blk_cell BK155.out 1).trans rfl; have hfz35_0 := blk_frozen BK155.out 0; have hfz35_1 := blk_frozen BK155.out 1) | (go_at_call 61; (with_reducible refine (plane_turn.calls t158 t159 t160 t161 a1_0 a1_1 t165 _ A64.out).mono ?_); rintro e wz3 ⟨rfl, hb⟩; have n0_ := Aside0.mk (blk_below (g := gb155) (o := .cells #[.int .i64 a1_0, .int .i64 a1_1] 31 (0, 0)) (kX BK155.out) hb); have n1_ := Aside0.mk (blk_below (g := gb162) (o := .cells #[.int .i64 t158, .int .i64 t159, .int .i64 t160, .int .i64 t161] 61 (0, 0)) (kX BK162.out) hb); have n2_ := Aside0.mk (below_step lB hb); clear BK155; clear BK162; clear HB; have BK155 := n0_; have BK162 := n1_; have HB := n2_; clear n0_ n1_ n2_; (try clear hb); (try clear hb2); (try clear hk); (try clear hi)) | (go_at_call 61; (with_reducible refine (plane_turn.calls t160 t161 t158 t159 a1_0 a1_1 t164 _ A26.out).mono ?_); rintro e wz3 ⟨rfl, hb⟩; have n0_ := Aside0.mk (blk_below (g := gb155) (o := .cells #[.int .i64 a1_0, .int .i64 a1_1] 31 (0, 0)) (by (with_reducible repeat (first | refine kN ?_ _ | refine kD ?_ | refine kA ?_ _)); refine blk_far ?_ NB155_162.out _; (with_reducible repeat (first | refine kN ?_ _ | refine kD ?_ | refine kA ?_ _)); refine blk_far ?_ NB155_162.out _; (with_reducible repeat (first | refine kN ?_ _ | refine kD ?_ | refine kA ?_ _)); refine blk_far ?_ NB155_162.out _; (with_reducible repeat (first | refine kN ?_ _ | refine kD ?_ | refine kA ?_ _)); refine blk_far ?_ NB155_162.out _; (with_reducible repeat (first | refine kN ?_ _ | refine kD ?_ | refine kA ?_ _)); exact BK155.out) hb); have n1_ := Aside0.mk (blk_below (g := gb162) (o := .cells #[.int .i64 t160, .int .i64 t161, .int .i64 t158, .int .i64 t159] 61 (0, 0)) (by (with_reducible repeat (first | refine kN ?_ _ | refine kD ?_ | refine kA ?_ _)); refine blk_put (cs := #[.int .i64 t160, .int .i64 t161, .int .i64 t158, .int .i64 t161]) ?_ 3 _ rfl; (with_reducible repeat (first | refine kN ?_ _ | refine kD ?_ | refine kA ?_ _)); refine blk_put (cs := #[.int .i64 t160, .int .i64 t161, .int .i64 t160, .int .i64 t161]) ?_ 2 _ rfl; (with_reducible repeat (first | refine kN ?_ _ | refine kD ?_ | refine kA ?_ _)); refine blk_put (cs := #[.int .i64 t160, .int .i64 t159, .int .i64 t160, .int .i64 t161]) ?_ 1 _ rfl; (with_reducible repeat (first | refine kN ?_ _ | refine kD ?_ | refine kA ?_ _)); refine blk_put (cs := #[.int .i64 t158, .int .i64 t159, .int .i64 t160, .int .i64 t161]) ?_ 0 _ rfl; (with_reducible repeat (first | refine kN ?_ _ | refine kD ?_ | refine kA ?_ _)); exact BK162.out) hb); have n2_ := Aside0.mk (below_step lB hb); clear BK155; clear BK162; clear HB; have BK155 := n0_; have BK162 := n1_; have HB := n2_; clear n0_ n1_ n2_; (try clear hb); (try clear hb2); (try clear hk); (try clear hi)) | ((with_reducible refine gate_callee (f := 57) rfl ?_); refine goesL_ (some 26) rfl rfl Try.func57 (by kernel_rfl) rfl #[.agg #[.int .i64 t158, .int .i64 t159, .int .i64 t160, .int .i64 t161], .agg #[.int .i64 a1_0, .int .i64 a1_1]] rfl (by (try simp only [List.map_toArray, List.map_cons, List.map_nil]); first | done | rfl | (simp only [List.length_drop, List.length_take]; rfl)) ?_; (with_reducible refine (plane_segment_has.calls t158 t159 t160 t161 a1_0 a1_1 true _ A15.out).mono ?_); rintro e wz2 ⟨rfl, hb⟩; refine ⟨_, rfl, ?_⟩; have n0_ := Aside0.mk (blk_below (g := gb155) (o := .cells #[.int .i64 a1_0, .int .i64 a1_1] 31 (0, 0)) (by (with_reducible repeat (first | refine kN ?_ _ | refine kD ?_ | refine kA ?_ _)); refine blk_far ?_ NB155_162.out _; (with_reducible repeat (first | refine kN ?_ _ | refine kD ?_ | refine kA ?_ _)); refine blk_far ?_ NB155_162.out _; (with_reducible repeat (first | refine kN ?_ _ | refine kD ?_ | refine kA ?_ _)); refine blk_far ?_ NB155_162.out _; (with_reducible repeat (first | refine kN ?_ _ | refine kD ?_ | refine kA ?_ _)); refine blk_far ?_ NB155_162.out _; (with_reducible repeat (first | refine kN ?_ _ | refine kD ?_ | refine kA ?_ _)); exact BK155.out) hb); have n1_ := Aside0.mk (blk_below (g := gb162) (o := .cells #[.int .i64 t158, .int .i64 t159, .int .i64 t160, .int .i64 t161] 61 (0, 0)) (by (with_reducible repeat (first | refine kN ?_ _ | refine kD ?_ | refine kA ?_ _)); refine blk_put (cs := #[.int .i64 t158, .int .i64 t159, .int .i64 t160, .int .i64 0]) ?_ 3 _ rfl; (with_reducible repeat (first | refine kN ?_ _ | refine kD ?_ | refine kA ?_ _)); refine blk_put (cs := #[.int .i64 t158, .int .i64 t159, .int .i64 0, .int .i64 0]) ?_ 2 _ rfl; (with_reducible repeat (first | refine kN ?_ _ | refine kD ?_ | refine kA ?_ _)); refine blk_put (cs := #[.int .i64 t158, .int .i64 0, .int .i64 0, .int .i64 0]) ?_ 1 _ rfl; (with_reducible repeat (first | refine kN ?_ _ | refine kD ?_ | refine kA ?_ _)); refine blk_put (cs := #[.int .i64 0, .int .i64 0, .int .i64 0, .int .i64 0]) ?_ 0 _ rfl; (with_reducible repeat (first | refine kN ?_ _ | refine kD ?_ | refine kA ?_ _)); exact BK162.out) hb); have n2_ := Aside0.mk (below_step lB hb); clear BK155; clear BK162; clear HB; have BK155 := n0_; have BK162 := n1_; have HB := n2_; clear n0_ n1_ n2_; (try clear hb); (try clear hb2); (try clear hk); (try clear hi)))
      all_goals first
        | (go_ret2
           exact en)
        | (go_roundg k2
           case measure => have := HJ2.out; have := HK2.out; omega
           case rel => exact ⟨(wrap64 (-x6_2)), (wrap64 (x18_2 + 1)), (by first | rfl | (simp; done) | (simp [*]; done)), (by first | rfl | (simp; done) | (simp [*]; done)), H', ⟨by have := HJ2.out; have := HK2.out; omega⟩, ⟨by (with_reducible repeat (first | refine kN ?_ _ | refine kD ?_ | refine kA ?_ _)); exact BK155.out⟩, ⟨by repeat (first | (with_reducible first | exact HB.out | apply lA | apply lN | apply lD | refine lS ?_ GE155.out | refine lS ?_ GE162.out) | exact HB.out)⟩⟩)
        | (go_roundg k2
           case measure => have := HJ2.out; have := HK2.out; omega
           case rel => exact ⟨(x6_2), (wrap64 (x18_2 + 1)), (by first | rfl | (simp; done) | (simp [*]; done)), (by first | rfl | (simp; done) | (simp [*]; done)), H', ⟨by have := HJ2.out; have := HK2.out; omega⟩, ⟨by (with_reducible repeat (first | refine kN ?_ _ | refine kD ?_ | refine kA ?_ _)); exact BK155.out⟩, ⟨by repeat (first | (with_reducible first | exact HB.out | apply lA | apply lN | apply lD | refine lS ?_ GE155.out | refine lS ?_ GE162.out) | exact HB.out)⟩⟩)
        | (go_roundg k2
           case measure => have := HJ2.out; have := HK2.out; omega
           case rel => exact ⟨(x6_2), (wrap64 (x18_2 + 1)), (by first | rfl | (simp; done) | (simp [*]; done)), (by first | rfl | (simp; done) | (simp [*]; done)), H', ⟨by have := HJ2.out; have := HK2.out; omega⟩, ⟨by (with_reducible repeat (first | refine kN ?_ _ | refine kD ?_ | refine kA ?_ _)); refine blk_far ?_ NB155_162.out _; (with_reducible repeat (first | refine kN ?_ _ | refine kD ?_ | refine kA ?_ _)); refine blk_far ?_ NB155_162.out _; (with_reducible repeat (first | refine kN ?_ _ | refine kD ?_ | refine kA ?_ _)); refine blk_far ?_ NB155_162.out _; (with_reducible repeat (first | refine kN ?_ _ | refine kD ?_ | refine kA ?_ _)); refine blk_far ?_ NB155_162.out _; (with_reducible repeat (first | refine kN ?_ _ | refine kD ?_ | refine kA ?_ _)); exact BK155.out⟩, ⟨by repeat (first | (with_reducible first | exact HB.out | apply lA | apply lN | apply lD | refine lS ?_ GE155.out | refine lS ?_ GE162.out) | exact HB.out)⟩⟩)
        | (go_ret2
           exact en)


def cmp_Or_int.l0 : Nat → Int → List Int → Int → Int → Option (Int)
 | 0, _, _, _, _ => none
 | k + 1, x3, x6, x7, x8 => if x8 < x7 then (if 0 ≤ x8 then (if x8 < (x6.length : Int) then (if (rd x6 x8) = x3 then (cmp_Or_int.l0 k x3 x6 x7 (wrap64 (x8 + 1))) else (some (rd x6 x8))) else (none)) else (none)) else (some x3)
def cmp_Or_int.f (k : Nat) (l0 : List Int) : Option (Int) := cmp_Or_int.l0 k 0 l0 (l0.length : Int) 0
theorem cmp_Or_int.mono_l : ∀ k, (∀ y0 y1 y2 y3, LeO (cmp_Or_int.l0 k y0 y1 y2 y3) (cmp_Or_int.l0 (k + 1) y0 y1 y2 y3))
 | 0 => fun _ _ _ _ r h => by simp [cmp_Or_int.l0] at h
 | k + 1 => by
  have ih0 := cmp_Or_int.mono_l k
  ·intro y0 y1 y2 y3
   unfold cmp_Or_int.l0
   repeat' first
   | (with_reducible exact ih0 _ _ _ _)
   | (with_reducible first | exact LeO.refl _ | exact LeO.none _ | refine LeO.ite ?_ ?_ | refine LeO.bind ?_ (fun _ => ?_))
   | exact ih0 _ _ _ _
   | exact LeO.none _ | refine LeO.ite ?_ ?_ | refine LeO.bind ?_ (fun _ => ?_)
theorem cmp_Or_int.mono : ∀ a0 k, LeO (cmp_Or_int.f k a0) (cmp_Or_int.f (k + 1) a0) := by
 intro a0 k
 have ih0 := cmp_Or_int.mono_l k
 unfold cmp_Or_int.f
 repeat' first
   | (with_reducible exact ih0 _ _ _ _)
   | (with_reducible first | exact LeO.refl _ | exact LeO.none _ | refine LeO.ite ?_ ?_ | refine LeO.bind ?_ (fun _ => ?_))
   | exact ih0 _ _ _ _
   | exact LeO.none _ | refine LeO.ite ?_ ?_ | refine LeO.bind ?_ (fun _ => ?_)
set_option maxHeartbeats 8000000 in
set_option maxRecDepth 100000 in
theorem cmp_Or_int.calls (k : Nat) (A0 : Option Addr) (c0 : Nat) (l0 : List Int) (r : Int) (w : World) (hr0 : Kd.C (Kd.int .i64) w A0 l0.length l0) (hc0 : l0.length ≤ c0) (h : cmp_Or_int.f k l0 = some r) :
  Calls Try.prog 92 #[.slice A0 l0.length c0] w fun e w' => e = .returned (.int .i64 r) ∧ Drawn0 w w' := by
 have HR0 := Aside0.mk hr0
 have HC0 := Aside0.mk hc0
 clear hr0 hc0
 have H : (cmp_Or_int.l0 k 0 l0 (l0.length : Int) 0) = some r := h
 clear h
 have H' := Aside0.mk H
 clear H
 go_enter Try.func92, Try.ntmps92
 go_wp2
 go_loopg [8] k (fun kq v8 w' => ∃ (x8_1 : Int), v8 = .int .i64 x8_1 ∧ Aside0 (cmp_Or_int.l0 kq 0 l0 (l0.length : Int) x8_1 = some r) ∧ Aside0 (kq ≤ k) ∧ Drawn0 w w')
 case atStart => exact ⟨(0), (by first | rfl | (simp; done) | (simp [*]; done)), H', ⟨Nat.le_refl _⟩, by repeat (first | exact Drawn0.refl _ | apply Drawn0.step)⟩
 case round =>
  clear H'
  obtain ⟨x8_1, rfl, HA, HK1, ⟨m1, rfl⟩⟩ := hrel
  cases gk with
  | zero => exact absurd HA.out (by simp [cmp_Or_int.l0])
  | succ k1 =>
   have H := HA.out
   clear HA
   simp only [cmp_Or_int.l0] at H
   by_cases c2 : x8_1 < (l0.length : Int)
   ·rw [if_pos c2] at H
    have c2b0 : decide (x8_1 < (l0.length : Int)) = true := decide_eq_true c2
    clear c2
    by_cases c3 : 0 ≤ x8_1
    ·rw [if_pos c3] at H
     have c3b0 : decide (0 ≤ x8_1) = true := decide_eq_true c3
     clear c3
     by_cases c4 : x8_1 < (l0.length : Int)
     ·rw [if_pos c4] at H
      have c4b0 : decide (x8_1 < (l0.length : Int)) = true := decide_eq_true c4
      clear c4
      by_cases c5 : (rd l0 x8_1) = 0
      ·rw [if_pos c5] at H
       have c5b0 : ((rd l0 x8_1) == 0) = true := beq_iff_eq.mpr c5
       have c5b1 : ((rd l0 x8_1) != 0) = false := bne_eq_false_iff_eq.mpr c5
       clear c5
       have H' := Aside0.mk H
       clear H
       have p719 : 0 ≤ (x8_1 : Int) := of_decide_eq_true (by first | (with_reducible assumption) | assumption)
       have q719 : x8_1 < (l0.length : Int) := of_decide_eq_true (by first | (with_reducible assumption) | assumption)
       obtain ⟨ad719, e719, hx719_0⟩ := Kd.at_int HR0.out x8_1 p719 q719
       cases e719
       replace p719 := eq_true p719
       replace q719 := eq_true q719
       go_wp2
       go_roundg k1
       case measure => have := HK1.out; omega
       case rel => exact ⟨(wrap64 (x8_1 + 1)), (by first | rfl | (simp; done) | (simp [*]; done)), H', ⟨by have := HK1.out; omega⟩, by repeat (first | exact Drawn0.refl _ | apply Drawn0.step)⟩
      ·rw [if_neg c5] at H
       have c5b0 : ((rd l0 x8_1) == 0) = false := beq_eq_false_iff_ne.mpr c5
       have c5b1 : ((rd l0 x8_1) != 0) = true := bne_iff_ne.mpr c5
       obtain rfl := Option.some.inj H
       have p719 : 0 ≤ (x8_1 : Int) := of_decide_eq_true (by first | (with_reducible assumption) | assumption)
       have q719 : x8_1 < (l0.length : Int) := of_decide_eq_true (by first | (with_reducible assumption) | assumption)
       obtain ⟨ad719, e719, hx719_0⟩ := Kd.at_int HR0.out x8_1 p719 q719
       cases e719
       replace p719 := eq_true p719
       replace q719 := eq_true q719
       go_wp2
       go_ret
       exact ⟨by first | rfl | (simp; done) | (simp [*]; done), by repeat (first | exact Drawn0.refl _ | apply Drawn0.step)⟩
     ·rw [if_neg c4] at H
      exact absurd H (by simp)
    ·rw [if_neg c3] at H
     exact absurd H (by simp)
   ·rw [if_neg c2] at H
    have c2b0 : decide (x8_1 < (l0.length : Int)) = false := decide_eq_false c2
    clear c2
    obtain rfl := Option.some.inj H
    go_wp2
    go_ret
    exact ⟨by first | rfl | (simp; done) | (simp [*]; done), by repeat (first | exact Drawn0.refl _ | apply Drawn0.step)⟩


def plane_order.f (k : Nat) (a0_0 : Int) (a0_1 : Int) (a1_0 : Int) (a1_1 : Int) : Option (Int) := (cmp_Compare_int.f a0_0 a1_0).bind fun t722 => ((cmp_Compare_int.f a0_1 a1_1).bind fun t723 => ((cmp_Or_int.f k (([t722, t723] : List Int))).bind fun t727 => (some t727)))
theorem plane_order.mono : ∀ a0 a1 a2 a3 k, LeO (plane_order.f k a0 a1 a2 a3) (plane_order.f (k + 1) a0 a1 a2 a3) := by
 intro a0 a1 a2 a3 k
 unfold plane_order.f
 repeat' first
   | (with_reducible exact cmp_Or_int.mono _ _)
   | (with_reducible first | exact LeO.refl _ | exact LeO.none _ | refine LeO.ite ?_ ?_ | refine LeO.bind ?_ (fun _ => ?_))
   | exact cmp_Or_int.mono _ _
   | exact LeO.none _ | refine LeO.ite ?_ ?_ | refine LeO.bind ?_ (fun _ => ?_)
def plane_order.T1 : Bool × List (List Nat × List Nat) := (true, [([], []), ([0], [0]), ([], []), ([2], [2]), ([1, 3], [1, 3]), ([], []), ([5], [5]), ([], []), ([7], [7]), ([6, 8, 4], [6, 8]), ([4, 9], [4, 9]), ([10, 9], [10]), ([11, 11, 0, 1, 2, 3, 4, 5, 6, 7, 8, 9, 10, 11], [11])])
def plane_order.B1 : List Nat := [0, 1, 0, 4, 15, 0, 32, 0, 128, 511, 1023, 2047, 4095]
theorem plane_order.tab1 : rtab .any (opsOf Try.f75 1) = plane_order.T1 := by kernel_rfl
theorem plane_order.bits1 : waitsOk plane_order.T1.2 plane_order.B1 = true := by kernel_rfl
set_option maxHeartbeats 8000000 in
set_option maxRecDepth 100000 in
theorem plane_order.calls (k : Nat) (a0_0 : Int) (a0_1 : Int) (a1_0 : Int) (a1_1 : Int) (r : Int) (w : World) (h : plane_order.f k a0_0 a0_1 a1_0 a1_1 = some r) :
  Calls Try.prog 75 #[.agg #[.int .i64 a0_0, .int .i64 a0_1], .agg #[.int .i64 a1_0, .int .i64 a1_1]] w fun e w' => e = .returned (.int .i64 r) ∧ Below w.heap.size w w' := by
 have hu31 := Try.underlying31
 have HB := Aside0.mk (Below.refl w.heap.size w)
 have H : ((cmp_Compare_int.f a0_0 a1_0).bind fun t722 => ((cmp_Compare_int.f a0_1 a1_1).bind fun t723 => ((cmp_Or_int.f k (([t722, t723] : List Int))).bind fun t727 => (some t727)))) = some r := h
 clear h
 replace H := Option.bind_eq_some_iff.mp H
 obtain ⟨t722, A30, H⟩ := H
 replace H : ((cmp_Compare_int.f a0_1 a1_1).bind fun t723 => ((cmp_Or_int.f k (([t722, t723] : List Int))).bind fun t727 => (some t727))) = some r := H
 have A3 := Aside0.mk A30
 clear A30
 replace H := Option.bind_eq_some_iff.mp H
 obtain ⟨t723, A40, H⟩ := H
 replace H : ((cmp_Or_int.f k (([t722, t723] : List Int))).bind fun t727 => (some t727)) = some r := H
 have A4 := Aside0.mk A40
 clear A40
 obtain ⟨y724, hy724⟩ : ∃ y_ : List Int, y_ = (([t722, t723] : List Int)) := ⟨_, rfl⟩
 replace H : ((cmp_Or_int.f k y724).bind fun t727 => (some t727)) = some r := by first | (rw [hy724]; with_reducible exact H) | (have H2_ := (Option.bind_some _ _).symm.trans H; rw [hy724]; with_reducible exact H2_) | (have H2_ := (Option.bind_some _ _).symm.trans H; with_reducible exact H2_) | with_reducible exact H | (rw [hy724]; exact H) | exact H
 have Ny724 := Aside0.mk hy724
 clear hy724
 replace H := Option.bind_eq_some_iff.mp H
 obtain ⟨t727, A50, H⟩ := H
 replace H : (some t727) = some r := H
 have A5 := Aside0.mk A50
 clear A50
 obtain rfl := Option.some.inj H
 go_enter Try.func75, Try.ntmps75
 try go_wp2_with (first | ((with_reducible refine gate_dst (N := 2) rfl ?_); refine bxe 2 #[.int .i64 a0_0, .int .i64 a0_1] 31 ?_; intro gb720 hg w6 hbox hb; have n0_ := Aside0.mk (below_step lB hb); have n1_ := Aside0.mk (hbox); have n2_ := Aside0.mk (lG (w := w) hg); have n3_ := Aside0.mk (lG (w := w) hg); clear HB; have HB := n0_; have BK720 := n1_; have GW720 := n2_; have GE720 := n3_; clear n0_ n1_ n2_ n3_; clear hb hbox hg) | ((with_reducible refine gate_dst (N := 3) rfl ?_); refine bxe 3 #[.int .i64 a1_0, .int .i64 a1_1] 31 ?_; intro gb721 hg w7 hbox hb; have n0_ := Aside0.mk (blk_below (g := gb720) (o := .cells #[.int .i64 a0_0, .int .i64 a0_1] 31 (0, 0)) (kX BK720.out) hb); have n1_ := Aside0.mk (below_step lB hb); have n2_ := Aside0.mk (hbox); have n3_ := Aside0.mk (lG (w := w) hg); have n4_ := Aside0.mk (lG (w := w) hg); have n5_ := Aside0.mk ((by rw [hg]; exact Nat.ne_of_lt (blk_lt (g := gb720) (o := .cells #[.int .i64 a0_0, .int .i64 a0_1] 31 (0, 0)) (kX BK720.out)) : gb720 ≠ gb721)); have n6_ := Aside0.mk ((by rw [hg]; exact Nat.ne_of_gt (blk_lt (g := gb720) (o := .cells #[.int .i64 a0_0, .int .i64 a0_1] 31 (0, 0)) (kX BK720.out)) : gb721 ≠ gb720)); clear BK720; clear HB; have BK720 := n0_; have HB := n1_; have BK721 := n2_; have GW721 := n3_; have GE721 := n4_; have NB720_721 := n5_; have NB721_720 := n6_; clear n0_ n1_ n2_ n3_ n4_ n5_ n6_; clear hb hbox hg))
 replace BK720 := Aside0.mk (kD BK720.out)
 replace BK721 := Aside0.mk (kD BK721.out)
 replace HB := Aside0.mk (lD HB.out)
 refine start_ (n := 13) (S := fun w' => w'.cell? ⟨gb720, 0, none⟩ = some (.int .i64 a0_0) ∧ w'.cell? ⟨gb720, 1, none⟩ = some (.int .i64 a0_1) ∧ w'.cell? ⟨gb721, 0, none⟩ = some (.int .i64 a1_0) ∧ w'.cell? ⟨gb721, 1, none⟩ = some (.int .i64 a1_1)) (ds := []) (Bs 0 13) (by kernel_rfl) rfl rfl ⟨(blk_cell BK720.out 0).trans rfl, (blk_cell BK720.out 1).trans rfl, (blk_cell BK721.out 0).trans rfl, (blk_cell BK721.out 1).trans rfl⟩ (fun hHeld => ?_); refine with_tabW plane_order.tab1 plane_order.bits1 (fun HT_ HW_ => ?_)
 generalize w7.drew = w8 at BK720 BK721 HB hHeld ⊢
 refine pu 0 5 (Bs 1 13) HT_ ?_
 refine pu 2 7 (Br [1,1,1,10]) HT_ ?_
 refine pu 5 10 (Br [1,1,1,2,1,7]) HT_ ?_
 refine pu 7 12 (Br [1,1,1,2,1,1,1,5]) HT_ ?_
 refine ta 1 6 (Br [3,2,1,1,1,5]) HT_ HW_ hHeld ?_
 refine ta 3 8 (Br [4,1,1,1,1,5]) HT_ HW_ hHeld ?_
 refine ta 6 11 (Br [4,1,3,5]) HT_ HW_ hHeld ?_
 refine ta 8 13 (Br [4,1,4,4]) HT_ HW_ hHeld ?_
 refine one_ (i := 4) (N := some 9) (Bs 9 13) rfl rfl (one_of HT_.out (by kernel_rfl)) (by decide) (fun K hK => ?_)
 refine goes_ Try.func82 (by kernel_rfl) rfl #[.int .i64 a0_0, .int .i64 a1_0] (by rfl) rfl rfl (by (try simp only [List.map_toArray, List.map_cons, List.map_nil]); first | done | rfl | (simp only [List.length_drop, List.length_take]; rfl)) ?_
 with_reducible refine (cmp_Compare_int.calls a0_0 a1_0 t722 _ A3.out).mono ?_
 rintro e w' ⟨rfl, ⟨nd, rfl⟩⟩
 refine ⟨_, rfl, ?_⟩
 refine hK.out _ _ ⟨(blk_cell BK720.out 0).trans rfl, (blk_cell BK720.out 1).trans rfl, (blk_cell BK721.out 0).trans rfl, (blk_cell BK721.out 1).trans rfl⟩ (fun hHeld => ?_)
 clear hK K
 refine nm 9 ?_
 refine one_ (i := 9) (N := some 14) (Bs 10 13) rfl rfl (one_of HT_.out (by kernel_rfl)) (by decide) (fun K hK => ?_)
 refine goes_ Try.func82 (by kernel_rfl) rfl #[.int .i64 a0_1, .int .i64 a1_1] (by rfl) rfl rfl (by (try simp only [List.map_toArray, List.map_cons, List.map_nil]); first | done | rfl | (simp only [List.length_drop, List.length_take]; rfl)) ?_
 with_reducible refine (cmp_Compare_int.calls a0_1 a1_1 t723 _ A4.out).mono ?_
 rintro e w' ⟨rfl, ⟨nd, rfl⟩⟩
 refine ⟨_, rfl, ?_⟩
 refine hK.out _ _ ⟨(blk_cell BK720.out 0).trans rfl, (blk_cell BK720.out 1).trans rfl, (blk_cell BK721.out 0).trans rfl, (blk_cell BK721.out 1).trans rfl⟩ (fun hHeld => ?_)
 clear hK K
 refine nm 14 ?_
 refine one_ (i := 10) (N := some 15) (Bs 11 13) rfl rfl (one_of HT_.out (by kernel_rfl)) (by decide) (fun K hK => ?_)
 refine Kd.R_lit_step (Kd.int .i64) _ 3 ?hg (N := 15) ?hd (xs := ([t722, t723] : List Int)) (inner := [.int .i64 t722, .int .i64 t723]) (ok := fun _ => True) (okp := fun _ => True) ?hr ?hp (fun _ hk => hk) trivial (Below.refl _ _) (Nat.le_refl _) (by simp) ?_; (case hd => rfl); (case hg => rfl); (case hr => first | (go_simp; done) | (go_simp; rfl)); (case hp => exact (Reps.one (show Kd.M (Kd.int .i64) _ _ _ t722 [.int .i64 t722] from rfl) (Reps.one (show Kd.M (Kd.int .i64) _ _ _ t723 [.int .i64 t723] from rfl) (Reps.none _ _))))
 intro v725 w9 ho10 hb hg_ hnew_
 clear hg_ hnew_
 (first | rw [← Ny724.out] at ho10 | (simp only [Int.reduceToNat] at ho10; rw [← Ny724.out] at ho10))
 have n0_ := Aside0.mk (Kd.R_lower ho10 (below_size lB))
 have n1_ := Aside0.mk (blk_below (g := gb720) (o := .cells #[.int .i64 a0_0, .int .i64 a0_1] 31 (0, 0)) (kX BK720.out) hb)
 have n2_ := Aside0.mk (blk_below (g := gb721) (o := .cells #[.int .i64 a1_0, .int .i64 a1_1] 31 (0, 0)) (kX BK721.out) hb)
 have n3_ := Aside0.mk (below_step lB hb)
 clear BK720
 clear BK721
 clear HB
 have HO726 := n0_
 have BK720 := n1_
 have BK721 := n2_
 have HB := n3_
 clear n0_ n1_ n2_ n3_
 clear hb ho10
 obtain ⟨Ao11, co11, eo11⟩ := Kd.R_slice HO726.out
 (first | subst eo11 | (injection eo11 with f1_ f2_ f3_; have f4_ := f1_.symm; have f5_ := f3_.symm; clear f1_ f2_ f3_; subst f4_; subst f5_))
 refine hK.out _ _ ⟨(blk_cell BK720.out 0).trans rfl, (blk_cell BK720.out 1).trans rfl, (blk_cell BK721.out 0).trans rfl, (blk_cell BK721.out 1).trans rfl⟩ (fun hHeld => ?_)
 clear hK K
 refine nm 15 ?_
 refine one_ (i := 11) (N := some 16) (Bs 12 13) rfl rfl (one_of HT_.out (by kernel_rfl)) (by decide) (fun K hK => ?_)
 refine goes_ Try.func92 (by kernel_rfl) rfl #[.slice Ao11 y724.length co11] (by rfl) rfl rfl (by (try simp only [List.map_toArray, List.map_cons, List.map_nil]); first | done | rfl | (simp only [List.length_drop, List.length_take]; rfl)) ?_
 with_reducible refine (cmp_Or_int.calls k _ _ y724 t727 _ ?side1 ?side2 A5.out).mono ?_
 (case side1 => repeat (first | exact (Kd.R_reads' HO726.out).2.2 | (with_reducible refine Kd.C_alloc ?_ _) | (with_reducible refine Kd.C_drewN ?_ _) | (with_reducible refine Kd.C_drew ?_)))
 (case side2 => exact (Kd.R_reads' HO726.out).2.1)
 rintro e w' ⟨rfl, ⟨nd, rfl⟩⟩
 refine ⟨_, rfl, ?_⟩
 refine hK.out _ _ ⟨(blk_cell BK720.out 0).trans rfl, (blk_cell BK720.out 1).trans rfl, (blk_cell BK721.out 0).trans rfl, (blk_cell BK721.out 1).trans rfl⟩ (fun hHeld => ?_)
 clear hK K
 refine nm 16 ?_
 refine pu 12 4 (Bs 13 13) HT_ ?_
 refine done_ (done_of HT_.out (by kernel_rfl)) ?_
 try go_wp2
 go_ret
 exact en

end Go.Proofs.Ythaklbjcjoolcaa.P
namespace Go.Proofs.Ythaklbjcjoolcaa.P
open Go.RowKit Go.Sort YthaklbjcjoolcaaW.PrintWords YthaklbjcjoolcaaW.PrintLast YthaklbjcjoolcaaW.PrintMore
def cmpI (a b : Int) : Int := if a < b then -1 else if b < a then 1 else 0
theorem compare_is (a b : Int) : cmp_Compare_int.f a b = some (cmpI a b) := by
  have h : ∀ x : Int, cmp_isNaN_int.f x = some false := fun x => by unfold cmp_isNaN_int.f; simp
  unfold cmp_Compare_int.f cmpI
  simp only [h, Option.bind_some, Bool.false_eq_true, if_false]
  split
  · rfl
  · split
    · rfl
    · rfl
def orI (a b : Int) : Int := if a = 0 then b else a
theorem or_is (a b : Int) : cmp_Or_int.f 3 [a, b] = some (orI a b) := by
  have e1 : wrap64 1 = 1 := by unfold wrap64; omega
  have e2 : wrap64 2 = 2 := by unfold wrap64; omega
  have r0 : ∀ x y : Int, YthaklbjcjoolcaaW.PrintWords.rd [x, y] 0 = x := fun _ _ => rfl
  have r1 : ∀ x y : Int, YthaklbjcjoolcaaW.PrintWords.rd [x, y] 1 = y := fun _ _ => rfl
  unfold cmp_Or_int.f orI
  by_cases h : a = 0
  · rw [if_pos h]
    by_cases hb : b = 0
    · simp [cmp_Or_int.l0, e1, e2, r0, r1, h, hb]
    · simp [cmp_Or_int.l0, e1, e2, r0, r1, h, hb]
  · rw [if_neg h]
    simp [cmp_Or_int.l0, e1, e2, r0, r1, h]
def ordP (p q : S31) : Int := orI (cmpI p.f0 q.f0) (cmpI p.f1 q.f1)
theorem grown3 (w : World) (A B C : Obj) (n1 n2 n3 : Nat) : (((((w.alloc A).alloc B).drew.drewN n1).drewN n2).alloc C).drewN n3 = Sort.grow (w.drewN (1 + n1 + n2 + n3)) #[A, B, C] := by
  unfold Sort.grow World.drewN World.drew World.alloc
  simp only [World.mk.injEq, true_and, and_true]
  refine ⟨?_, by omega⟩
  apply Array.ext'
  simp
set_option maxHeartbeats 8000000 in
set_option maxRecDepth 100000 in
theorem order_calls (p q : S31) (w : World) : Calls Try.prog 75 #[.agg #[.int .i64 p.f0, .int .i64 p.f1], .agg #[.int .i64 q.f0, .int .i64 q.f1]] w fun e w' => e = .returned (.int .i64 (ordP p q)) ∧ ∃ n os, w' = Sort.grow (w.drewN n) os := by
 obtain ⟨a0_0, a0_1⟩ := p
 obtain ⟨a1_0, a1_1⟩ := q
 have hu31 := Try.underlying31
 have A3 := Aside0.mk (compare_is a0_0 a1_0)
 have A4 := Aside0.mk (compare_is a0_1 a1_1)
 have HO := Aside0.mk (or_is (cmpI a0_0 a1_0) (cmpI a0_1 a1_1))
 have HE : Aside0 (ordP ⟨a0_0, a0_1⟩ ⟨a1_0, a1_1⟩ = orI (cmpI a0_0 a1_0) (cmpI a0_1 a1_1)) := ⟨rfl⟩
 obtain ⟨R, hR⟩ : ∃ R, ordP ⟨a0_0, a0_1⟩ ⟨a1_0, a1_1⟩ = R := ⟨_, rfl⟩
 rw [hR] at HE ⊢
 clear hR
 generalize cmpI a0_0 a1_0 = t3 at *
 generalize cmpI a0_1 a1_1 = t4 at *
 dsimp only
 have b1 := heap_alloc_new w (Obj.cells #[.int .i64 a0_0, .int .i64 a0_1] 31)
 have b2 := heap_alloc_new (w.alloc (Obj.cells #[.int .i64 a0_0, .int .i64 a0_1] 31)) (Obj.cells #[.int .i64 a1_0, .int .i64 a1_1] 31)
 have b3 := blk_alloc b1 (Obj.cells #[.int .i64 a1_0, .int .i64 a1_1] 31)
 rw [World.size_alloc] at b2
 have HS0 : Aside0 ((((w.alloc (Obj.cells #[.int .i64 a0_0, .int .i64 a0_1] 31)).alloc (Obj.cells #[.int .i64 a1_0, .int .i64 a1_1] 31)).drew.cell? ⟨w.heap.size, 0, none⟩ = some (.int .i64 a0_0)) ∧ ((w.alloc (Obj.cells #[.int .i64 a0_0, .int .i64 a0_1] 31)).alloc (Obj.cells #[.int .i64 a1_0, .int .i64 a1_1] 31)).drew.cell? ⟨w.heap.size, 1, none⟩ = some (.int .i64 a0_1) ∧ ((w.alloc (Obj.cells #[.int .i64 a0_0, .int .i64 a0_1] 31)).alloc (Obj.cells #[.int .i64 a1_0, .int .i64 a1_1] 31)).drew.cell? ⟨w.heap.size + 1, 0, none⟩ = some (.int .i64 a1_0) ∧ ((w.alloc (Obj.cells #[.int .i64 a0_0, .int .i64 a0_1] 31)).alloc (Obj.cells #[.int .i64 a1_0, .int .i64 a1_1] 31)).drew.cell? ⟨w.heap.size + 1, 1, none⟩ = some (.int .i64 a1_1)) := ⟨blk_cell b3 0, blk_cell b3 1, blk_cell b2 0, blk_cell b2 1⟩
 clear b1 b2 b3
 go_enter Try.func75, Try.ntmps75
 go_wp2
 refine start_ (n := 13) (S := fun w' => w'.cell? ⟨w.heap.size, 0, none⟩ = some (.int .i64 a0_0) ∧ w'.cell? ⟨w.heap.size, 1, none⟩ = some (.int .i64 a0_1) ∧ w'.cell? ⟨w.heap.size + 1, 0, none⟩ = some (.int .i64 a1_0) ∧ w'.cell? ⟨w.heap.size + 1, 1, none⟩ = some (.int .i64 a1_1)) (ds := []) #[false, false, false, false, false, false, false, false, false, false, false, false, false] (by kernel_rfl) rfl rfl HS0.out (fun hHeld => ?_); refine with_tabW plane_order.tab1 plane_order.bits1 (fun HT_ HW_ => ?_)
 refine pure_ (i := 0) (N := some 5) (v := ?_) (a' := ?_) #[true, false, false, false, false, false, false, false, false, false, false, false, false] rfl rfl (any_of HT_.out (by kernel_rfl)) (fun _ _ _ h => h) (Or.inl ⟨by rfl, ?_⟩) ?_ ?_
 rotate_left
 ·intro w'
  go_simp
  with_reducible rfl
 rotate_left
 ·simp only [Act.put, List.setIfInBounds_toArray, List.set_cons_zero, List.set_cons_succ, i64_w, i32_w]
  rfl
 refine pure_ (i := 2) (N := some 7) (v := ?_) (a' := ?_) #[true, false, true, false, false, false, false, false, false, false, false, false, false] rfl rfl (any_of HT_.out (by kernel_rfl)) (fun _ _ _ h => h) (Or.inl ⟨by rfl, ?_⟩) ?_ ?_
 rotate_left
 ·intro w'
  go_simp
  with_reducible rfl
 rotate_left
 ·simp only [Act.put, List.setIfInBounds_toArray, List.set_cons_zero, List.set_cons_succ, i64_w, i32_w]
  rfl
 refine pure_ (i := 5) (N := some 10) (v := ?_) (a' := ?_) #[true, false, true, false, false, true, false, false, false, false, false, false, false] rfl rfl (any_of HT_.out (by kernel_rfl)) (fun _ _ _ h => h) (Or.inl ⟨by rfl, ?_⟩) ?_ ?_
 rotate_left
 ·intro w'
  go_simp
  with_reducible rfl
 rotate_left
 ·simp only [Act.put, List.setIfInBounds_toArray, List.set_cons_zero, List.set_cons_succ, i64_w, i32_w]
  rfl
 refine pure_ (i := 7) (N := some 12) (v := ?_) (a' := ?_) #[true, false, true, false, false, true, false, true, false, false, false, false, false] rfl rfl (any_of HT_.out (by kernel_rfl)) (fun _ _ _ h => h) (Or.inl ⟨by rfl, ?_⟩) ?_ ?_
 rotate_left
 ·intro w'
  go_simp
  with_reducible rfl
 rotate_left
 ·simp only [Act.put, List.setIfInBounds_toArray, List.set_cons_zero, List.set_cons_succ, i64_w, i32_w]
  rfl
 refine take_ (i := 1) (N := some 6) (v := ?_) (a' := ?_) #[true, true, true, false, false, true, false, true, false, false, false, false, false] rfl rfl (take_ofW HT_.out HW_.out (by kernel_rfl)) (fun _ _ _ h => h) (Or.inl ⟨by rfl, ?_⟩) hHeld ?_ ?_
 rotate_left
 ·rintro w' ⟨s0, s1, s2, s3⟩
  go_simp
  with_reducible rfl
 rotate_left
 ·simp only [Act.put, List.setIfInBounds_toArray, List.set_cons_zero, List.set_cons_succ, i64_w, i32_w]
  rfl
 refine take_ (i := 3) (N := some 8) (v := ?_) (a' := ?_) #[true, true, true, true, false, true, false, true, false, false, false, false, false] rfl rfl (take_ofW HT_.out HW_.out (by kernel_rfl)) (fun _ _ _ h => h) (Or.inl ⟨by rfl, ?_⟩) hHeld ?_ ?_
 rotate_left
 ·rintro w' ⟨s0, s1, s2, s3⟩
  go_simp
  with_reducible rfl
 rotate_left
 ·simp only [Act.put, List.setIfInBounds_toArray, List.set_cons_zero, List.set_cons_succ, i64_w, i32_w]
  rfl
 refine take_ (i := 6) (N := some 11) (v := ?_) (a' := ?_) #[true, true, true, true, false, true, true, true, false, false, false, false, false] rfl rfl (take_ofW HT_.out HW_.out (by kernel_rfl)) (fun _ _ _ h => h) (Or.inl ⟨by rfl, ?_⟩) hHeld ?_ ?_
 rotate_left
 ·rintro w' ⟨s0, s1, s2, s3⟩
  go_simp
  with_reducible rfl
 rotate_left
 ·simp only [Act.put, List.setIfInBounds_toArray, List.set_cons_zero, List.set_cons_succ, i64_w, i32_w]
  rfl
 refine take_ (i := 8) (N := some 13) (v := ?_) (a' := ?_) #[true, true, true, true, false, true, true, true, true, false, false, false, false] rfl rfl (take_ofW HT_.out HW_.out (by kernel_rfl)) (fun _ _ _ h => h) (Or.inl ⟨by rfl, ?_⟩) hHeld ?_ ?_
 rotate_left
 ·rintro w' ⟨s0, s1, s2, s3⟩
  go_simp
  with_reducible rfl
 rotate_left
 ·simp only [Act.put, List.setIfInBounds_toArray, List.set_cons_zero, List.set_cons_succ, i64_w, i32_w]
  rfl
 refine one_ (i := 4) (N := some 9) #[true, true, true, true, true, true, true, true, true, false, false, false, false] rfl rfl (one_of HT_.out (by kernel_rfl)) (by decide) (fun K hK => ?_)
 refine goes_ Try.func82 (by kernel_rfl) rfl #[.int .i64 a0_0, .int .i64 a1_0] (by rfl) rfl rfl (by (try simp only [List.map_toArray, List.map_cons, List.map_nil]); first | done | rfl | (simp only [List.length_drop, List.length_take]; rfl)) ?_
 with_reducible refine (cmp_Compare_int.calls a0_0 a1_0 _ _ A3.out).mono ?_
 rintro e w' ⟨rfl, ⟨nd1, rfl⟩⟩
 refine ⟨_, rfl, ?_⟩
 refine hK.out _ _ hHeld (fun hHeld => ?_)
 clear hK K
 refine norm_ (a' := ?_) ?_ ?_
 rotate_left
 ·show Act.put _ (some 9) _ = _
  simp only [Act.put, List.setIfInBounds_toArray, List.set_cons_zero, List.set_cons_succ, i64_w, i32_w]
  rfl
 refine one_ (i := 9) (N := some 14) #[true, true, true, true, true, true, true, true, true, true, false, false, false] rfl rfl (one_of HT_.out (by kernel_rfl)) (by decide) (fun K hK => ?_)
 refine goes_ Try.func82 (by kernel_rfl) rfl #[.int .i64 a0_1, .int .i64 a1_1] (by rfl) rfl rfl (by (try simp only [List.map_toArray, List.map_cons, List.map_nil]); first | done | rfl | (simp only [List.length_drop, List.length_take]; rfl)) ?_
 with_reducible refine (cmp_Compare_int.calls a0_1 a1_1 _ _ A4.out).mono ?_
 rintro e w' ⟨rfl, ⟨nd2, rfl⟩⟩
 refine ⟨_, rfl, ?_⟩
 refine hK.out _ _ hHeld (fun hHeld => ?_)
 clear hK K
 refine norm_ (a' := ?_) ?_ ?_
 rotate_left
 ·show Act.put _ (some 14) _ = _
  simp only [Act.put, List.setIfInBounds_toArray, List.set_cons_zero, List.set_cons_succ, i64_w, i32_w]
  rfl
 refine one_ (i := 10) (N := some 15) #[true, true, true, true, true, true, true, true, true, true, true, false, false] rfl rfl (one_of HT_.out (by kernel_rfl)) (by decide) (fun K hK => ?_)
 refine event_step (v := .slice (some ⟨w.heap.size + 1 + 1, 0, none⟩) 2 2) (w1 := World.alloc ((((w.alloc (Obj.cells #[.int .i64 a0_0, .int .i64 a0_1] 31)).alloc (Obj.cells #[.int .i64 a1_0, .int .i64 a1_1] 31)).drew.drewN nd1).drewN nd2) (.cells (#[.int .i64 t3, .int .i64 t4] : Array Value) 3)) ?wanted ?run ?_
 (case wanted => rfl)
 (case run => first | (go_simp; done) | (go_simp; rfl))
 have HW3 : Aside0 (((((w.alloc (Obj.cells #[.int .i64 a0_0, .int .i64 a0_1] 31)).alloc (Obj.cells #[.int .i64 a1_0, .int .i64 a1_1] 31)).drew.drewN nd1).drewN nd2).heap.size = w.heap.size + 1 + 1) := ⟨by simp [World.drew, World.drewN]⟩
 have b3 := heap_alloc_new ((((w.alloc (Obj.cells #[.int .i64 a0_0, .int .i64 a0_1] 31)).alloc (Obj.cells #[.int .i64 a1_0, .int .i64 a1_1] 31)).drew.drewN nd1).drewN nd2) (Obj.cells (#[.int .i64 t3, .int .i64 t4] : Array Value) 3)
 rw [HW3.out] at b3
 have HC2 : Aside0 (Kd.C (Kd.int .i64) (World.alloc ((((w.alloc (Obj.cells #[.int .i64 a0_0, .int .i64 a0_1] 31)).alloc (Obj.cells #[.int .i64 a1_0, .int .i64 a1_1] 31)).drew.drewN nd1).drewN nd2) (.cells (#[.int .i64 t3, .int .i64 t4] : Array Value) 3)) (some ⟨w.heap.size + 1 + 1, 0, none⟩) ([t3, t4] : List Int).length [t3, t4]) := ⟨by
  refine Kd.C_of_reads (d := (0 : Int)) ⟨rfl, by simp, fun _ => ⟨_, rfl, fun j hj => ?_⟩⟩
  simp only [List.length_cons, List.length_nil] at hj
  rw [Addr.add_lit, Nat.zero_add, blk_cell b3]
  obtain rfl | rfl : j = 0 ∨ j = 1 := by omega
  · rfl
  · rfl⟩
 have hB := below_alloc (Below.refl _ _) (w := ((((w.alloc (Obj.cells #[.int .i64 a0_0, .int .i64 a0_1] 31)).alloc (Obj.cells #[.int .i64 a1_0, .int .i64 a1_1] 31)).drew.drewN nd1).drewN nd2)) (Obj.cells (#[.int .i64 t3, .int .i64 t4] : Array Value) 3)
 clear b3
 obtain ⟨s0, s1, s2, s3⟩ := hHeld
 refine hK.out _ _ ⟨(hB.cell (World.block_lt_of_cell? _ _ s0)).trans s0, (hB.cell (World.block_lt_of_cell? _ _ s1)).trans s1, (hB.cell (World.block_lt_of_cell? _ _ s2)).trans s2, (hB.cell (World.block_lt_of_cell? _ _ s3)).trans s3⟩ (fun hHeld => ?_)
 clear hB s0 s1 s2 s3
 clear hK K
 refine norm_ (a' := ?_) ?_ ?_
 rotate_left
 ·show Act.put _ (some 15) _ = _
  simp only [Act.put, List.setIfInBounds_toArray, List.set_cons_zero, List.set_cons_succ, i64_w, i32_w]
  rfl
 refine one_ (i := 11) (N := some 16) #[true, true, true, true, true, true, true, true, true, true, true, true, false] rfl rfl (one_of HT_.out (by kernel_rfl)) (by decide) (fun K hK => ?_)
 refine goes_ Try.func92 (by kernel_rfl) rfl #[.slice (some ⟨w.heap.size + 1 + 1, 0, none⟩) ([t3, t4] : List Int).length ([t3, t4] : List Int).length] (by rfl) rfl rfl (by (try simp only [List.map_toArray, List.map_cons, List.map_nil]); first | done | rfl | (simp only [List.length_drop, List.length_take]; rfl)) ?_
 refine (cmp_Or_int.calls 3 (some ⟨w.heap.size + 1 + 1, 0, none⟩) ([t3, t4] : List Int).length ([t3, t4] : List Int) (orI t3 t4) _ HC2.out (Nat.le_refl _) HO.out).mono ?_
 rintro e w' ⟨rfl, ⟨nd3, rfl⟩⟩
 refine ⟨_, rfl, ?_⟩
 refine hK.out _ _ hHeld (fun hHeld => ?_)
 clear hK K
 refine norm_ (a' := ?_) ?_ ?_
 rotate_left
 ·show Act.put _ (some 16) _ = _
  simp only [Act.put, List.setIfInBounds_toArray, List.set_cons_zero, List.set_cons_succ, i64_w, i32_w]
  rfl
 refine pure_ (i := 12) (N := some 4) (v := ?_) (a' := ?_) #[true, true, true, true, true, true, true, true, true, true, true, true, true] rfl rfl (any_of HT_.out (by kernel_rfl)) (fun _ _ _ h => h) (Or.inl ⟨by rfl, ?_⟩) ?_ ?_
 rotate_left
 ·intro w'
  go_simp
  with_reducible rfl
 rotate_left
 ·simp only [Act.put, List.setIfInBounds_toArray, List.set_cons_zero, List.set_cons_succ, i64_w, i32_w]
  rfl
 refine done_ (done_of HT_.out (by kernel_rfl)) ?_
 try go_wp2
 go_ret
 exact ⟨by rw [HE.out]; rfl, (by
  refine ⟨1 + nd1 + nd2 + nd3, #[Obj.cells #[.int .i64 a0_0, .int .i64 a0_1] 31, Obj.cells #[.int .i64 a1_0, .int .i64 a1_1] 31, Obj.cells #[.int .i64 t3, .int .i64 t4] 3], ?_⟩
  exact grown3 w _ _ _ nd1 nd2 nd3)⟩

end Go.Proofs.Ythaklbjcjoolcaa.P
namespace Go.Proofs.Ythaklbjcjoolcaa.P
open Go.RowKit YthaklbjcjoolcaaW.PrintWords YthaklbjcjoolcaaW.PrintLast YthaklbjcjoolcaaW.PrintMore
theorem w64i {x : Int} (h0 : -9223372036854775808 ≤ x) (h1 : x ≤ 9223372036854775807) : wrap64 x = x := by unfold wrap64; omega
theorem mul_bd {a b m n : Int} (ha : -m ≤ a ∧ a ≤ m) (hb : -n ≤ b ∧ b ≤ n) : -(m * n) ≤ a * b ∧ a * b ≤ m * n := by
 have hm : 0 ≤ m := by omega
 have hn : 0 ≤ n := by omega
 have h1 : (a * b).natAbs ≤ (m * n).natAbs := by
  rw [Int.natAbs_mul, Int.natAbs_mul]
  exact Nat.mul_le_mul (by omega) (by omega)
 have h2 : 0 ≤ m * n := Int.mul_nonneg hm hn
 omega
def crs (a b c : S31) : Int := (b.f0 - a.f0) * (c.f1 - a.f1) - (b.f1 - a.f1) * (c.f0 - a.f0)
def sgn (x : Int) : Int := cmpI x 0
theorem crs_bd {a b c : S31} (ha : okPt a = true) (hb : okPt b = true) (hc : okPt c = true) : -134217728 ≤ crs a b c ∧ crs a b c ≤ 134217728 ∧ (-67108864 ≤ (b.f0 - a.f0) * (c.f1 - a.f1) ∧ (b.f0 - a.f0) * (c.f1 - a.f1) ≤ 67108864) ∧ (-67108864 ≤ (b.f1 - a.f1) * (c.f0 - a.f0) ∧ (b.f1 - a.f1) * (c.f0 - a.f0) ≤ 67108864) := by
 rw [okPt_iff] at ha hb hc
 have h1 := mul_bd (a := b.f0 - a.f0) (b := c.f1 - a.f1) (m := 8192) (n := 8192) (by omega) (by omega)
 have h2 := mul_bd (a := b.f1 - a.f1) (b := c.f0 - a.f0) (m := 8192) (n := 8192) (by omega) (by omega)
 unfold crs
 omega
theorem cross_is {a b c : S31} (ha : okPt a = true) (hb : okPt b = true) (hc : okPt c = true) : plane_cross.f a.f0 a.f1 b.f0 b.f1 c.f0 c.f1 = some (crs a b c) := by
 have hbd := crs_bd ha hb hc
 rw [okPt_iff] at ha hb hc
 unfold plane_cross.f
 rw [w64i (x := b.f0 - a.f0) (by omega) (by omega), w64i (x := c.f1 - a.f1) (by omega) (by omega), w64i (x := b.f1 - a.f1) (by omega) (by omega), w64i (x := c.f0 - a.f0) (by omega) (by omega)]
 rw [w64i (x := (b.f0 - a.f0) * (c.f1 - a.f1)) (by omega) (by omega), w64i (x := (b.f1 - a.f1) * (c.f0 - a.f0)) (by omega) (by omega)]
 have e : (b.f0 - a.f0) * (c.f1 - a.f1) - (b.f1 - a.f1) * (c.f0 - a.f0) = crs a b c := rfl
 rw [e, w64i (by omega) (by omega)]
theorem turn_is {a b c : S31} (ha : okPt a = true) (hb : okPt b = true) (hc : okPt c = true) : plane_turn.f a.f0 a.f1 b.f0 b.f1 c.f0 c.f1 = some (sgn (crs a b c)) := by
 unfold plane_turn.f
 rw [cross_is ha hb hc]
 simp only [Option.bind_some, compare_is]
 rfl
theorem sgn_pos {x : Int} : 0 < sgn x ↔ 0 < x := by unfold sgn cmpI; split <;> (try split) <;> omega
theorem sgn_neg {x : Int} : sgn x < 0 ↔ x < 0 := by unfold sgn cmpI; split <;> (try split) <;> omega
theorem sgn_zero {x : Int} : sgn x = 0 ↔ x = 0 := by unfold sgn cmpI; split <;> (try split) <;> omega
theorem sgn_bd (x : Int) : -1 ≤ sgn x ∧ sgn x ≤ 1 := by unfold sgn cmpI; split <;> (try split) <;> omega
end Go.Proofs.Ythaklbjcjoolcaa.P
namespace Go.Proofs
open Go.Shelf
def Try.sortP_ren : Go.Shelf.Ren := ⟨fun | 6 => 74 | 15 => 91 | 14 => 90 | 28 => 104 | 29 => 105 | 20 => 96 | 21 => 97 | 22 => 98 | 23 => 99 | 24 => 100 | 25 => 101 | 26 => 102 | 27 => 103 | 46 => 106 | 47 => 107 | 48 => 108 | 49 => 109 | 50 => 110 | 57 => 111 | n => n, fun | 22 => 22 | 24 => 31 | 25 => 66 | 3 => 3 | 39 => 74 | 0 => 0 | 53 => 101 | 55 => 103 | 4 => 4 | 46 => 94 | 45 => 93 | 50 => 98 | 5 => 5 | 9 => 9 | 66 => 104 | 70 => 108 | 76 => 110 | 77 => 84 | n => n, fun | n => n⟩
theorem Try.sortP : Go.Proofs.SlLaysF0.n6 Try.prog Try.sortP_ren := {
 mixed := by kernel_rfl
 f6 := ⟨Try.f74.name, by decide, Try.func74.trans (congrArg some (by kernel_rfl))⟩
 f14 := ⟨Try.f90.name, by decide, Try.func90.trans (congrArg some (by kernel_rfl))⟩
 f15 := Try.func91.trans (congrArg some (by kernel_rfl))
 f20 := ⟨Try.f96.name, by decide, Try.func96.trans (congrArg some (by kernel_rfl))⟩
 f21 := ⟨Try.f97.name, by decide, Try.func97.trans (congrArg some (by kernel_rfl))⟩
 f22 := ⟨Try.f98.name, by decide, Try.func98.trans (congrArg some (by kernel_rfl))⟩
 f23 := ⟨Try.f99.name, by decide, Try.func99.trans (congrArg some (by kernel_rfl))⟩
 f24 := ⟨Try.f100.name, by decide, Try.func100.trans (congrArg some (by kernel_rfl))⟩
 f25 := ⟨Try.f101.name, by decide, Try.func101.trans (congrArg some (by kernel_rfl))⟩
 f26 := ⟨Try.f102.name, by decide, Try.func102.trans (congrArg some (by kernel_rfl))⟩
 f27 := ⟨Try.f103.name, by decide, Try.func103.trans (congrArg some (by kernel_rfl))⟩
 f28 := Try.func104.trans (congrArg some (by kernel_rfl))
 f29 := Try.func105.trans (congrArg some (by kernel_rfl))
 f46 := ⟨Try.f106.name, by decide, Try.func106.trans (congrArg some (by kernel_rfl))⟩
 f47 := Try.func107.trans (congrArg some (by kernel_rfl))
 f48 := Try.func108.trans (congrArg some (by kernel_rfl))
 f49 := ⟨Try.f109.name, by decide, Try.func109.trans (congrArg some (by kernel_rfl))⟩
 f50 := ⟨Try.f110.name, by decide, Try.func110.trans (congrArg some (by kernel_rfl))⟩
 f57 := ⟨Try.f111.name, by decide, Try.func111.trans (congrArg some (by kernel_rfl))⟩
 t0 := Try.underlying0
 a0 := Try.isAgg0
 z0 := Try.sizeOf0
 v0 := Try.zeroValue0
 t3 := Try.underlying3
 a3 := Try.isAgg3
 z3 := Try.sizeOf3
 v3 := Try.zeroValue3
 t4 := Try.underlying4
 a4 := Try.isAgg4
 z4 := Try.sizeOf4
 v4 := Try.zeroValue4
 t5 := Try.underlying5
 a5 := Try.isAgg5
 z5 := Try.sizeOf5
 v5 := Try.zeroValue5
 t9 := Try.underlying9
 a9 := Try.isAgg9
 z9 := Try.sizeOf9
 v9 := Try.zeroValue9
 t22 := Try.underlying22
 a22 := Try.isAgg22
 z22 := Try.sizeOf22
 v22 := Try.zeroValue22
 t25 := Try.underlying66
 a25 := Try.isAgg66
 z25 := Try.sizeOf66
 v25 := Try.zeroValue66
 t39 := Try.underlying74
 a39 := Try.isAgg74
 z39 := Try.sizeOf74
 v39 := Try.zeroValue74
 t45 := Try.underlying93
 a45 := Try.isAgg93
 z45 := Try.sizeOf93
 v45 := Try.zeroValue93
 t46 := Try.underlying94
 a46 := Try.isAgg94
 z46 := Try.sizeOf94
 v46 := Try.zeroValue94
 t50 := Try.underlying98
 a50 := Try.isAgg98
 z50 := Try.sizeOf98
 v50 := Try.zeroValue98
 t53 := Try.underlying101
 a53 := Try.isAgg101
 z53 := Try.sizeOf101
 v53 := Try.zeroValue101
 t55 := Try.underlying103
 a55 := Try.isAgg103
 z55 := Try.sizeOf103
 v55 := Try.zeroValue103
 t66 := Try.underlying104
 a66 := Try.isAgg104
 z66 := Try.sizeOf104
 v66 := Try.zeroValue104
 t70 := Try.underlying108
 a70 := Try.isAgg108
 z70 := Try.sizeOf108
 v70 := Try.zeroValue108
 t76 := Try.underlying110
 a76 := Try.isAgg110
 z76 := Try.sizeOf110
 v76 := Try.zeroValue110
 t77 := Try.underlying84
 a77 := Try.isAgg84
 z77 := Try.sizeOf84
 v77 := Try.zeroValue84 }
def Try.revP_ren : Go.Shelf.Ren := ⟨fun | 35 => 86 | n => n, fun | 22 => 22 | 23 => 31 | 3 => 3 | 4 => 4 | 0 => 0 | n => n, fun | n => n⟩
theorem Try.revP : Go.Proofs.SlLaysE0.n35 Try.prog Try.revP_ren := {
 mixed := by kernel_rfl
 f35 := ⟨Try.f86.name, by decide, Try.func86.trans (congrArg some (by kernel_rfl))⟩
 t0 := Try.underlying0
 a0 := Try.isAgg0
 z0 := Try.sizeOf0
 v0 := Try.zeroValue0
 t3 := Try.underlying3
 a3 := Try.isAgg3
 z3 := Try.sizeOf3
 v3 := Try.zeroValue3
 t4 := Try.underlying4
 a4 := Try.isAgg4
 z4 := Try.sizeOf4
 v4 := Try.zeroValue4
 t22 := Try.underlying22
 a22 := Try.isAgg22
 z22 := Try.sizeOf22
 v22 := Try.zeroValue22 }
def Try.cloneP_ren : Go.Shelf.Ren := ⟨fun | 41 => 73 | n => n, fun | 22 => 22 | 23 => 31 | 4 => 4 | n => n, fun | n => n⟩
theorem Try.cloneP : Go.Proofs.SlLaysE0.n41 Try.prog Try.cloneP_ren := {
 mixed := by kernel_rfl
 f41 := ⟨Try.f73.name, by decide, Try.func73.trans (congrArg some (by kernel_rfl))⟩
 t4 := Try.underlying4
 a4 := Try.isAgg4
 z4 := Try.sizeOf4
 v4 := Try.zeroValue4
 t22 := Try.underlying22
 a22 := Try.isAgg22
 z22 := Try.sizeOf22
 v22 := Try.zeroValue22 }
end Go.Proofs
namespace Go.Proofs.Ythaklbjcjoolcaa.P
open Go.RowKit Go.Shelf Go.Sort YthaklbjcjoolcaaW.PrintWords YthaklbjcjoolcaaW.PrintLast YthaklbjcjoolcaaW.PrintMore
instance : Inhabited S31 := ⟨z31⟩
theorem S31.ext' {p q : S31} (h0 : p.f0 = q.f0) (h1 : p.f1 = q.f1) : p = q := by cases p; cases q; simp_all
def encP (p : S31) : List Value := [.int .i64 p.f0, .int .i64 p.f1]
def fl (xs : List S31) : List Value := xs.flatMap encP
theorem fl_cons (p : S31) (xs : List S31) : fl (p :: xs) = .int .i64 p.f0 :: .int .i64 p.f1 :: fl xs := rfl
theorem fl_append (xs ys : List S31) : fl (xs ++ ys) = fl xs ++ fl ys := by simp [fl]
theorem fl_len (xs : List S31) : (fl xs).length = xs.length * 2 := by
 induction xs with
 | nil => rfl
 | cons p xs ih => rw [fl_cons]; simp [ih]; omega
theorem fl_get (xs : List S31) (k : Nat) (hk : k < xs.length) : (fl xs)[k * 2]? = some (.int .i64 xs[k].f0) ∧ (fl xs)[k * 2 + 1]? = some (.int .i64 xs[k].f1) := by
 induction xs generalizing k with
 | nil => simp at hk
 | cons p xs ih =>
  rw [fl_cons]
  cases k with
  | zero => exact ⟨rfl, rfl⟩
  | succ k =>
   have := ih k (by simpa using hk)
   rw [show (k + 1) * 2 = k * 2 + 1 + 1 by omega]
   simpa using this
theorem fl_one (xs : List S31) (v : Value) (hv : v ∈ fl xs) : v.oneCell' = true := by
 unfold fl at hv
 rw [List.mem_flatMap] at hv
 obtain ⟨p, _, h⟩ := hv
 simp [encP] at h
 rcases h with rfl | rfl <;> rfl
theorem reps_fl {R : S31 → List Value → Prop} (hR : ∀ p cs, R p cs → cs = encP p) : ∀ {xs : List S31} {inner : List Value}, Reps R 2 xs inner → inner = fl xs
 | [], inner, h => by
  have := h.1
  simp at this
  subst this; rfl
 | p :: xs, inner, h => by
  have h0 := hR _ _ (h.2 0 p rfl)
  rw [Nat.zero_mul, List.drop_zero] at h0
  have ht : Reps R 2 xs (inner.drop 2) := by
   refine ⟨by rw [List.length_drop, h.1, List.length_cons]; omega, fun j q hq => ?_⟩
   have := h.2 (j + 1) q (by simpa using hq)
   rw [show (j + 1) * 2 = 2 + j * 2 by omega, ← List.drop_drop] at this
   exact this
  have := reps_fl hR ht
  rw [← List.take_append_drop 2 inner, h0, this]
  rfl
theorem fl_reps {R : S31 → List Value → Prop} (hR : ∀ p, R p (encP p)) (xs : List S31) : Reps R 2 xs (fl xs) := by
 induction xs with
 | nil => exact Reps.none _ _
 | cons p xs ih =>
  refine ⟨by rw [fl_len], fun j q hq => ?_⟩
  cases j with
  | zero =>
   simp at hq; subst hq
   exact hR p
  | succ j =>
   have := ih.2 j q (by simpa using hq)
   rw [fl_cons, show (j + 1) * 2 = j * 2 + 1 + 1 by omega]
   simpa using this
theorem own_of_R31 {w : World} {base : Nat} {ok : Nat → Prop} {v : Value} {xs : List S31} (h : Kd.R k31 31 w base ok v xs) : w.ownsRow base 31 2 v xs.length (fl xs) := by
 obtain ⟨_, inner, ho, hr⟩ := h
 rw [reps_fl (fun p cs hp => k31_openM hp) hr] at ho
 exact ho
theorem R31_of_own {w : World} {base : Nat} {ok : Nat → Prop} {v : Value} {xs : List S31} (ho : w.ownsRow base 31 2 v xs.length (fl xs)) (hok : ∀ k, v.ownBlock = some k → ok k) : Kd.R k31 31 w base ok v xs :=
 ⟨hok, fl xs, ho, fl_reps (fun p => k31_mkM _ _ _ p) xs⟩
theorem R31_ok {w : World} {base : Nat} {ok ok' : Nat → Prop} {v : Value} {xs : List S31} (h : Kd.R k31 31 w base ok v xs) (hok : ∀ k, v.ownBlock = some k → ok' k) : Kd.R k31 31 w base ok' v xs := R31_of_own (own_of_R31 h) hok
theorem flatK_fl (d : Array S31) : flatK encP 2 d = (fl d.toList).toArray := by
 refine ext_get! (by simp [fl_len]) fun t ht => ?_
 have ht' : t < d.size * 2 := by simpa using ht
 rw [get_flatK _ _ _ t ht']
 have hk : t / 2 < d.toList.length := by rw [Array.length_toList]; omega
 obtain ⟨g0, g1⟩ := fl_get d.toList (t / 2) hk
 have hd : d[t / 2]! = d.toList[t / 2] := by rw [getElem!_pos d (t / 2) (by simpa using hk)]; rfl
 rw [hd]
 rw [getElem!_pos _ t (by simp [fl_len]; omega)]
 rw [List.getElem_toArray]
 rcases Nat.mod_two_eq_zero_or_one t with h | h
 ·have e : t = t / 2 * 2 := by omega
  have : (fl d.toList)[t]? = some (.int .i64 d.toList[t / 2].f0) := by rw [← g0]; congr 1
  rw [List.getElem?_eq_getElem (by rw [fl_len, Array.length_toList]; exact ht')] at this
  rw [Option.some.inj this, h]
  rfl
 ·have e : t = t / 2 * 2 + 1 := by omega
  have : (fl d.toList)[t]? = some (.int .i64 d.toList[t / 2].f1) := by rw [← g1]; congr 1
  rw [List.getElem?_eq_getElem (by rw [fl_len, Array.length_toList]; exact ht')] at this
  rw [Option.some.inj this, h]
  rfl
theorem heap_mapBlock_same {w : World} {g : Nat} {f : Array Value → Array Value} {c : Array Value} {e : TypeId} {fr : Nat × Nat} (h : w.heap[g]? = some (.cells c e fr)) : (mapBlock w g f).heap[g]? = some (.cells (f c) e fr) := by
 unfold mapBlock
 simp only [Array.getElem?_modify, if_true, h, Option.map_some, onCells]
theorem heap_mapBlock_other {w : World} {g k : Nat} {f : Array Value → Array Value} (h : g ≠ k) : (mapBlock w g f).heap[k]? = w.heap[k]? := by
 unfold mapBlock
 simp only [Array.getElem?_modify, if_neg h]
theorem size_mapBlock (w : World) (g : Nat) (f : Array Value → Array Value) : (mapBlock w g f).heap.size = w.heap.size := by
 unfold mapBlock
 simp
theorem heap_grow' {w : World} {os : Array Obj} {k : Nat} (h : k < w.heap.size) : (Sort.grow w os).heap[k]? = w.heap[k]? := by
 unfold Sort.grow
 rw [Array.getElem?_append_left h]
theorem sortWorld_block {enc : Value → Value} {w : World} {g off m : Nat} {dk : Array Value} {os : Array Obj} {k : Nat} (hk : k < w.heap.size) (hne : k ≠ g) : (sortWorld enc w g off m dk os).heap[k]? = w.heap[k]? := by
 unfold sortWorld
 rw [heap_grow' (by unfold putRow; rw [size_mapBlock]; exact hk)]
 unfold putRow
 rw [heap_mapBlock_other (fun e => hne e.symm)]
 rfl
theorem sortWorld_row {enc : Value → Value} {w : World} {g off m : Nat} {dk : Array Value} {os : Array Obj} {c : Array Value} {e : TypeId} {fr : Nat × Nat} (h : w.heap[g]? = some (.cells c e fr)) : (sortWorld enc w g off m dk os).heap[g]? = some (.cells (putCells enc off dk c) e fr) := by
 unfold sortWorld
 have h' : (Sort.ahead w m).heap[g]? = some (.cells c e fr) := h
 rw [heap_grow' (by unfold putRow; rw [size_mapBlock]; exact blk_lt h')]
 exact heap_mapBlock_same h'
theorem sortWorld_grown (enc : Value → Value) (w : World) (g off m : Nat) (dk : Array Value) (os : Array Obj) : w.grownBy (sortWorld enc w g off m dk os) (some g) where
 os := rfl
 tape := rfl
 output := rfl
 size := by
  unfold sortWorld
  rw [Sort.size_grow]
  unfold putRow
  rw [size_mapBlock]
  exact Nat.le_add_right _ _
 block k hk hne := sortWorld_block hk (fun e => hne (by rw [e]))
theorem putCells_take (d : Array Value) (c : Array Value) (h : d.size ≤ c.size) : (putCells id 0 d c).toList.take d.size = d.toList := by
 apply List.ext_getElem
 ·simp [putCells]; omega
 ·intro i h1 h2
  simp at h2
  simp [putCells, h2]
theorem holds_of_row {w : World} {base g n cap size : Nat} {e : TypeId} {F : List Value} (h : w.ownsRow base e size (.slice (some ⟨g, 0, none⟩) n cap) n F) : Holds id w g 0 F.toArray := by
 obtain ⟨hlen, hv⟩ := h
 intro j hj
 have hj' : j < F.length := by simpa using hj
 rcases hv with ⟨hv, _⟩ | ⟨g', cap', cur, hv, hg, hblk, _, _, hcs, htk⟩
 ·simp at hv
 ·simp only [Value.slice.injEq, Option.some.injEq, Addr.mk.injEq] at hv
  obtain ⟨⟨rfl, _⟩, _, rfl⟩ := hv
  constructor
  ·rw [Nat.zero_add, cell_of_row _ _ _ _ _ _ hblk]
   have h1 : (cur.toList.take (n * size))[j]? = F[j]? := by rw [htk]
   rw [List.getElem?_take, if_pos (by omega)] at h1
   rw [← Array.getElem?_toList, h1, List.getElem?_eq_getElem hj']
   simp [hj']
  ·exact frozen_of_row _ _ _ _ _ hblk
theorem own_put_fl {w : World} {base g n cap size : Nat} {e : TypeId} {F : List Value} {F' : Array Value} (h : w.ownsRow base e size (.slice (some ⟨g, 0, none⟩) n cap) n F) (hn : F'.size = n * size) (m : Nat) (os : Array Obj) : (sortWorld id w g 0 m F' os).ownsRow base e size (.slice (some ⟨g, 0, none⟩) n cap) n F'.toList := by
 obtain ⟨_, hv⟩ := h
 refine ⟨by simp [hn], ?_⟩
 rcases hv with ⟨hv, _⟩ | ⟨g', cap', cur, hv, hg, hblk, hc1, hc2, hcs, htk⟩
 ·simp at hv
 ·simp only [Value.slice.injEq, Option.some.injEq, Addr.mk.injEq] at hv
  obtain ⟨⟨rfl, _⟩, _, rfl⟩ := hv
  refine .inr ⟨g, cap, putCells id 0 F' cur, rfl, hg, sortWorld_row hblk, hc1, hc2, by simp [putCells, hcs], ?_⟩
  rw [← hn]
  exact putCells_take F' cur (by rw [hn, hcs]; exact Nat.mul_le_mul_right _ hc1)
theorem encP_len (p : S31) : (encP p).length = 2 := rfl
theorem encP_one (p : S31) (v : Value) (hv : v ∈ encP p) : v.oneCell' = true := by
 simp [encP] at hv; rcases hv with rfl | rfl <;> rfl
def ltP (p q : S31) : Bool := decide (p.f0 < q.f0 ∨ p.f0 = q.f0 ∧ p.f1 < q.f1)
theorem ltOf_ord (p q : S31) : ltOf ordP p q = ltP p q := by
 unfold ltOf ordP orI cmpI ltP
 rw [Bool.eq_iff_iff]
 simp only [decide_eq_true_eq]
 split <;> split <;> (try split) <;> (try split) <;> omega
theorem ltP_swo : SWO (ltOf ordP) where
 irrefl x := by rw [ltOf_ord]; unfold ltP; simp
 trans x y z h1 h2 := by rw [ltOf_ord] at *; unfold ltP at *; simp at *; omega
 ntrans x y z h1 h2 := by rw [ltOf_ord] at *; unfold ltP at *; simp at *; omega
def sortP (xs : List S31) : List S31 := xs.mergeSort fun x y => !ltP y x
theorem sortP_len (xs : List S31) : (sortP xs).length = xs.length := List.length_mergeSort ..
theorem sort_calls (w : World) (base : Nat) (ok : Nat → Prop) (v : Value) (xs : List S31) (h : Kd.R k31 31 w base ok v xs) (hsz : xs.length < 4611686018427387904) :
  Calls Try.prog 74 #[v, .func (.func 75) #[] #[]] w fun e w' => e = .returned (.tuple #[]) ∧ Kd.R k31 31 w' base ok v (sortP xs) ∧ w.grownBy w' v.ownBlock := by
 have ho := own_of_R31 h
 rcases ho.2 with ⟨rfl, hn⟩ | ⟨g, cap, cur, rfl, hg, hblk, _⟩
 ·refine (AnyF.slices_SortFunc_none Try.sortP none 0 _ w).mono ?_
  rintro e w' ⟨he, rfl⟩
  have hx : xs = [] := List.eq_nil_of_length_eq_zero hn
  subst hx
  exact ⟨he, by unfold sortP; rw [List.mergeSort_nil]; exact h, ⟨rfl, rfl, rfl, Nat.le_refl _, fun _ _ _ => rfl⟩⟩
 ·have hH : HoldsK encP 2 w g 0 xs.toArray := by
   unfold HoldsK
   rw [flatK_fl]
   exact holds_of_row ho
  have eg : ∀ args w, (callFunc 75 args).run Try.prog w = .ok (.enter 75 args) w := enters_of Try.func75 (by kernel_rfl) rfl
  have hc := AnyQ.slices_SortFunc_total Try.sortP 2 Try.isAgg31 Try.sizeOf31 encP encP_len encP_one ordP ltP_swo 75 #[] g 0 cap xs.toArray w eg (fun m os dk hdk x y => (order_calls x y _).mono fun e w' ⟨he, q, os', hw⟩ => ⟨he, q, os', hw⟩) hH (blk_lt hblk) (by simpa using hsz)
   (fun x y h1 h2 => by rw [ltOf_ord] at h1 h2; unfold ltP at h1 h2; simp at h1 h2; exact S31.ext' (by omega) (by omega))
  rw [show xs.toArray.size = xs.length by simp] at hc
  refine hc.mono ?_
  rintro e w' ⟨he, n, os, rfl⟩
  have e1 : (xs.toArray.toList.mergeSort fun x y => !ltOf ordP y x) = sortP xs := by
   unfold sortP
   simp only [ltOf_ord]
  rw [e1]
  have hF : sortWorldK encP 2 w g 0 n (sortP xs).toArray os = sortWorld id w g 0 n (fl (sortP xs)).toArray os := by
   unfold sortWorldK putRowK sortWorld
   rw [flatK_fl]
  rw [hF]
  have hw := own_put_fl ho (F' := (fl (sortP xs)).toArray) (by simp [fl_len, sortP_len]) n os
  refine ⟨he, R31_of_own (by rw [sortP_len]; exact hw) h.1, sortWorld_grown _ _ _ _ _ _ _⟩
theorem reverse_calls (w : World) (base : Nat) (ok : Nat → Prop) (v : Value) (xs : List S31) (h : Kd.R k31 31 w base ok v xs) (hsz : xs.length ≤ 9223372036854775807) :
  Calls Try.prog 86 #[v] w fun e w' => e = .returned (.tuple #[]) ∧ Kd.R k31 31 w' base ok v xs.reverse ∧ w.grownBy w' v.ownBlock := by
 have ho := own_of_R31 h
 rcases ho.2 with ⟨rfl, hn⟩ | ⟨g, cap, cur, rfl, hg, hblk, _⟩
 ·refine (AnyQ.slices_Reverse_empty Try.revP none 0 w).mono ?_
  rintro e w' ⟨he, rfl⟩
  have hx : xs = [] := List.eq_nil_of_length_eq_zero hn
  subst hx
  exact ⟨he, h, ⟨rfl, rfl, rfl, Nat.le_refl _, fun _ _ _ => rfl⟩⟩
 ·have hH : HoldsK encP 2 w g 0 xs.toArray := by
   unfold HoldsK
   rw [flatK_fl]
   exact holds_of_row ho
  have hc := AnyQ.slices_Reverse Try.revP 2 Try.isAgg31 Try.sizeOf31 encP encP_len encP_one g 0 cap xs.toArray w hH (by simpa using hsz)
  rw [show xs.toArray.size = xs.length by simp] at hc
  refine hc.mono ?_
  rintro e w' ⟨he, n, rfl⟩
  have hF : putRowK encP 2 (Sort.ahead w n) g 0 xs.toArray.reverse = sortWorld id w g 0 n (fl xs.reverse).toArray #[] := by
   unfold putRowK sortWorld
   rw [flatK_fl, grow_empty]
   simp
  rw [hF]
  have hw := own_put_fl ho (F' := (fl xs.reverse).toArray) (by simp [fl_len]) n #[]
  refine ⟨he, R31_of_own (by rw [List.length_reverse]; exact hw) h.1, sortWorld_grown _ _ _ _ _ _ _⟩
theorem clone_calls (A0 : Option Addr) (c0 : Nat) (l0 : List S31) (w : World) (hr0 : Kd.C k31 w A0 l0.length l0) (h1 : 1 ≤ l0.length) (hsz : l0.length * 16 ≤ 140737488355328) :
  Calls Try.prog 73 #[.slice A0 l0.length c0] w fun e w' => ∃ v, e = .returned v ∧ Kd.R k31 31 w' w.heap.size (fun _ => True) v l0 ∧ Below w.heap.size w w' := by
 obtain ⟨i0, hi, hz0, hz1, hz2⟩ := info_parts info31
 obtain ⟨ad, rfl, hx, _⟩ := at_T31 hr0 0 (by omega) (by omega)
 have hsp := World.cell?_spot hx
 obtain ⟨b, off, q⟩ := ad
 have hq : q = none := by
  simp [Addr.add] at hsp
  exact hsp
 subst hq
 refine (AnyE.slices_Clone Try.cloneP i0 (.agg #[.int .i64 0, .int .i64 0]) 2 16 hi hz0 hz1 hz2 rfl (by decide) Try.sizeOf31 b off l0.length c0 (fl l0) w (fl_len l0) (by unfold maxLen; omega) (by omega) (fun j u hu => ?_) (fun u hu => fl_one l0 u hu)).mono ?_
 ·have hj : j < l0.length * 2 := by
   have := (List.getElem?_eq_some_iff.1 hu).1
   rwa [fl_len] at this
  obtain ⟨ad', e, hc⟩ := hr0.2.2 (by omega)
  cases e
  have hk : j / 2 < l0.length := by omega
  obtain ⟨c, hcl, hcK, hcc⟩ := hc (j / 2) _ (List.getElem?_eq_getElem hk)
  obtain rfl := k31_open hcK
  obtain ⟨g0, g1⟩ := fl_get l0 (j / 2) hk
  rw [show k31.sz = 2 from rfl] at hcc
  rcases Nat.mod_two_eq_zero_or_one j with h | h
  ·rw [show j = j / 2 * 2 by omega, g0] at hu
   have := hcc 0 _ rfl
   rw [Addr.add_lit, show j / 2 * 2 + 0 = j by omega] at this
   rw [this]; exact hu
  ·rw [show j = j / 2 * 2 + 1 by omega, g1] at hu
   have := hcc 1 _ rfl
   rw [Addr.add_lit, show j / 2 * 2 + 1 = j by omega] at this
   rw [this]; exact hu
 ·rintro e w' ⟨v, he, ho, _, hb⟩
  exact ⟨v, he, R31_of_own ho (fun _ _ => trivial), hb⟩
end Go.Proofs.Ythaklbjcjoolcaa.P
