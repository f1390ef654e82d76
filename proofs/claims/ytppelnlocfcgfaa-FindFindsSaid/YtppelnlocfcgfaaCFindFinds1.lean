/- Proved here: what functions that the law reaches compute, and plain laws of that. No conditions but those that the theorems state. Put together by a program; a part of it was printed by a program of the session's, by way of the kit's printer (wip/printplus.py, wip/mend.py). -/
import Derived.Test.YtppelnlocfcgfaaB1
import Derived.Test.YtppelnlocfcgfaaB2
import Derived.RangeFuncBox
import Derived.RangeFuncLeaves
import Derived.Shelf.Abstract
import Derived.OwnWalkIn
import Derived.TacticsInMore
import Derived.LoopNIn
import Derived.LoopIn
import Derived.Maps.AppendAt
import Derived.Shelf.Slices.In.SortNone
import Derived.Test.YtppelnlocfcgfaaB3
set_option linter.unusedVariables false
set_option linter.unusedSimpArgs false
namespace Go.Proofs.Ytppelnlocfcgfaa.P
open Go.RowKit Go.Proofs.YtppelnlocfcgfaaW.PrintWords Go.Proofs.YtppelnlocfcgfaaW.PrintLast Go.Proofs.YtppelnlocfcgfaaW.PrintMore
attribute [local go_sem] max2_int min2_int max_two min_two max_three min_three max_four min_four   -- for this text's walks alone
set_option linter.unusedVariables false
set_option linter.unusedSimpArgs false

/-! ### silversideref07_Find: function 37 -/
mutual
def silversideref07_Find.l0 : Nat → ByteArray → ByteArray → List Int → Int → Option (List Int)
 | 0, _, _, _, _ => none
 | k + 1, x0, x1, x5, x6 => if x6 < (x0.size : Int) then (silversideref07_Find.j1 k x0 x1 x5 x6 (decide ((wrap64 (x6 + (x1.size : Int))) ≤ (x0.size : Int)))) else (silversideref07_Find.j1 k x0 x1 x5 x6 false)
def silversideref07_Find.j1 : Nat → ByteArray → ByteArray → List Int → Int → Bool → Option (List Int)
 | 0, _, _, _, _, _ => none
 | k + 1, x0, x1, x5, x6, x19 => if x19 = true then (if 0 ≤ x6 then (if x6 ≤ (wrap64 (x6 + (x1.size : Int))) then (if (wrap64 (x6 + (x1.size : Int))) ≤ (x0.size : Int) then (if (x0.extract (x6 : Int).toNat ((wrap64 (x6 + (x1.size : Int))) : Int).toNat).toList = x1.toList then (if x5.length < 17592186044416 then (silversideref07_Find.l0 k x0 x1 (x5 ++ [x6]) (wrap64 (x6 + 1))) else (none)) else (silversideref07_Find.l0 k x0 x1 x5 (wrap64 (x6 + 1)))) else (none)) else (none)) else (none)) else (some x5)
end
def silversideref07_Find.f (k : Nat) (a0 : ByteArray) (a1 : ByteArray) : Option (List Int) := silversideref07_Find.l0 k a0 a1 ([] : List Int) 0
theorem silversideref07_Find.mono_l : ∀ k, (∀ y0 y1 y2 y3, LeO (silversideref07_Find.l0 k y0 y1 y2 y3) (silversideref07_Find.l0 (k + 1) y0 y1 y2 y3)) ∧ (∀ y0 y1 y2 y3 y4, LeO (silversideref07_Find.j1 k y0 y1 y2 y3 y4) (silversideref07_Find.j1 (k + 1) y0 y1 y2 y3 y4))
 | 0 => ⟨fun _ _ _ _ r h => by simp [silversideref07_Find.l0] at h, fun _ _ _ _ _ r h => by simp [silversideref07_Find.j1] at h⟩
 | k + 1 => by
  obtain ⟨ih0, ih1⟩ := silversideref07_Find.mono_l k
  refine ⟨?_, ?_⟩
  ·intro y0 y1 y2 y3
   unfold silversideref07_Find.l0
   repeat' first
   | (with_reducible exact ih0 _ _ _ _)
   | (with_reducible exact ih1 _ _ _ _ _)
   | (with_reducible exact LeO.refl _)
   | (with_reducible exact LeO.none _)
   | (with_reducible refine LeO.ite ?_ ?_)
   | (with_reducible refine LeO.bind ?_ (fun _ => ?_))
   | exact ih0 _ _ _ _
   | exact ih1 _ _ _ _ _
   | exact LeO.none _
   | refine LeO.ite ?_ ?_
   | refine LeO.bind ?_ (fun _ => ?_)
  ·intro y0 y1 y2 y3 y4
   unfold silversideref07_Find.j1
   repeat' first
   | (with_reducible exact ih0 _ _ _ _)
   | (with_reducible exact ih1 _ _ _ _ _)
   | (with_reducible exact LeO.refl _)
   | (with_reducible exact LeO.none _)
   | (with_reducible refine LeO.ite ?_ ?_)
   | (with_reducible refine LeO.bind ?_ (fun _ => ?_))
   | exact ih0 _ _ _ _
   | exact ih1 _ _ _ _ _
   | exact LeO.none _
   | refine LeO.ite ?_ ?_
   | refine LeO.bind ?_ (fun _ => ?_)
theorem silversideref07_Find.mono : ∀ a0 a1 k, LeO (silversideref07_Find.f k a0 a1) (silversideref07_Find.f (k + 1) a0 a1) := by
 intro a0 a1 k
 obtain ⟨ih0, ih1⟩ := silversideref07_Find.mono_l k
 unfold silversideref07_Find.f
 repeat' first
   | (with_reducible exact ih0 _ _ _ _)
   | (with_reducible exact ih1 _ _ _ _ _)
   | (with_reducible exact LeO.refl _)
   | (with_reducible exact LeO.none _)
   | (with_reducible refine LeO.ite ?_ ?_)
   | (with_reducible refine LeO.bind ?_ (fun _ => ?_))
   | exact ih0 _ _ _ _
   | exact ih1 _ _ _ _ _
   | exact LeO.none _
   | refine LeO.ite ?_ ?_
   | refine LeO.bind ?_ (fun _ => ?_)
set_option maxHeartbeats 8000000 in
set_option maxRecDepth 100000 in
theorem silversideref07_Find.calls (k : Nat) (a0 : ByteArray) (a1 : ByteArray) (r : List Int) (w : World) (h : silversideref07_Find.f k a0 a1 = some r) :
  Calls Try.prog 37 #[.string a0, .string a1] w fun e w' => ∃ v0_ : Value, e = .returned (v0_) ∧ Kd.R (Kd.int .i64) 3 w' w.heap.size (fun _ => True) v0_ r ∧ Below w.heap.size w w' := by
 have HB := Aside0.mk (Below.refl w.heap.size w)
 have H : (silversideref07_Find.l0 k a0 a1 ([] : List Int) 0) = some r := h
 clear h
 have H' := Aside0.mk H
 clear H
 go_enter Try.func37, Try.ntmps37
 go_wp2
 go_loopg [5, 6] k (fun kq v5 v6 w' => ∃ (x5_1 : List Int) (x6_1 : Int), v6 = .int .i64 x6_1 ∧ Aside0 (silversideref07_Find.l0 kq a0 a1 x5_1 x6_1 = some r) ∧ Aside0 (kq ≤ k) ∧ Aside0 (Kd.R (Kd.int .i64) 3 w' w.heap.size (fun _ => True) v5 x5_1) ∧ Aside0 (Below w.heap.size w w'))
 case atStart => exact ⟨(([] : List Int)), (0), (by first | rfl | (simp; done) | (simp [*]; done)), H', ⟨Nat.le_refl _⟩, ⟨by first | exact Kd.R_nil _ _ _ _ _ | exact Kd.N_nil _ _ _ _ _ | exact Kd.V_nil _ _ _ _ _ | exact Kd.Q_nil _ _ _ _ _ | exact Kd.S_nil _ _ _ _ _⟩, ⟨by repeat (first | (with_reducible first | exact HB.out | apply below_alloc | apply pw_below_drewN | apply below_drew1) | exact HB.out)⟩⟩
 case round =>
  clear H'
  try clear p2
  obtain ⟨x5_1, x6_1, rfl, HA, HK1, HO_5, HB⟩ := hrel
  cases gk with
  | zero => exact absurd HA.out (by simp [silversideref07_Find.l0])
  | succ k1 =>
   have H := HA.out
   clear HA
   simp only [silversideref07_Find.l0] at H
   have HC3 := Aside0.mk H
   clear H
   go_upto_region 3 with (fail)
   go_cut [19] (fun v19 wc => ∃ (kq : Nat) (x19_2 : Bool), v19 = .bool x19_2 ∧ Aside0 (silversideref07_Find.j1 kq a0 a1 x5_1 x6_1 x19_2 = some r) ∧ Aside0 (kq ≤ k1) ∧ Aside0 (Kd.R (Kd.int .i64) 3 wc w.heap.size (fun _ => True) u5 x5_1) ∧ Aside0 (Below w.heap.size w wc))
   case first =>
    have H := HC3.out
    clear HC3
    by_cases c4 : x6_1 < (a0.size : Int)
    ·rw [if_pos c4] at H
     have c4b0 : decide (x6_1 < (a0.size : Int)) = true := decide_eq_true c4
     clear c4
     (first | rw [c4b0] | (simp only [i64_w, i32_w]; rw [c4b0]) | skip)
     have H' := Aside0.mk H
     clear H
     go_wp2
     go_meet
     case rel => exact ⟨_, (decide ((wrap64 (x6_1 + (a1.size : Int))) ≤ (a0.size : Int))), (by first | rfl | (simp; done) | (simp [*]; done)), H', ⟨by have := HK1.out; first | omega | exact Nat.le_refl _⟩, ⟨by (with_reducible repeat (first | apply Kd.R_alloc | apply Kd.R_drewN | apply Kd.R_drew)); exact HO_5.out⟩, ⟨by repeat (first | (with_reducible first | exact HB.out | apply below_alloc | apply pw_below_drewN | apply below_drew1) | exact HB.out)⟩⟩
    ·rw [if_neg c4] at H
     have c4b0 : decide (x6_1 < (a0.size : Int)) = false := decide_eq_false c4
     clear c4
     (first | rw [c4b0] | (simp only [i64_w, i32_w]; rw [c4b0]) | skip)
     have H' := Aside0.mk H
     clear H
     go_wp2
     go_meet
     case rel => exact ⟨_, (false), (by first | rfl | (simp; done) | (simp [*]; done)), H', ⟨by have := HK1.out; first | omega | exact Nat.le_refl _⟩, ⟨by (with_reducible repeat (first | apply Kd.R_alloc | apply Kd.R_drewN | apply Kd.R_drew)); exact HO_5.out⟩, ⟨by repeat (first | (with_reducible first | exact HB.out | apply below_alloc | apply pw_below_drewN | apply below_drew1) | exact HB.out)⟩⟩
   case rest =>
    clear HC3
    try clear p2
    try clear c3
    try clear c4
    try clear c4b0
    try clear p2
    obtain ⟨kq, x19_2, rfl, HA, HJ2, HO_5, HB⟩ := hcut
    cases kq with
    | zero => exact absurd HA.out (by simp [silversideref07_Find.j1])
    | succ kj2 =>
     have H := HA.out
     clear HA
     simp only [silversideref07_Find.j1] at H
     by_cases c5 : x19_2 = true
     ·subst c5
      have H1 : (if 0 ≤ x6_1 then (if x6_1 ≤ (wrap64 (x6_1 + (a1.size : Int))) then (if (wrap64 (x6_1 + (a1.size : Int))) ≤ (a0.size : Int) then (if (a0.extract (x6_1 : Int).toNat ((wrap64 (x6_1 + (a1.size : Int))) : Int).toNat).toList = a1.toList then (if x5_1.length < 17592186044416 then (silversideref07_Find.l0 kj2 a0 a1 (x5_1 ++ [x6_1]) (wrap64 (x6_1 + 1))) else (none)) else (silversideref07_Find.l0 kj2 a0 a1 x5_1 (wrap64 (x6_1 + 1)))) else (none)) else (none)) else (none)) = some r := by rw [if_pos rfl] at H; exact H
      clear H
      have H := H1
      clear H1
      by_cases c6 : 0 ≤ x6_1
      ·rw [if_pos c6] at H
       have c6b0 := eq_true c6
       have c6b1 : decide (0 ≤ x6_1) = true := decide_eq_true c6
       clear c6
       by_cases c7 : x6_1 ≤ (wrap64 (x6_1 + (a1.size : Int)))
       ·rw [if_pos c7] at H
        have c7b0 := eq_true c7
        have c7b1 : decide (x6_1 ≤ (wrap64 (x6_1 + (a1.size : Int)))) = true := decide_eq_true c7
        by_cases c8 : (wrap64 (x6_1 + (a1.size : Int))) ≤ (a0.size : Int)
        ·rw [if_pos c8] at H
         have c8b0 := eq_true c8
         have c8b1 : decide ((wrap64 (x6_1 + (a1.size : Int))) ≤ (a0.size : Int)) = true := decide_eq_true c8
         by_cases c9 : (a0.extract (x6_1 : Int).toNat ((wrap64 (x6_1 + (a1.size : Int))) : Int).toNat).toList = a1.toList
         ·rw [if_pos c9] at H
          have c9b0 : ((a0.extract (x6_1 : Int).toNat ((wrap64 (x6_1 + (a1.size : Int))) : Int).toNat).toList == a1.toList) = true := beq_iff_eq.mpr c9
          have c9b1 : ((a0.extract (x6_1 : Int).toNat ((wrap64 (x6_1 + (a1.size : Int))) : Int).toNat).toList != a1.toList) = false := bne_eq_false_iff_eq.mpr c9
          clear c9
          by_cases c10 : x5_1.length < 17592186044416
          ·rw [if_pos c10] at H
           have LMc10 := Aside0.mk c10
           clear c10
           obtain ⟨y138, hy138⟩ : ∃ y_ : List Int, y_ = (x5_1 ++ [x6_1]) := ⟨_, rfl⟩
           replace H : (silversideref07_Find.l0 kj2 a0 a1 y138 (wrap64 (x6_1 + 1))) = some r := by first | (rw [hy138]; with_reducible exact H) | (have H2_ := (Option.bind_some _ _).symm.trans H; rw [hy138]; with_reducible exact H2_) | (have H2_ := (Option.bind_some _ _).symm.trans H; with_reducible exact H2_) | with_reducible exact H | (rw [hy138]; exact H) | exact H
           have Ny138 := Aside0.mk hy138
           clear hy138
           have H' := Aside0.mk H
           clear H
           go_wp2_with (first | ((with_reducible refine gate_builtin (b := .append) (xs := #[.tmp 31, .tmp 33]) rfl ?_); (try (refine gate_guard (by rfl) ?_; dsimp only)); at_builtin; refine Kd.R_append (Kd.int .i64) (w0 := w) w.heap.size rfl (.tmp 31) (.tmp 33) 22 3 (.int .i64 0) 8 rfl Try.underlying22 info3 rfl (by decide) (by omega) u5 x5_1 x6_1 [.int .i64 x6_1] (fun _ => True) (fun _ => False) rfl rfl ?aP (fun _ hk => hk.elim) ?aF ?aO ?aB ?aS ?aL ?_; (case aP => exact rfl); (case aB => exact (by repeat (first | (with_reducible first | exact HB.out | apply below_alloc | apply pw_below_drewN | apply below_drew1) | exact HB.out))); (case aF => exact (fun _ _ => trivial)); (case aO => exact (by (with_reducible repeat (first | apply Kd.R_alloc | apply Kd.R_drewN | apply Kd.R_drew)); exact HO_5.out)); (case aS => exact (below_size (by repeat (first | (with_reducible first | exact HB.out | apply below_alloc | apply pw_below_drewN | apply below_drew1) | exact HB.out)))); (case aL => have := LMc10.out; omega); intro v139 w11 ho hb hg hat; rw [← Ny138.out] at ho; have n0_ := Aside0.mk (hb); have n1_ := Aside0.mk (ho); clear HB; clear HO_5; have HB := n0_; have HO140 := n1_; clear n0_ n1_; clear ho hb hg hat))
           go_roundg kj2
           case measure => have := HK1.out; have := HJ2.out; omega
           case rel => exact ⟨(y138), (wrap64 (x6_1 + 1)), (by first | rfl | (simp; done) | (simp [*]; done)), H', ⟨by have := HK1.out; have := HJ2.out; omega⟩, ⟨by (with_reducible repeat (first | apply Kd.R_alloc | apply Kd.R_drewN | apply Kd.R_drew)); exact HO140.out⟩, ⟨by repeat (first | (with_reducible first | exact HB.out | apply below_alloc | apply pw_below_drewN | apply below_drew1) | exact HB.out)⟩⟩
          ·rw [if_neg c10] at H
           exact absurd H (by simp)
         ·rw [if_neg c9] at H
          have c9b0 : ((a0.extract (x6_1 : Int).toNat ((wrap64 (x6_1 + (a1.size : Int))) : Int).toNat).toList == a1.toList) = false := beq_eq_false_iff_ne.mpr c9
          have c9b1 : ((a0.extract (x6_1 : Int).toNat ((wrap64 (x6_1 + (a1.size : Int))) : Int).toNat).toList != a1.toList) = true := bne_iff_ne.mpr c9
          have H' := Aside0.mk H
          clear H
          go_wp2
          go_roundg kj2
          case measure => have := HK1.out; have := HJ2.out; omega
          case rel => exact ⟨(x5_1), (wrap64 (x6_1 + 1)), (by first | rfl | (simp; done) | (simp [*]; done)), H', ⟨by have := HK1.out; have := HJ2.out; omega⟩, ⟨by (with_reducible repeat (first | apply Kd.R_alloc | apply Kd.R_drewN | apply Kd.R_drew)); exact HO_5.out⟩, ⟨by repeat (first | (with_reducible first | exact HB.out | apply below_alloc | apply pw_below_drewN | apply below_drew1) | exact HB.out)⟩⟩
        ·rw [if_neg c8] at H
         exact absurd H (by simp)
       ·rw [if_neg c7] at H
        exact absurd H (by simp)
      ·rw [if_neg c6] at H
       exact absurd H (by simp)
     ·replace c5 := Bool.eq_false_iff.mpr c5
      subst c5
      have H1 : (some x5_1) = some r := by rw [if_neg (show ¬ (false = true) by decide)] at H; exact H
      clear H
      have H := H1
      clear H1
      obtain rfl := Option.some.inj H
      go_wp2
      go_ret
      exact ⟨_, by first | rfl | (simp [errW_none, errW_some] <;> rfl) | (simp [*, errW_none, errW_some] <;> rfl), by (with_reducible repeat (first | apply Kd.R_alloc | apply Kd.R_drewN | apply Kd.R_drew)); exact HO_5.out, by repeat (first | (with_reducible first | exact HB.out | apply below_alloc | apply pw_below_drewN | apply below_drew1) | exact HB.out)⟩

end Go.Proofs.Ytppelnlocfcgfaa.P
namespace Go.Proofs.Ytppelnlocfcgfaa.P
open Go.RowKit Go.Proofs.YtppelnlocfcgfaaW.PrintWords Go.Proofs.YtppelnlocfcgfaaW.PrintLast Go.Proofs.YtppelnlocfcgfaaW.PrintMore
attribute [local go_sem] max2_int min2_int max_two min_two max_three min_three max_four min_four   -- for this text's walks alone
set_option linter.unusedVariables false
set_option linter.unusedSimpArgs false

/-! ### slices_Index_int_int: function 51 -/
def slices_Index_int_int.l0 : Nat → List Int → Int → Int → Int → Option (Int)
 | 0, _, _, _, _ => none
 | k + 1, x0, x1, x7, x8 => if x8 < x7 then (if 0 ≤ x8 then (if x8 < (x0.length : Int) then (if x1 = (rd x0 x8) then (some x8) else (slices_Index_int_int.l0 k x0 x1 x7 (wrap64 (x8 + 1)))) else (none)) else (none)) else (some (-1))
def slices_Index_int_int.f (k : Nat) (l0 : List Int) (a1 : Int) : Option (Int) := slices_Index_int_int.l0 k l0 a1 (l0.length : Int) 0
theorem slices_Index_int_int.mono_l : ∀ k, (∀ y0 y1 y2 y3, LeO (slices_Index_int_int.l0 k y0 y1 y2 y3) (slices_Index_int_int.l0 (k + 1) y0 y1 y2 y3))
 | 0 => fun _ _ _ _ r h => by simp [slices_Index_int_int.l0] at h
 | k + 1 => by
  have ih0 := slices_Index_int_int.mono_l k
  ·intro y0 y1 y2 y3
   unfold slices_Index_int_int.l0
   repeat' first
   | (with_reducible exact ih0 _ _ _ _)
   | (with_reducible exact LeO.refl _)
   | (with_reducible exact LeO.none _)
   | (with_reducible refine LeO.ite ?_ ?_)
   | (with_reducible refine LeO.bind ?_ (fun _ => ?_))
   | exact ih0 _ _ _ _
   | exact LeO.none _
   | refine LeO.ite ?_ ?_
   | refine LeO.bind ?_ (fun _ => ?_)
theorem slices_Index_int_int.mono : ∀ a0 a1 k, LeO (slices_Index_int_int.f k a0 a1) (slices_Index_int_int.f (k + 1) a0 a1) := by
 intro a0 a1 k
 have ih0 := slices_Index_int_int.mono_l k
 unfold slices_Index_int_int.f
 repeat' first
   | (with_reducible exact ih0 _ _ _ _)
   | (with_reducible exact LeO.refl _)
   | (with_reducible exact LeO.none _)
   | (with_reducible refine LeO.ite ?_ ?_)
   | (with_reducible refine LeO.bind ?_ (fun _ => ?_))
   | exact ih0 _ _ _ _
   | exact LeO.none _
   | refine LeO.ite ?_ ?_
   | refine LeO.bind ?_ (fun _ => ?_)
set_option maxHeartbeats 8000000 in
set_option maxRecDepth 100000 in
theorem slices_Index_int_int.calls (k : Nat) (A0 : Option Addr) (c0 : Nat) (l0 : List Int) (a1 : Int) (r : Int) (w : World) (hr0 : Kd.C (Kd.int .i64) w A0 l0.length l0) (hc0 : l0.length ≤ c0) (h : slices_Index_int_int.f k l0 a1 = some r) :
  Calls Try.prog 51 #[.slice A0 l0.length c0, .int .i64 a1] w fun e w' => e = .returned (.int .i64 r) ∧ Drawn0 w w' := by
 have HR0 := Aside0.mk hr0
 have HC0 := Aside0.mk hc0
 clear hr0 hc0
 have H : (slices_Index_int_int.l0 k l0 a1 (l0.length : Int) 0) = some r := h
 clear h
 have H' := Aside0.mk H
 clear H
 go_enter Try.func51, Try.ntmps51
 go_wp2
 go_loopg [8] k (fun kq v8 w' => ∃ (x8_1 : Int), v8 = .int .i64 x8_1 ∧ Aside0 (slices_Index_int_int.l0 kq l0 a1 (l0.length : Int) x8_1 = some r) ∧ Aside0 (kq ≤ k) ∧ Drawn0 w w')
 case atStart => exact ⟨(0), (by first | rfl | (simp; done) | (simp [*]; done)), H', ⟨Nat.le_refl _⟩, by repeat (first | exact Drawn0.refl _ | apply Drawn0.step)⟩
 case round =>
  clear H'
  try clear p2
  obtain ⟨x8_1, rfl, HA, HK1, ⟨m1, rfl⟩⟩ := hrel
  cases gk with
  | zero => exact absurd HA.out (by simp [slices_Index_int_int.l0])
  | succ k1 =>
   have H := HA.out
   clear HA
   simp only [slices_Index_int_int.l0] at H
   by_cases c3 : x8_1 < (l0.length : Int)
   ·rw [if_pos c3] at H
    have c3b0 : decide (x8_1 < (l0.length : Int)) = true := decide_eq_true c3
    clear c3
    by_cases c4 : 0 ≤ x8_1
    ·rw [if_pos c4] at H
     have c4b0 : decide (0 ≤ x8_1) = true := decide_eq_true c4
     clear c4
     by_cases c5 : x8_1 < (l0.length : Int)
     ·rw [if_pos c5] at H
      have c5b0 : decide (x8_1 < (l0.length : Int)) = true := decide_eq_true c5
      clear c5
      by_cases c6 : a1 = (rd l0 x8_1)
      ·rw [if_pos c6] at H
       have c6b0 : (a1 == (rd l0 x8_1)) = true := beq_iff_eq.mpr c6
       have c6b1 : (a1 != (rd l0 x8_1)) = false := bne_eq_false_iff_eq.mpr c6
       clear c6
       obtain rfl := Option.some.inj H
       have p305 : 0 ≤ (x8_1 : Int) := of_decide_eq_true (by first | (with_reducible assumption) | assumption)
       have q305 : x8_1 < (l0.length : Int) := of_decide_eq_true (by first | (with_reducible assumption) | assumption)
       obtain ⟨ad305, e305, hx305_0⟩ := Kd.at_int HR0.out x8_1 p305 q305
       cases e305
       replace p305 := eq_true p305
       replace q305 := eq_true q305
       go_wp2
       go_ret
       exact ⟨by first | rfl | (simp; done) | (simp [*]; done), by repeat (first | exact Drawn0.refl _ | apply Drawn0.step)⟩
      ·rw [if_neg c6] at H
       have c6b0 : (a1 == (rd l0 x8_1)) = false := beq_eq_false_iff_ne.mpr c6
       have c6b1 : (a1 != (rd l0 x8_1)) = true := bne_iff_ne.mpr c6
       have H' := Aside0.mk H
       clear H
       have p305 : 0 ≤ (x8_1 : Int) := of_decide_eq_true (by first | (with_reducible assumption) | assumption)
       have q305 : x8_1 < (l0.length : Int) := of_decide_eq_true (by first | (with_reducible assumption) | assumption)
       obtain ⟨ad305, e305, hx305_0⟩ := Kd.at_int HR0.out x8_1 p305 q305
       cases e305
       replace p305 := eq_true p305
       replace q305 := eq_true q305
       go_wp2
       go_roundg k1
       case measure => have := HK1.out; omega
       case rel => exact ⟨(wrap64 (x8_1 + 1)), (by first | rfl | (simp; done) | (simp [*]; done)), H', ⟨by have := HK1.out; omega⟩, by repeat (first | exact Drawn0.refl _ | apply Drawn0.step)⟩
     ·rw [if_neg c5] at H
      exact absurd H (by simp)
    ·rw [if_neg c4] at H
     exact absurd H (by simp)
   ·rw [if_neg c3] at H
    have c3b0 : decide (x8_1 < (l0.length : Int)) = false := decide_eq_false c3
    clear c3
    obtain rfl := Option.some.inj H
    go_wp2
    go_ret
    exact ⟨by first | rfl | (simp; done) | (simp [*]; done), by repeat (first | exact Drawn0.refl _ | apply Drawn0.step)⟩

end Go.Proofs.Ytppelnlocfcgfaa.P
namespace Go.Proofs.Ytppelnlocfcgfaa.P
open Go.RowKit Go.Proofs.YtppelnlocfcgfaaW.PrintWords Go.Proofs.YtppelnlocfcgfaaW.PrintLast Go.Proofs.YtppelnlocfcgfaaW.PrintMore
attribute [local go_sem] max2_int min2_int max_two min_two max_three min_three max_four min_four   -- for this text's walks alone
set_option linter.unusedVariables false
set_option linter.unusedSimpArgs false

/-! ### find_Index_Shortest: function 35 -/
def find_Index_Shortest.j0 : Nat → Int → Bool → ByteArray → List Int → List Int → Option (Int × Int)
 | 0, _, _, _, _, _ => none
 | k + 1, x1, x16, x307000, x307001, x307002 => if x16 = true then (some (0, 2)) else ((slices_Index_int_int.f k x307001 x1).bind fun t307 => (if 0 ≤ t307 then (if t307 < (x307002.length : Int) then (if (wrap64 (t307 + 1)) < (x307001.length : Int) then (if 0 ≤ (wrap64 (t307 + 1)) then (if (wrap64 (t307 + 1)) < (x307002.length : Int) then (if (wrap64 (x1 + (mx (rd x307002 t307) (rd x307002 (wrap64 (t307 + 1)))))) ≥ (x307000.size : Int) then (some (0, 6)) else (some (wrap64 ((mx (rd x307002 t307) (rd x307002 (wrap64 (t307 + 1)))) + 1), 0))) else (none)) else (none)) else (if (wrap64 (x1 + (rd x307002 t307))) ≥ (x307000.size : Int) then (some (0, 6)) else (some (wrap64 ((rd x307002 t307) + 1), 0)))) else (none)) else (none)))
def find_Index_Shortest.f (k : Nat) (a0_0 : ByteArray) (l0_1 : List Int) (l0_2 : List Int) (a1 : Int) : Option (Int × Int) := if a1 < 0 then (find_Index_Shortest.j0 k a1 true a0_0 l0_1 l0_2) else (find_Index_Shortest.j0 k a1 (decide (a1 ≥ (a0_0.size : Int))) a0_0 l0_1 l0_2)
theorem find_Index_Shortest.mono_l : ∀ k, (∀ y0 y1 y2 y3 y4, LeO (find_Index_Shortest.j0 k y0 y1 y2 y3 y4) (find_Index_Shortest.j0 (k + 1) y0 y1 y2 y3 y4))
 | 0 => fun _ _ _ _ _ r h => by simp [find_Index_Shortest.j0] at h
 | k + 1 => by
  have ih0 := find_Index_Shortest.mono_l k
  ·intro y0 y1 y2 y3 y4
   unfold find_Index_Shortest.j0
   repeat' first
   | (with_reducible exact ih0 _ _ _ _ _)
   | (with_reducible exact slices_Index_int_int.mono _ _ _)
   | (with_reducible exact LeO.refl _)
   | (with_reducible exact LeO.none _)
   | (with_reducible refine LeO.ite ?_ ?_)
   | (with_reducible refine LeO.bind ?_ (fun _ => ?_))
   | exact ih0 _ _ _ _ _
   | exact slices_Index_int_int.mono _ _ _
   | exact LeO.none _
   | refine LeO.ite ?_ ?_
   | refine LeO.bind ?_ (fun _ => ?_)
theorem find_Index_Shortest.mono : ∀ a0 a1 a2 a3 k, LeO (find_Index_Shortest.f k a0 a1 a2 a3) (find_Index_Shortest.f (k + 1) a0 a1 a2 a3) := by
 intro a0 a1 a2 a3 k
 have ih0 := find_Index_Shortest.mono_l k
 unfold find_Index_Shortest.f
 repeat' first
   | (with_reducible exact ih0 _ _ _ _ _)
   | (with_reducible exact slices_Index_int_int.mono _ _ _)
   | (with_reducible exact LeO.refl _)
   | (with_reducible exact LeO.none _)
   | (with_reducible refine LeO.ite ?_ ?_)
   | (with_reducible refine LeO.bind ?_ (fun _ => ?_))
   | exact ih0 _ _ _ _ _
   | exact slices_Index_int_int.mono _ _ _
   | exact LeO.none _
   | refine LeO.ite ?_ ?_
   | refine LeO.bind ?_ (fun _ => ?_)
set_option maxHeartbeats 8000000 in
set_option maxRecDepth 100000 in
theorem find_Index_Shortest.calls (k : Nat) (a0_0 : ByteArray) (A0_1 : Option Addr) (c0_1 : Nat) (l0_1 : List Int) (A0_2 : Option Addr) (c0_2 : Nat) (l0_2 : List Int) (a1 : Int) (r1 : Int) (r2 : Int) (w : World) (hr0_1 : Kd.C (Kd.int .i64) w A0_1 l0_1.length l0_1) (hc0_1 : l0_1.length ≤ c0_1) (hr0_2 : Kd.C (Kd.int .i64) w A0_2 l0_2.length l0_2) (hc0_2 : l0_2.length ≤ c0_2) (h : find_Index_Shortest.f k a0_0 l0_1 l0_2 a1 = some (r1, r2)) :
  Calls Try.prog 35 #[.agg #[.string a0_0, .slice A0_1 l0_1.length c0_1, .slice A0_2 l0_2.length c0_2], .int .i64 a1] w fun e w' => e = .returned (.tuple #[.int .i64 r1, .int .i64 r2]) ∧ Below w.heap.size w w' := by
 have hu24 := Try.underlying24
 have HR0_1 := Aside0.mk hr0_1
 have HC0_1 := Aside0.mk hc0_1
 clear hr0_1 hc0_1
 have HR0_2 := Aside0.mk hr0_2
 have HC0_2 := Aside0.mk hc0_2
 clear hr0_2 hc0_2
 have HB := Aside0.mk (Below.refl w.heap.size w)
 have H : (if a1 < 0 then (find_Index_Shortest.j0 k a1 true a0_0 l0_1 l0_2) else (find_Index_Shortest.j0 k a1 (decide (a1 ≥ (a0_0.size : Int))) a0_0 l0_1 l0_2)) = some (r1, r2) := h
 clear h
 have HC3 := Aside0.mk H
 clear H
 go_enter Try.func35, Try.ntmps35
 go_upto_region 1 with (first | ((with_reducible refine gate_dst (N := 2) rfl ?_); (try (refine gate_guard (by rfl) ?_; dsimp only)); refine box_event ?hg (N := 2) ?hd (cs := #[.string a0_0, .slice A0_1 l0_1.length c0_1, .slice A0_2 l0_2.length c0_2]) (t := 24) ?hr ?_; (case hd => rfl); (case hg => rfl); (case hr => first | (go_simp; done) | (go_simp; rfl)); intro gb306 hg w4 hbox hb; have n0_ := Aside0.mk (below_step (by repeat (first | (with_reducible first | exact HB.out | apply below_alloc | apply pw_below_drewN | apply below_drew1) | exact HB.out)) hb); have n1_ := Aside0.mk (hbox); have n2_ := Aside0.mk ((by rw [hg]; exact (below_size (by repeat (first | (with_reducible first | exact HB.out | apply below_alloc | apply pw_below_drewN | apply below_drew1) | exact HB.out))) : w.heap.size ≤ gb306)); have n3_ := Aside0.mk ((by rw [hg]; exact (below_size (by repeat (first | (with_reducible first | exact HB.out | apply below_alloc | apply pw_below_drewN | apply below_drew1) | exact HB.out))) : w.heap.size ≤ gb306)); clear HB; have HB := n0_; have BK306 := n1_; have GW306 := n2_; have GE306 := n3_; clear n0_ n1_ n2_ n3_; clear hb hbox hg))
 (try simp only [Act.put, List.setIfInBounds_toArray, List.set_cons_zero, List.set_cons_succ])
 go_cut [16] (fun v16 wc => ∃ (kq : Nat) (x16_2 : Bool), v16 = .bool x16_2 ∧ Aside0 (find_Index_Shortest.j0 kq a1 x16_2 a0_0 l0_1 l0_2 = some (r1, r2)) ∧ Aside0 (kq ≤ k) ∧ Aside0 (wc.heap[gb306]? = some (.cells #[.string a0_0, (.slice A0_1 l0_1.length c0_1), (.slice A0_2 l0_2.length c0_2)] 24 (0, 0))) ∧ Aside0 (Below w.heap.size w wc))
 case first =>
  have H := HC3.out
  clear HC3
  by_cases c5 : a1 < 0
  ·rw [if_pos c5] at H
   have c5b0 : decide (a1 < 0) = true := decide_eq_true c5
   clear c5
   (first | rw [c5b0] | (simp only [i64_w, i32_w]; rw [c5b0]) | skip)
   have H' := Aside0.mk H
   clear H
   go_wp2
   go_meet
   case rel => exact ⟨_, (true), (by first | rfl | (simp; done) | (simp [*]; done)), H', ⟨by first | omega | exact Nat.le_refl _⟩, ⟨by (with_reducible repeat (first | refine blk_drewN ?_ _ | refine blk_drew ?_ | refine blk_alloc ?_ _)); exact BK306.out⟩, ⟨by repeat (first | (with_reducible first | exact HB.out | apply below_alloc | apply pw_below_drewN | apply below_drew1 | refine below_set ?_ GE306.out) | exact HB.out)⟩⟩
  ·rw [if_neg c5] at H
   have c5b0 : decide (a1 < 0) = false := decide_eq_false c5
   clear c5
   (first | rw [c5b0] | (simp only [i64_w, i32_w]; rw [c5b0]) | skip)
   have H' := Aside0.mk H
   clear H
   have hcz6_0 : w4.cell? ⟨gb306, 0, none⟩ = some (.string a0_0) := (blk_cell BK306.out 0).trans rfl
   have hcz6_1 : w4.cell? ⟨gb306, 1, none⟩ = some (.slice A0_1 l0_1.length c0_1) := (blk_cell BK306.out 1).trans rfl
   have hcz6_2 : w4.cell? ⟨gb306, 2, none⟩ = some (.slice A0_2 l0_2.length c0_2) := (blk_cell BK306.out 2).trans rfl
   have hfz6_0 := blk_frozen BK306.out 0
   have hfz6_1 := blk_frozen BK306.out 1
   have hfz6_2 := blk_frozen BK306.out 2
   go_wp2
   go_meet
   case rel => exact ⟨_, (decide (a1 ≥ (a0_0.size : Int))), (by first | rfl | (simp; done) | (simp [*]; done)), H', ⟨by first | omega | exact Nat.le_refl _⟩, ⟨by (with_reducible repeat (first | refine blk_drewN ?_ _ | refine blk_drew ?_ | refine blk_alloc ?_ _)); exact BK306.out⟩, ⟨by repeat (first | (with_reducible first | exact HB.out | apply below_alloc | apply pw_below_drewN | apply below_drew1 | refine below_set ?_ GE306.out) | exact HB.out)⟩⟩
 case rest =>
  clear HC3
  try clear p2
  try clear c3
  try clear c5
  try clear c5b0
  try clear hcz6_0
  try clear hcz6_1
  try clear hcz6_2
  try clear hfz6_0
  try clear hfz6_1
  try clear hfz6_2
  obtain ⟨kq, x16_2, rfl, HA, HJ2, BK306, HB⟩ := hcut
  cases kq with
  | zero => exact absurd HA.out (by simp [find_Index_Shortest.j0])
  | succ kj2 =>
   have H := HA.out
   clear HA
   simp only [find_Index_Shortest.j0] at H
   by_cases c7 : x16_2 = true
   ·subst c7
    have H1 : (some (0, 2)) = some (r1, r2) := by rw [if_pos rfl] at H; exact H
    clear H
    have H := H1
    clear H1
    simp only [Option.some.injEq, Prod.mk.injEq] at H
    obtain ⟨rfl, rfl⟩ := H
    go_wp2
    go_ret2
    exact ⟨by first | rfl | (simp [errW_none, errW_some] <;> rfl) | (simp [*, errW_none, errW_some] <;> rfl), by repeat (first | (with_reducible first | exact HB.out | apply below_alloc | apply pw_below_drewN | apply below_drew1 | refine below_set ?_ GE306.out) | exact HB.out)⟩
   ·replace c7 := Bool.eq_false_iff.mpr c7
    subst c7
    have H1 : ((slices_Index_int_int.f kj2 l0_1 a1).bind fun t307 => (if 0 ≤ t307 then (if t307 < (l0_2.length : Int) then (if (wrap64 (t307 + 1)) < (l0_1.length : Int) then (if 0 ≤ (wrap64 (t307 + 1)) then (if (wrap64 (t307 + 1)) < (l0_2.length : Int) then (if (wrap64 (a1 + (mx (rd l0_2 t307) (rd l0_2 (wrap64 (t307 + 1)))))) ≥ (a0_0.size : Int) then (some (0, 6)) else (some (wrap64 ((mx (rd l0_2 t307) (rd l0_2 (wrap64 (t307 + 1)))) + 1), 0))) else (none)) else (none)) else (if (wrap64 (a1 + (rd l0_2 t307))) ≥ (a0_0.size : Int) then (some (0, 6)) else (some (wrap64 ((rd l0_2 t307) + 1), 0)))) else (none)) else (none))) = some (r1, r2) := by rw [if_neg (show ¬ (false = true) by decide)] at H; exact H
    clear H
    have H := H1
    clear H1
    replace H := Option.bind_eq_some_iff.mp H
    obtain ⟨t307, A80, H⟩ := H
    replace H : (if 0 ≤ t307 then (if t307 < (l0_2.length : Int) then (if (wrap64 (t307 + 1)) < (l0_1.length : Int) then (if 0 ≤ (wrap64 (t307 + 1)) then (if (wrap64 (t307 + 1)) < (l0_2.length : Int) then (if (wrap64 (a1 + (mx (rd l0_2 t307) (rd l0_2 (wrap64 (t307 + 1)))))) ≥ (a0_0.size : Int) then (some (0, 6)) else (some (wrap64 ((mx (rd l0_2 t307) (rd l0_2 (wrap64 (t307 + 1)))) + 1), 0))) else (none)) else (none)) else (if (wrap64 (a1 + (rd l0_2 t307))) ≥ (a0_0.size : Int) then (some (0, 6)) else (some (wrap64 ((rd l0_2 t307) + 1), 0)))) else (none)) else (none)) = some (r1, r2) := H
    have A8 := Aside0.mk A80
    clear A80
    by_cases c9 : 0 ≤ t307
    ·rw [if_pos c9] at H
     have c9b0 : decide (0 ≤ t307) = true := decide_eq_true c9
     clear c9
     by_cases c10 : t307 < (l0_2.length : Int)
     ·rw [if_pos c10] at H
      have c10b0 : decide (t307 < (l0_2.length : Int)) = true := decide_eq_true c10
      clear c10
      by_cases c11 : (wrap64 (t307 + 1)) < (l0_1.length : Int)
      ·rw [if_pos c11] at H
       have c11b0 : decide ((wrap64 (t307 + 1)) < (l0_1.length : Int)) = true := decide_eq_true c11
       clear c11
       obtain ⟨ji12, hji12⟩ : ∃ j_ : Int, (wrap64 (t307 + 1)) = j_ := ⟨_, rfl⟩
       replace H : (if 0 ≤ (ji12) then (if (ji12) < (l0_2.length : Int) then (if (wrap64 (a1 + (mx (rd l0_2 t307) (rd l0_2 (ji12))))) ≥ (a0_0.size : Int) then (some (0, 6)) else (some (wrap64 ((mx (rd l0_2 t307) (rd l0_2 (ji12))) + 1), 0))) else (none)) else (none)) = some (r1, r2) := by first | (rw [hji12] at H; exact H) | (simp only [hji12] at H ⊢; exact H)
       (try rw [hji12] at c11b0)
       (try rw [hji12] at A8)
       have hji12w : (IntKind.i64.wrap (t307 + 1)) = ji12 := (i64_w _).trans hji12
       by_cases c13 : 0 ≤ (ji12)
       ·rw [if_pos c13] at H
        have c13b0 : decide (0 ≤ (ji12)) = true := decide_eq_true c13
        clear c13
        by_cases c14 : (ji12) < (l0_2.length : Int)
        ·rw [if_pos c14] at H
         have c14b0 : decide ((ji12) < (l0_2.length : Int)) = true := decide_eq_true c14
         clear c14
         obtain ⟨ji15, hji15⟩ : ∃ j_ : Int, (mx (rd l0_2 t307) (rd l0_2 (ji12))) = j_ := ⟨_, rfl⟩
         replace H : (if (wrap64 (a1 + (ji15))) ≥ (a0_0.size : Int) then (some (0, 6)) else (some (wrap64 ((ji15) + 1), 0))) = some (r1, r2) := by first | (rw [hji15] at H; exact H) | (simp only [hji15] at H ⊢; exact H)
         (try rw [hji15] at A8)
         have hji15_ : (if (rd l0_2 t307) < (rd l0_2 (ji12)) then (rd l0_2 (ji12)) else (rd l0_2 t307)) = ji15 := hji15
         by_cases c16 : (wrap64 (a1 + (ji15))) ≥ (a0_0.size : Int)
         ·rw [if_pos c16] at H
          have c16b0 : decide ((a0_0.size : Int) ≤ (wrap64 (a1 + (ji15)))) = true := decide_eq_true c16
          clear c16
          simp only [Option.some.injEq, Prod.mk.injEq] at H
          obtain ⟨rfl, rfl⟩ := H
          have hcz17_0 : wc.cell? ⟨gb306, 0, none⟩ = some (.string a0_0) := (blk_cell BK306.out 0).trans rfl
          have hcz17_1 : wc.cell? ⟨gb306, 1, none⟩ = some (.slice A0_1 l0_1.length c0_1) := (blk_cell BK306.out 1).trans rfl
          have hcz17_2 : wc.cell? ⟨gb306, 2, none⟩ = some (.slice A0_2 l0_2.length c0_2) := (blk_cell BK306.out 2).trans rfl
          have hfz17_0 := blk_frozen BK306.out 0
          have hfz17_1 := blk_frozen BK306.out 1
          have hfz17_2 := blk_frozen BK306.out 2
          go_wp2_with (first | ((with_reducible refine gate_callee (f := 51) rfl ?_); refine goesL_ (some 20) rfl rfl Try.func51 (by kernel_rfl) rfl #[.slice A0_1 l0_1.length c0_1, .int .i64 a1] rfl (by (try simp only [List.map_toArray, List.map_cons, List.map_nil]); first | done | rfl | (simp only [List.length_drop, List.length_take]; rfl)) ?_; (with_reducible refine (slices_Index_int_int.calls kj2 _ _ l0_1 a1 t307 _ ?side1 ?side2 A8.out).mono ?_); (case side1 => repeat (first | exact (Kd.C_below HR0_1.out HB.out) | (with_reducible refine Kd.C_alloc ?_ _) | (with_reducible refine Kd.C_drewN ?_ _) | (with_reducible refine Kd.C_drew ?_))); (case side2 => exact HC0_1.out); rintro e w' ⟨rfl, ⟨nd, rfl⟩⟩; refine ⟨_, rfl, ?_⟩; have p308 : 0 ≤ (t307 : Int) := of_decide_eq_true (by first | (with_reducible assumption) | assumption); have q308 : t307 < (l0_2.length : Int) := of_decide_eq_true (by first | (with_reducible assumption) | assumption); obtain ⟨ad308, e308, hx308_0⟩ := Kd.at_int HR0_2.out t307 p308 q308; cases e308; replace hx308_0 := (HB.out.cell (World.block_lt_of_cell? w _ hx308_0)).trans hx308_0; replace p308 := eq_true p308; replace q308 := eq_true q308; have p309 : 0 ≤ ((ji12) : Int) := of_decide_eq_true (by first | (with_reducible assumption) | assumption); have q309 : (ji12) < (l0_2.length : Int) := of_decide_eq_true (by first | (with_reducible assumption) | assumption); obtain ⟨ad309, e309, hx309_0⟩ := Kd.at_int HR0_2.out (ji12) p309 q309; obtain rfl : ad308 = ad309 := (by injection e309); replace hx309_0 := (HB.out.cell (World.block_lt_of_cell? w _ hx309_0)).trans hx309_0; replace p309 := eq_true p309; replace q309 := eq_true q309))
          go_ret2
          exact ⟨by first | rfl | (simp [errW_none, errW_some] <;> rfl) | (simp only [← hji12, ← hji15]; first | rfl | (simp [errW_none, errW_some] <;> rfl)) | (simp [*, errW_none, errW_some] <;> rfl), by repeat (first | (with_reducible first | exact HB.out | apply below_alloc | apply pw_below_drewN | apply below_drew1 | refine below_set ?_ GE306.out) | exact HB.out)⟩
         ·rw [if_neg c16] at H
          have c16b0 : decide ((a0_0.size : Int) ≤ (wrap64 (a1 + (ji15)))) = false := decide_eq_false c16
          clear c16
          simp only [Option.some.injEq, Prod.mk.injEq] at H
          obtain ⟨rfl, rfl⟩ := H
          have hcz18_0 : wc.cell? ⟨gb306, 0, none⟩ = some (.string a0_0) := (blk_cell BK306.out 0).trans rfl
          have hcz18_1 : wc.cell? ⟨gb306, 1, none⟩ = some (.slice A0_1 l0_1.length c0_1) := (blk_cell BK306.out 1).trans rfl
          have hcz18_2 : wc.cell? ⟨gb306, 2, none⟩ = some (.slice A0_2 l0_2.length c0_2) := (blk_cell BK306.out 2).trans rfl
          have hfz18_0 := blk_frozen BK306.out 0
          have hfz18_1 := blk_frozen BK306.out 1
          have hfz18_2 := blk_frozen BK306.out 2
          go_wp2_with (first | ((with_reducible refine gate_callee (f := 51) rfl ?_); refine goesL_ (some 20) rfl rfl Try.func51 (by kernel_rfl) rfl #[.slice A0_1 l0_1.length c0_1, .int .i64 a1] rfl (by (try simp only [List.map_toArray, List.map_cons, List.map_nil]); first | done | rfl | (simp only [List.length_drop, List.length_take]; rfl)) ?_; (with_reducible refine (slices_Index_int_int.calls kj2 _ _ l0_1 a1 t307 _ ?side1 ?side2 A8.out).mono ?_); (case side1 => repeat (first | exact (Kd.C_below HR0_1.out HB.out) | (with_reducible refine Kd.C_alloc ?_ _) | (with_reducible refine Kd.C_drewN ?_ _) | (with_reducible refine Kd.C_drew ?_))); (case side2 => exact HC0_1.out); rintro e w' ⟨rfl, ⟨nd, rfl⟩⟩; refine ⟨_, rfl, ?_⟩; have p308 : 0 ≤ (t307 : Int) := of_decide_eq_true (by first | (with_reducible assumption) | assumption); have q308 : t307 < (l0_2.length : Int) := of_decide_eq_true (by first | (with_reducible assumption) | assumption); obtain ⟨ad308, e308, hx308_0⟩ := Kd.at_int HR0_2.out t307 p308 q308; cases e308; replace hx308_0 := (HB.out.cell (World.block_lt_of_cell? w _ hx308_0)).trans hx308_0; replace p308 := eq_true p308; replace q308 := eq_true q308; have p309 : 0 ≤ ((ji12) : Int) := of_decide_eq_true (by first | (with_reducible assumption) | assumption); have q309 : (ji12) < (l0_2.length : Int) := of_decide_eq_true (by first | (with_reducible assumption) | assumption); obtain ⟨ad309, e309, hx309_0⟩ := Kd.at_int HR0_2.out (ji12) p309 q309; obtain rfl : ad308 = ad309 := (by injection e309); replace hx309_0 := (HB.out.cell (World.block_lt_of_cell? w _ hx309_0)).trans hx309_0; replace p309 := eq_true p309; replace q309 := eq_true q309))
          go_ret2
          exact ⟨by first | rfl | (simp [errW_none, errW_some] <;> rfl) | (simp only [← hji12, ← hji15]; first | rfl | (simp [errW_none, errW_some] <;> rfl)) | (simp [*, errW_none, errW_some] <;> rfl), by repeat (first | (with_reducible first | exact HB.out | apply below_alloc | apply pw_below_drewN | apply below_drew1 | refine below_set ?_ GE306.out) | exact HB.out)⟩
        ·rw [if_neg c14] at H
         exact absurd H (by simp)
       ·rw [if_neg c13] at H
        exact absurd H (by simp)
      ·rw [if_neg c11] at H
       have c11b0 : decide ((wrap64 (t307 + 1)) < (l0_1.length : Int)) = false := decide_eq_false c11
       clear c11
       by_cases c19 : (wrap64 (a1 + (rd l0_2 t307))) ≥ (a0_0.size : Int)
       ·rw [if_pos c19] at H
        have c19b0 : decide ((a0_0.size : Int) ≤ (wrap64 (a1 + (rd l0_2 t307)))) = true := decide_eq_true c19
        clear c19
        simp only [Option.some.injEq, Prod.mk.injEq] at H
        obtain ⟨rfl, rfl⟩ := H
        have hcz20_0 : wc.cell? ⟨gb306, 0, none⟩ = some (.string a0_0) := (blk_cell BK306.out 0).trans rfl
        have hcz20_1 : wc.cell? ⟨gb306, 1, none⟩ = some (.slice A0_1 l0_1.length c0_1) := (blk_cell BK306.out 1).trans rfl
        have hcz20_2 : wc.cell? ⟨gb306, 2, none⟩ = some (.slice A0_2 l0_2.length c0_2) := (blk_cell BK306.out 2).trans rfl
        have hfz20_0 := blk_frozen BK306.out 0
        have hfz20_1 := blk_frozen BK306.out 1
        have hfz20_2 := blk_frozen BK306.out 2
        go_wp2_with (first | ((with_reducible refine gate_callee (f := 51) rfl ?_); refine goesL_ (some 20) rfl rfl Try.func51 (by kernel_rfl) rfl #[.slice A0_1 l0_1.length c0_1, .int .i64 a1] rfl (by (try simp only [List.map_toArray, List.map_cons, List.map_nil]); first | done | rfl | (simp only [List.length_drop, List.length_take]; rfl)) ?_; (with_reducible refine (slices_Index_int_int.calls kj2 _ _ l0_1 a1 t307 _ ?side1 ?side2 A8.out).mono ?_); (case side1 => repeat (first | exact (Kd.C_below HR0_1.out HB.out) | (with_reducible refine Kd.C_alloc ?_ _) | (with_reducible refine Kd.C_drewN ?_ _) | (with_reducible refine Kd.C_drew ?_))); (case side2 => exact HC0_1.out); rintro e w' ⟨rfl, ⟨nd, rfl⟩⟩; refine ⟨_, rfl, ?_⟩; have p308 : 0 ≤ (t307 : Int) := of_decide_eq_true (by first | (with_reducible assumption) | assumption); have q308 : t307 < (l0_2.length : Int) := of_decide_eq_true (by first | (with_reducible assumption) | assumption); obtain ⟨ad308, e308, hx308_0⟩ := Kd.at_int HR0_2.out t307 p308 q308; cases e308; replace hx308_0 := (HB.out.cell (World.block_lt_of_cell? w _ hx308_0)).trans hx308_0; replace p308 := eq_true p308; replace q308 := eq_true q308))
        go_ret2
        exact ⟨by first | rfl | (simp [errW_none, errW_some] <;> rfl) | (simp [*, errW_none, errW_some] <;> rfl), by repeat (first | (with_reducible first | exact HB.out | apply below_alloc | apply pw_below_drewN | apply below_drew1 | refine below_set ?_ GE306.out) | exact HB.out)⟩
       ·rw [if_neg c19] at H
        have c19b0 : decide ((a0_0.size : Int) ≤ (wrap64 (a1 + (rd l0_2 t307)))) = false := decide_eq_false c19
        clear c19
        simp only [Option.some.injEq, Prod.mk.injEq] at H
        obtain ⟨rfl, rfl⟩ := H
        have hcz21_0 : wc.cell? ⟨gb306, 0, none⟩ = some (.string a0_0) := (blk_cell BK306.out 0).trans rfl
        have hcz21_1 : wc.cell? ⟨gb306, 1, none⟩ = some (.slice A0_1 l0_1.length c0_1) := (blk_cell BK306.out 1).trans rfl
        have hcz21_2 : wc.cell? ⟨gb306, 2, none⟩ = some (.slice A0_2 l0_2.length c0_2) := (blk_cell BK306.out 2).trans rfl
        have hfz21_0 := blk_frozen BK306.out 0
        have hfz21_1 := blk_frozen BK306.out 1
        have hfz21_2 := blk_frozen BK306.out 2
        go_wp2_with (first | ((with_reducible refine gate_callee (f := 51) rfl ?_); refine goesL_ (some 20) rfl rfl Try.func51 (by kernel_rfl) rfl #[.slice A0_1 l0_1.length c0_1, .int .i64 a1] rfl (by (try simp only [List.map_toArray, List.map_cons, List.map_nil]); first | done | rfl | (simp only [List.length_drop, List.length_take]; rfl)) ?_; (with_reducible refine (slices_Index_int_int.calls kj2 _ _ l0_1 a1 t307 _ ?side1 ?side2 A8.out).mono ?_); (case side1 => repeat (first | exact (Kd.C_below HR0_1.out HB.out) | (with_reducible refine Kd.C_alloc ?_ _) | (with_reducible refine Kd.C_drewN ?_ _) | (with_reducible refine Kd.C_drew ?_))); (case side2 => exact HC0_1.out); rintro e w' ⟨rfl, ⟨nd, rfl⟩⟩; refine ⟨_, rfl, ?_⟩; have p308 : 0 ≤ (t307 : Int) := of_decide_eq_true (by first | (with_reducible assumption) | assumption); have q308 : t307 < (l0_2.length : Int) := of_decide_eq_true (by first | (with_reducible assumption) | assumption); obtain ⟨ad308, e308, hx308_0⟩ := Kd.at_int HR0_2.out t307 p308 q308; cases e308; replace hx308_0 := (HB.out.cell (World.block_lt_of_cell? w _ hx308_0)).trans hx308_0; replace p308 := eq_true p308; replace q308 := eq_true q308))
        go_ret2
        exact ⟨by first | rfl | (simp [errW_none, errW_some] <;> rfl) | (simp [*, errW_none, errW_some] <;> rfl), by repeat (first | (with_reducible first | exact HB.out | apply below_alloc | apply pw_below_drewN | apply below_drew1 | refine below_set ?_ GE306.out) | exact HB.out)⟩
     ·rw [if_neg c10] at H
      exact absurd H (by simp)
    ·rw [if_neg c9] at H
     exact absurd H (by simp)

end Go.Proofs.Ytppelnlocfcgfaa.P
namespace Go.Proofs.Ytppelnlocfcgfaa.P
open Go.RowKit Go.Proofs.YtppelnlocfcgfaaW.PrintWords Go.Proofs.YtppelnlocfcgfaaW.PrintLast Go.Proofs.YtppelnlocfcgfaaW.PrintMore
attribute [local go_sem] max2_int min2_int max_two min_two max_three min_three max_four min_four   -- for this text's walks alone
set_option linter.unusedVariables false
set_option linter.unusedSimpArgs false

/-! ### silversideref07_Shortest: function 36 -/
mutual
def silversideref07_Shortest.j0 : Nat → ByteArray → Int → Bool → Option (Int × Int)
 | 0, _, _, _ => none
 | k + 1, x0, x1, x15 => if x15 = true then (some (0, 2)) else (silversideref07_Shortest.l0 k x0 x1 0 0)
def silversideref07_Shortest.l0 : Nat → ByteArray → Int → Int → Int → Option (Int × Int)
 | 0, _, _, _, _ => none
 | k + 1, x0, x1, x6, x7 => if x7 < (x0.size : Int) then (if x7 = x1 then (silversideref07_Shortest.l0 k x0 x1 x6 (wrap64 (x7 + 1))) else ((silversideref07_Common.f k x0 x1 x0 x7).bind fun t310 => (silversideref07_Shortest.l0 k x0 x1 (mx x6 t310) (wrap64 (x7 + 1))))) else (if (wrap64 (x1 + x6)) = (x0.size : Int) then (some (0, 6)) else (some (wrap64 (x6 + 1), 0)))
end
def silversideref07_Shortest.f (k : Nat) (a0 : ByteArray) (a1 : Int) : Option (Int × Int) := if a1 < 0 then (silversideref07_Shortest.j0 k a0 a1 true) else (silversideref07_Shortest.j0 k a0 a1 (decide (a1 ≥ (a0.size : Int))))
theorem silversideref07_Shortest.mono_l : ∀ k, (∀ y0 y1 y2, LeO (silversideref07_Shortest.j0 k y0 y1 y2) (silversideref07_Shortest.j0 (k + 1) y0 y1 y2)) ∧ (∀ y0 y1 y2 y3, LeO (silversideref07_Shortest.l0 k y0 y1 y2 y3) (silversideref07_Shortest.l0 (k + 1) y0 y1 y2 y3))
 | 0 => ⟨fun _ _ _ r h => by simp [silversideref07_Shortest.j0] at h, fun _ _ _ _ r h => by simp [silversideref07_Shortest.l0] at h⟩
 | k + 1 => by
  obtain ⟨ih0, ih1⟩ := silversideref07_Shortest.mono_l k
  refine ⟨?_, ?_⟩
  ·intro y0 y1 y2
   unfold silversideref07_Shortest.j0
   repeat' first
   | (with_reducible exact ih0 _ _ _)
   | (with_reducible exact ih1 _ _ _ _)
   | (with_reducible exact silversideref07_Common.mono _ _ _ _ _)
   | (with_reducible exact LeO.refl _)
   | (with_reducible exact LeO.none _)
   | (with_reducible refine LeO.ite ?_ ?_)
   | (with_reducible refine LeO.bind ?_ (fun _ => ?_))
   | exact ih0 _ _ _
   | exact ih1 _ _ _ _
   | exact silversideref07_Common.mono _ _ _ _ _
   | exact LeO.none _
   | refine LeO.ite ?_ ?_
   | refine LeO.bind ?_ (fun _ => ?_)
  ·intro y0 y1 y2 y3
   unfold silversideref07_Shortest.l0
   repeat' first
   | (with_reducible exact ih0 _ _ _)
   | (with_reducible exact ih1 _ _ _ _)
   | (with_reducible exact silversideref07_Common.mono _ _ _ _ _)
   | (with_reducible exact LeO.refl _)
   | (with_reducible exact LeO.none _)
   | (with_reducible refine LeO.ite ?_ ?_)
   | (with_reducible refine LeO.bind ?_ (fun _ => ?_))
   | exact ih0 _ _ _
   | exact ih1 _ _ _ _
   | exact silversideref07_Common.mono _ _ _ _ _
   | exact LeO.none _
   | refine LeO.ite ?_ ?_
   | refine LeO.bind ?_ (fun _ => ?_)
theorem silversideref07_Shortest.mono : ∀ a0 a1 k, LeO (silversideref07_Shortest.f k a0 a1) (silversideref07_Shortest.f (k + 1) a0 a1) := by
 intro a0 a1 k
 obtain ⟨ih0, ih1⟩ := silversideref07_Shortest.mono_l k
 unfold silversideref07_Shortest.f
 repeat' first
   | (with_reducible exact ih0 _ _ _)
   | (with_reducible exact ih1 _ _ _ _)
   | (with_reducible exact silversideref07_Common.mono _ _ _ _ _)
   | (with_reducible exact LeO.refl _)
   | (with_reducible exact LeO.none _)
   | (with_reducible refine LeO.ite ?_ ?_)
   | (with_reducible refine LeO.bind ?_ (fun _ => ?_))
   | exact ih0 _ _ _
   | exact ih1 _ _ _ _
   | exact silversideref07_Common.mono _ _ _ _ _
   | exact LeO.none _
   | refine LeO.ite ?_ ?_
   | refine LeO.bind ?_ (fun _ => ?_)
set_option maxHeartbeats 8000000 in
set_option maxRecDepth 100000 in
theorem silversideref07_Shortest.calls (k : Nat) (a0 : ByteArray) (a1 : Int) (r1 : Int) (r2 : Int) (w : World) (h : silversideref07_Shortest.f k a0 a1 = some (r1, r2)) :
  Calls Try.prog 36 #[.string a0, .int .i64 a1] w fun e w' => e = .returned (.tuple #[.int .i64 r1, .int .i64 r2]) ∧ Below w.heap.size w w' := by
 have HB := Aside0.mk (Below.refl w.heap.size w)
 have H : (if a1 < 0 then (silversideref07_Shortest.j0 k a0 a1 true) else (silversideref07_Shortest.j0 k a0 a1 (decide (a1 ≥ (a0.size : Int))))) = some (r1, r2) := h
 clear h
 have HC3 := Aside0.mk H
 clear H
 go_enter Try.func36, Try.ntmps36
 go_upto_region 1 with (fail)
 go_cut [15] (fun v15 wc => ∃ (kq : Nat) (x15_2 : Bool), v15 = .bool x15_2 ∧ Aside0 (silversideref07_Shortest.j0 kq a0 a1 x15_2 = some (r1, r2)) ∧ Aside0 (kq ≤ k) ∧ Aside0 (Below w.heap.size w wc))
 case first =>
  have H := HC3.out
  clear HC3
  by_cases c4 : a1 < 0
  ·rw [if_pos c4] at H
   have c4b0 : decide (a1 < 0) = true := decide_eq_true c4
   clear c4
   (first | rw [c4b0] | (simp only [i64_w, i32_w]; rw [c4b0]) | skip)
   have H' := Aside0.mk H
   clear H
   go_wp2
   go_meet
   case rel => exact ⟨_, (true), (by first | rfl | (simp; done) | (simp [*]; done)), H', ⟨by first | omega | exact Nat.le_refl _⟩, ⟨by repeat (first | (with_reducible first | exact HB.out | apply below_alloc | apply pw_below_drewN | apply below_drew1) | exact HB.out)⟩⟩
  ·rw [if_neg c4] at H
   have c4b0 : decide (a1 < 0) = false := decide_eq_false c4
   clear c4
   (first | rw [c4b0] | (simp only [i64_w, i32_w]; rw [c4b0]) | skip)
   have H' := Aside0.mk H
   clear H
   go_wp2
   go_meet
   case rel => exact ⟨_, (decide (a1 ≥ (a0.size : Int))), (by first | rfl | (simp; done) | (simp [*]; done)), H', ⟨by first | omega | exact Nat.le_refl _⟩, ⟨by repeat (first | (with_reducible first | exact HB.out | apply below_alloc | apply pw_below_drewN | apply below_drew1) | exact HB.out)⟩⟩
 case rest =>
  clear HC3
  try clear p2
  try clear c3
  try clear c4
  try clear c4b0
  obtain ⟨kq, x15_2, rfl, HA, HJ2, HB⟩ := hcut
  cases kq with
  | zero => exact absurd HA.out (by simp [silversideref07_Shortest.j0])
  | succ kj2 =>
   have H := HA.out
   clear HA
   simp only [silversideref07_Shortest.j0] at H
   by_cases c5 : x15_2 = true
   ·subst c5
    have H1 : (some (0, 2)) = some (r1, r2) := by rw [if_pos rfl] at H; exact H
    clear H
    have H := H1
    clear H1
    simp only [Option.some.injEq, Prod.mk.injEq] at H
    obtain ⟨rfl, rfl⟩ := H
    go_wp2
    go_ret2
    exact ⟨by first | rfl | (simp [errW_none, errW_some] <;> rfl) | (simp [*, errW_none, errW_some] <;> rfl), by repeat (first | (with_reducible first | exact HB.out | apply below_alloc | apply pw_below_drewN | apply below_drew1) | exact HB.out)⟩
   ·replace c5 := Bool.eq_false_iff.mpr c5
    subst c5
    have H1 : (silversideref07_Shortest.l0 kj2 a0 a1 0 0) = some (r1, r2) := by rw [if_neg (show ¬ (false = true) by decide)] at H; exact H
    clear H
    have H := H1
    clear H1
    have H' := Aside0.mk H
    clear H
    go_wp2
    go_loopg [6, 7] kj2 (fun kq v6 v7 w' => ∃ (x6_2 : Int) (x7_2 : Int), v6 = .int .i64 x6_2 ∧ v7 = .int .i64 x7_2 ∧ Aside0 (silversideref07_Shortest.l0 kq a0 a1 x6_2 x7_2 = some (r1, r2)) ∧ Aside0 (kq ≤ kj2) ∧ Aside0 (Below w.heap.size w w'))
    case atStart => exact ⟨(0), (0), (by first | rfl | (simp; done) | (simp [*]; done)), (by first | rfl | (simp; done) | (simp [*]; done)), H', ⟨Nat.le_refl _⟩, ⟨by repeat (first | (with_reducible first | exact HB.out | apply below_alloc | apply pw_below_drewN | apply below_drew1) | exact HB.out)⟩⟩
    case round =>
     clear H'
     try clear p2
     try clear c3
     try clear c4
     try clear c4b0
     try clear c5
     try clear p2
     obtain ⟨x6_2, x7_2, rfl, rfl, HA, HK2, HB⟩ := hrel
     cases gk with
     | zero => exact absurd HA.out (by simp [silversideref07_Shortest.l0])
     | succ k2 =>
      have H := HA.out
      clear HA
      simp only [silversideref07_Shortest.l0] at H
      by_cases c6 : x7_2 < (a0.size : Int)
      ·rw [if_pos c6] at H
       have c6b0 : decide (x7_2 < (a0.size : Int)) = true := decide_eq_true c6
       clear c6
       by_cases c7 : x7_2 = a1
       ·rw [if_pos c7] at H
        have c7b0 : (x7_2 == a1) = true := beq_iff_eq.mpr c7
        have c7b1 : (x7_2 != a1) = false := bne_eq_false_iff_eq.mpr c7
        clear c7
        have H' := Aside0.mk H
        clear H
        go_wp2
        go_roundg k2
        case measure => have := HJ2.out; have := HK2.out; omega
        case rel => exact ⟨(x6_2), (wrap64 (x7_2 + 1)), (by first | rfl | (simp; done) | (simp [*]; done)), (by first | rfl | (simp; done) | (simp [*]; done)), H', ⟨by have := HJ2.out; have := HK2.out; omega⟩, ⟨by repeat (first | (with_reducible first | exact HB.out | apply below_alloc | apply pw_below_drewN | apply below_drew1) | exact HB.out)⟩⟩
       ·rw [if_neg c7] at H
        have c7b0 : (x7_2 == a1) = false := beq_eq_false_iff_ne.mpr c7
        have c7b1 : (x7_2 != a1) = true := bne_iff_ne.mpr c7
        replace H := Option.bind_eq_some_iff.mp H
        obtain ⟨t310, A80, H⟩ := H
        replace H : (silversideref07_Shortest.l0 k2 a0 a1 (mx x6_2 t310) (wrap64 (x7_2 + 1))) = some (r1, r2) := H
        have A8 := Aside0.mk A80
        clear A80
        obtain ⟨ji9, hji9⟩ : ∃ j_ : Int, (mx x6_2 t310) = j_ := ⟨_, rfl⟩
        replace H : (silversideref07_Shortest.l0 k2 a0 a1 ji9 (wrap64 (x7_2 + 1))) = some (r1, r2) := by first | (rw [hji9] at H; exact H) | (simp only [hji9] at H ⊢; exact H)
        (try rw [hji9] at A8)
        have hji9_ : (if x6_2 < t310 then t310 else x6_2) = ji9 := hji9
        have H' := Aside0.mk H
        clear H
        go_wp2_with (first | ((with_reducible refine gate_callee (f := 43) rfl ?_); refine goesL_ (some 30) rfl rfl Try.func43 (by kernel_rfl) rfl #[.string a0, .int .i64 a1, .string a0, .int .i64 x7_2] rfl (by (try simp only [List.map_toArray, List.map_cons, List.map_nil]); first | done | rfl | (simp only [List.length_drop, List.length_take]; rfl)) ?_; (with_reducible refine (silversideref07_Common.calls k2 a0 a1 a0 x7_2 t310 _ A8.out).mono ?_); rintro e w' ⟨rfl, ⟨nd, rfl⟩⟩; refine ⟨_, rfl, ?_⟩))
        go_roundg k2
        case measure => have := HJ2.out; have := HK2.out; omega
        case rel => exact ⟨(ji9), (wrap64 (x7_2 + 1)), (by first | rfl | (simp; done) | (simp only [← hji9] <;> (first | rfl | simp)) | (simp [*]; done)), (by first | rfl | (simp; done) | (simp [*]; done)), H', ⟨by have := HJ2.out; have := HK2.out; omega⟩, ⟨by repeat (first | (with_reducible first | exact HB.out | apply below_alloc | apply pw_below_drewN | apply below_drew1) | exact HB.out)⟩⟩
      ·rw [if_neg c6] at H
       have c6b0 : decide (x7_2 < (a0.size : Int)) = false := decide_eq_false c6
       clear c6
       by_cases c10 : (wrap64 (a1 + x6_2)) = (a0.size : Int)
       ·rw [if_pos c10] at H
        have c10b0 : ((wrap64 (a1 + x6_2)) == (a0.size : Int)) = true := beq_iff_eq.mpr c10
        have c10b1 : ((wrap64 (a1 + x6_2)) != (a0.size : Int)) = false := bne_eq_false_iff_eq.mpr c10
        clear c10
        simp only [Option.some.injEq, Prod.mk.injEq] at H
        obtain ⟨rfl, rfl⟩ := H
        go_wp2
        go_ret2
        exact ⟨by first | rfl | (simp [errW_none, errW_some] <;> rfl) | (simp [*, errW_none, errW_some] <;> rfl), by repeat (first | (with_reducible first | exact HB.out | apply below_alloc | apply pw_below_drewN | apply below_drew1) | exact HB.out)⟩
       ·rw [if_neg c10] at H
        have c10b0 : ((wrap64 (a1 + x6_2)) == (a0.size : Int)) = false := beq_eq_false_iff_ne.mpr c10
        have c10b1 : ((wrap64 (a1 + x6_2)) != (a0.size : Int)) = true := bne_iff_ne.mpr c10
        simp only [Option.some.injEq, Prod.mk.injEq] at H
        obtain ⟨rfl, rfl⟩ := H
        go_wp2
        go_ret2
        exact ⟨by first | rfl | (simp [errW_none, errW_some] <;> rfl) | (simp [*, errW_none, errW_some] <;> rfl), by repeat (first | (with_reducible first | exact HB.out | apply below_alloc | apply pw_below_drewN | apply below_drew1) | exact HB.out)⟩

end Go.Proofs.Ytppelnlocfcgfaa.P
namespace Go.Proofs.Ytppelnlocfcgfaa.P
open Go.RowKit Go.Proofs.YtppelnlocfcgfaaW.PrintWords Go.Proofs.YtppelnlocfcgfaaW.PrintLast Go.Proofs.YtppelnlocfcgfaaW.PrintMore
attribute [local go_sem] max2_int min2_int max_two min_two max_three min_three max_four min_four   -- for this text's walks alone
set_option linter.unusedVariables false
set_option linter.unusedSimpArgs false

/-! ### silversidelaw07_mod: function 27 -/
def silversidelaw07_mod.f (a0 : Int) (a1 : Int) : Option (Int) := if (IntKind.u64.wrap (a1)) = 0 then (none) else (some (wrap64 (Int.tmod (IntKind.u64.wrap (a0)) (IntKind.u64.wrap (a1)))))
set_option maxHeartbeats 8000000 in
set_option maxRecDepth 100000 in
theorem silversidelaw07_mod.calls (a0 : Int) (a1 : Int) (r : Int) (w : World) (h : silversidelaw07_mod.f a0 a1 = some r) :
  Calls Try.prog 27 #[.int .i64 a0, .int .i64 a1] w fun e w' => e = .returned (.int .i64 r) ∧ Drawn0 w w' := by
 have H : (if (IntKind.u64.wrap (a1)) = 0 then (none) else (some (wrap64 (Int.tmod (IntKind.u64.wrap (a0)) (IntKind.u64.wrap (a1)))))) = some r := h
 clear h
 by_cases c3 : (IntKind.u64.wrap (a1)) = 0
 ·rw [if_pos c3] at H
  exact absurd H (by simp)
 ·rw [if_neg c3] at H
  have c3b0 : ((IntKind.u64.wrap (a1)) == 0) = false := beq_eq_false_iff_ne.mpr c3
  have c3b1 : ((IntKind.u64.wrap (a1)) != 0) = true := bne_iff_ne.mpr c3
  obtain rfl := Option.some.inj H
  go_enter Try.func27, Try.ntmps27
  go_wp2
  go_ret
  exact ⟨by first | rfl | (simp; done) | (simp [*]; done), by repeat (first | exact Drawn0.refl _ | apply Drawn0.step)⟩

end Go.Proofs.Ytppelnlocfcgfaa.P
namespace Go.Proofs.Ytppelnlocfcgfaa.P
open Go.RowKit Go.Proofs.YtppelnlocfcgfaaW.PrintWords Go.Proofs.YtppelnlocfcgfaaW.PrintLast Go.Proofs.YtppelnlocfcgfaaW.PrintMore
attribute [local go_sem] max2_int min2_int max_two min_two max_three min_three max_four min_four   -- for this text's walks alone
set_option linter.unusedVariables false
set_option linter.unusedSimpArgs false

/-! ### silversideref07_Repeat: function 18 -/
mutual
def silversideref07_Repeat.l0 : Nat → ByteArray → ByteArray → Int → Option (ByteArray × Int × Int)
 | 0, _, _, _ => none
 | k + 1, x0, x5, x6 => if x6 < (x0.size : Int) then (silversideref07_Repeat.l1 k x0 x5 x6 0) else (if x5.toList = ([] : List UInt8) then (some ((⟨#[]⟩ : ByteArray), 0, 6)) else ((silversideref07_Find.f k x0 x5).bind fun t141 => (some (x5, (t141.length : Int), 0))))
def silversideref07_Repeat.l1 : Nat → ByteArray → ByteArray → Int → Int → Option (ByteArray × Int × Int)
 | 0, _, _, _, _ => none
 | k + 1, x0, x5, x6, x7 => if x7 < x6 then ((silversideref07_Common.f k x0 x6 x0 x7).bind fun t144 => (if t144 > (x5.size : Int) then (if 0 ≤ x6 then (if x6 ≤ (wrap64 (x6 + t144)) then (if (wrap64 (x6 + t144)) ≤ (x0.size : Int) then (silversideref07_Repeat.l1 k x0 (x0.extract (x6 : Int).toNat ((wrap64 (x6 + t144)) : Int).toNat) x6 (wrap64 (x7 + 1))) else (none)) else (none)) else (none)) else (if t144 = (x5.size : Int) then (if 0 ≤ x6 then (if x6 ≤ (wrap64 (x6 + t144)) then (if (wrap64 (x6 + t144)) ≤ (x0.size : Int) then (if (Op.bytesLess ((x0.extract (x6 : Int).toNat ((wrap64 (x6 + t144)) : Int).toNat).toList) x5.toList) = true then (silversideref07_Repeat.l1 k x0 (x0.extract (x6 : Int).toNat ((wrap64 (x6 + t144)) : Int).toNat) x6 (wrap64 (x7 + 1))) else (silversideref07_Repeat.l1 k x0 x5 x6 (wrap64 (x7 + 1)))) else (none)) else (none)) else (none)) else (silversideref07_Repeat.l1 k x0 x5 x6 (wrap64 (x7 + 1)))))) else (silversideref07_Repeat.l0 k x0 x5 (wrap64 (x6 + 1)))
end
def silversideref07_Repeat.f (k : Nat) (a0 : ByteArray) : Option (ByteArray × Int × Int) := silversideref07_Repeat.l0 k a0 (⟨#[]⟩ : ByteArray) 0
theorem silversideref07_Repeat.mono_l : ∀ k, (∀ y0 y1 y2, LeO (silversideref07_Repeat.l0 k y0 y1 y2) (silversideref07_Repeat.l0 (k + 1) y0 y1 y2)) ∧ (∀ y0 y1 y2 y3, LeO (silversideref07_Repeat.l1 k y0 y1 y2 y3) (silversideref07_Repeat.l1 (k + 1) y0 y1 y2 y3))
 | 0 => ⟨fun _ _ _ r h => by simp [silversideref07_Repeat.l0] at h, fun _ _ _ _ r h => by simp [silversideref07_Repeat.l1] at h⟩
 | k + 1 => by
  obtain ⟨ih0, ih1⟩ := silversideref07_Repeat.mono_l k
  refine ⟨?_, ?_⟩
  ·intro y0 y1 y2
   unfold silversideref07_Repeat.l0
   repeat' first
   | (with_reducible exact ih0 _ _ _)
   | (with_reducible exact ih1 _ _ _ _)
   | (with_reducible exact silversideref07_Common.mono _ _ _ _ _)
   | (with_reducible exact silversideref07_Find.mono _ _ _)
   | (with_reducible exact LeO.refl _)
   | (with_reducible exact LeO.none _)
   | (with_reducible refine LeO.ite ?_ ?_)
   | (with_reducible refine LeO.bind ?_ (fun _ => ?_))
   | exact ih0 _ _ _
   | exact ih1 _ _ _ _
   | exact silversideref07_Common.mono _ _ _ _ _
   | exact silversideref07_Find.mono _ _ _
   | exact LeO.none _
   | refine LeO.ite ?_ ?_
   | refine LeO.bind ?_ (fun _ => ?_)
  ·intro y0 y1 y2 y3
   unfold silversideref07_Repeat.l1
   repeat' first
   | (with_reducible exact ih0 _ _ _)
   | (with_reducible exact ih1 _ _ _ _)
   | (with_reducible exact silversideref07_Common.mono _ _ _ _ _)
   | (with_reducible exact silversideref07_Find.mono _ _ _)
   | (with_reducible exact LeO.refl _)
   | (with_reducible exact LeO.none _)
   | (with_reducible refine LeO.ite ?_ ?_)
   | (with_reducible refine LeO.bind ?_ (fun _ => ?_))
   | exact ih0 _ _ _
   | exact ih1 _ _ _ _
   | exact silversideref07_Common.mono _ _ _ _ _
   | exact silversideref07_Find.mono _ _ _
   | exact LeO.none _
   | refine LeO.ite ?_ ?_
   | refine LeO.bind ?_ (fun _ => ?_)
theorem silversideref07_Repeat.mono : ∀ a0 k, LeO (silversideref07_Repeat.f k a0) (silversideref07_Repeat.f (k + 1) a0) := by
 intro a0 k
 obtain ⟨ih0, ih1⟩ := silversideref07_Repeat.mono_l k
 unfold silversideref07_Repeat.f
 repeat' first
   | (with_reducible exact ih0 _ _ _)
   | (with_reducible exact ih1 _ _ _ _)
   | (with_reducible exact silversideref07_Common.mono _ _ _ _ _)
   | (with_reducible exact silversideref07_Find.mono _ _ _)
   | (with_reducible exact LeO.refl _)
   | (with_reducible exact LeO.none _)
   | (with_reducible refine LeO.ite ?_ ?_)
   | (with_reducible refine LeO.bind ?_ (fun _ => ?_))
   | exact ih0 _ _ _
   | exact ih1 _ _ _ _
   | exact silversideref07_Common.mono _ _ _ _ _
   | exact silversideref07_Find.mono _ _ _
   | exact LeO.none _
   | refine LeO.ite ?_ ?_
   | refine LeO.bind ?_ (fun _ => ?_)
set_option maxHeartbeats 8000000 in
set_option maxRecDepth 100000 in
theorem silversideref07_Repeat.calls (k : Nat) (a0 : ByteArray) (r1 : ByteArray) (r2 : Int) (r3 : Int) (w : World) (h : silversideref07_Repeat.f k a0 = some (r1, r2, r3)) :
  Calls Try.prog 18 #[.string a0] w fun e w' => e = .returned (.tuple #[.string r1, .int .i64 r2, .int .i64 r3]) ∧ Below w.heap.size w w' := by
 have HB := Aside0.mk (Below.refl w.heap.size w)
 have H : (silversideref07_Repeat.l0 k a0 (⟨#[]⟩ : ByteArray) 0) = some (r1, r2, r3) := h
 clear h
 have H' := Aside0.mk H
 clear H
 go_enter Try.func18, Try.ntmps18
 go_wp2
 go_loopg [5, 6] k (fun kq v5 v6 w' => ∃ (x5_1 : ByteArray) (x6_1 : Int), v5 = .string x5_1 ∧ v6 = .int .i64 x6_1 ∧ Aside0 (silversideref07_Repeat.l0 kq a0 x5_1 x6_1 = some (r1, r2, r3)) ∧ Aside0 (kq ≤ k) ∧ Aside0 (Below w.heap.size w w'))
 case atStart => exact ⟨((⟨#[]⟩ : ByteArray)), (0), (by first | rfl | (simp; done) | (simp [*]; done)), (by first | rfl | (simp; done) | (simp [*]; done)), H', ⟨Nat.le_refl _⟩, ⟨by repeat (first | (with_reducible first | exact HB.out | apply below_alloc | apply pw_below_drewN | apply below_drew1) | exact HB.out)⟩⟩
 case round =>
  clear H'
  try clear c1
  obtain ⟨x5_1, x6_1, rfl, rfl, HA, HK1, HB⟩ := hrel
  cases gk with
  | zero => exact absurd HA.out (by simp [silversideref07_Repeat.l0])
  | succ k1 =>
   have H := HA.out
   clear HA
   simp only [silversideref07_Repeat.l0] at H
   by_cases c2 : x6_1 < (a0.size : Int)
   ·rw [if_pos c2] at H
    have c2b0 : decide (x6_1 < (a0.size : Int)) = true := decide_eq_true c2
    clear c2
    have H' := Aside0.mk H
    clear H
    go_wp2
    go_loopg [5, 7] k1 (fun kq v5 v7 w' => ∃ (x5_2 : ByteArray) (x7_2 : Int), v5 = .string x5_2 ∧ v7 = .int .i64 x7_2 ∧ Aside0 (silversideref07_Repeat.l1 kq a0 x5_2 x6_1 x7_2 = some (r1, r2, r3)) ∧ Aside0 (kq ≤ k1) ∧ Aside0 (Below w.heap.size w w'))
    case atStart => exact ⟨(x5_1), (0), (by first | rfl | (simp; done) | (simp [*]; done)), (by first | rfl | (simp; done) | (simp [*]; done)), H', ⟨Nat.le_refl _⟩, ⟨by repeat (first | (with_reducible first | exact HB.out | apply below_alloc | apply pw_below_drewN | apply below_drew1) | exact HB.out)⟩⟩
    case round =>
     clear H'
     try clear c1
     try clear c2
     try clear c2b0
     try clear p2
     obtain ⟨x5_2, x7_2, rfl, rfl, HA, HK2, HB⟩ := hrel
     cases gk with
     | zero => exact absurd HA.out (by simp [silversideref07_Repeat.l1])
     | succ k2 =>
      have H := HA.out
      clear HA
      simp only [silversideref07_Repeat.l1] at H
      by_cases c3 : x7_2 < x6_1
      ·rw [if_pos c3] at H
       have c3b0 : decide (x7_2 < x6_1) = true := decide_eq_true c3
       clear c3
       replace H := Option.bind_eq_some_iff.mp H
       obtain ⟨t144, A40, H⟩ := H
       replace H : (if t144 > (x5_2.size : Int) then (if 0 ≤ x6_1 then (if x6_1 ≤ (wrap64 (x6_1 + t144)) then (if (wrap64 (x6_1 + t144)) ≤ (a0.size : Int) then (silversideref07_Repeat.l1 k2 a0 (a0.extract (x6_1 : Int).toNat ((wrap64 (x6_1 + t144)) : Int).toNat) x6_1 (wrap64 (x7_2 + 1))) else (none)) else (none)) else (none)) else (if t144 = (x5_2.size : Int) then (if 0 ≤ x6_1 then (if x6_1 ≤ (wrap64 (x6_1 + t144)) then (if (wrap64 (x6_1 + t144)) ≤ (a0.size : Int) then (if (Op.bytesLess ((a0.extract (x6_1 : Int).toNat ((wrap64 (x6_1 + t144)) : Int).toNat).toList) x5_2.toList) = true then (silversideref07_Repeat.l1 k2 a0 (a0.extract (x6_1 : Int).toNat ((wrap64 (x6_1 + t144)) : Int).toNat) x6_1 (wrap64 (x7_2 + 1))) else (silversideref07_Repeat.l1 k2 a0 x5_2 x6_1 (wrap64 (x7_2 + 1)))) else (none)) else (none)) else (none)) else (silversideref07_Repeat.l1 k2 a0 x5_2 x6_1 (wrap64 (x7_2 + 1))))) = some (r1, r2, r3) := H
       have A4 := Aside0.mk A40
       clear A40
       by_cases c5 : t144 > (x5_2.size : Int)
       ·rw [if_pos c5] at H
        have c5b0 : decide ((x5_2.size : Int) < t144) = true := decide_eq_true c5
        clear c5
        by_cases c6 : 0 ≤ x6_1
        ·rw [if_pos c6] at H
         have c6b0 := eq_true c6
         have c6b1 : decide (0 ≤ x6_1) = true := decide_eq_true c6
         clear c6
         by_cases c7 : x6_1 ≤ (wrap64 (x6_1 + t144))
         ·rw [if_pos c7] at H
          have c7b0 := eq_true c7
          have c7b1 : decide (x6_1 ≤ (wrap64 (x6_1 + t144))) = true := decide_eq_true c7
          by_cases c8 : (wrap64 (x6_1 + t144)) ≤ (a0.size : Int)
          ·rw [if_pos c8] at H
           have c8b0 := eq_true c8
           have c8b1 : decide ((wrap64 (x6_1 + t144)) ≤ (a0.size : Int)) = true := decide_eq_true c8
           have H' := Aside0.mk H
           clear H
           go_wp2_with (first | ((with_reducible refine gate_callee (f := 43) rfl ?_); refine goesL_ (some 24) rfl rfl Try.func43 (by kernel_rfl) rfl #[.string a0, .int .i64 x6_1, .string a0, .int .i64 x7_2] rfl (by (try simp only [List.map_toArray, List.map_cons, List.map_nil]); first | done | rfl | (simp only [List.length_drop, List.length_take]; rfl)) ?_; (with_reducible refine (silversideref07_Common.calls k2 a0 x6_1 a0 x7_2 t144 _ A4.out).mono ?_); rintro e w' ⟨rfl, ⟨nd, rfl⟩⟩; refine ⟨_, rfl, ?_⟩))
           go_roundg k2
           case measure => have := HK1.out; have := HK2.out; omega
           case rel => exact ⟨(a0.extract (x6_1 : Int).toNat ((wrap64 (x6_1 + t144)) : Int).toNat), (wrap64 (x7_2 + 1)), (by first | rfl | (simp; done) | (simp [*]; done)), (by first | rfl | (simp; done) | (simp [*]; done)), H', ⟨by have := HK1.out; have := HK2.out; omega⟩, ⟨by repeat (first | (with_reducible first | exact HB.out | apply below_alloc | apply pw_below_drewN | apply below_drew1) | exact HB.out)⟩⟩
          ·rw [if_neg c8] at H
           exact absurd H (by simp)
         ·rw [if_neg c7] at H
          exact absurd H (by simp)
        ·rw [if_neg c6] at H
         exact absurd H (by simp)
       ·rw [if_neg c5] at H
        have c5b0 : decide ((x5_2.size : Int) < t144) = false := decide_eq_false c5
        clear c5
        by_cases c9 : t144 = (x5_2.size : Int)
        ·rw [if_pos c9] at H
         have c9b0 : (t144 == (x5_2.size : Int)) = true := beq_iff_eq.mpr c9
         have c9b1 : (t144 != (x5_2.size : Int)) = false := bne_eq_false_iff_eq.mpr c9
         clear c9
         by_cases c10 : 0 ≤ x6_1
         ·rw [if_pos c10] at H
          have c10b0 := eq_true c10
          have c10b1 : decide (0 ≤ x6_1) = true := decide_eq_true c10
          clear c10
          by_cases c11 : x6_1 ≤ (wrap64 (x6_1 + t144))
          ·rw [if_pos c11] at H
           have c11b0 := eq_true c11
           have c11b1 : decide (x6_1 ≤ (wrap64 (x6_1 + t144))) = true := decide_eq_true c11
           by_cases c12 : (wrap64 (x6_1 + t144)) ≤ (a0.size : Int)
           ·rw [if_pos c12] at H
            have c12b0 := eq_true c12
            have c12b1 : decide ((wrap64 (x6_1 + t144)) ≤ (a0.size : Int)) = true := decide_eq_true c12
            by_cases c13 : (Op.bytesLess ((a0.extract (x6_1 : Int).toNat ((wrap64 (x6_1 + t144)) : Int).toNat).toList) x5_2.toList) = true
            ·rw [if_pos c13] at H
             have c13b0 : (Op.bytesLess ((a0.extract (x6_1 : Int).toNat ((wrap64 (x6_1 + t144)) : Int).toNat).toList) x5_2.toList) = true := c13
             clear c13
             have c14b0 := eq_true (of_decide_eq_true (by first | (with_reducible assumption) | assumption) : 0 ≤ x6_1)
             have c15b0 := eq_true (of_decide_eq_true (by first | (with_reducible assumption) | assumption) : x6_1 ≤ (wrap64 (x6_1 + t144)))
             have c16b0 := eq_true (of_decide_eq_true (by first | (with_reducible assumption) | assumption) : (wrap64 (x6_1 + t144)) ≤ (a0.size : Int))
             have H' := Aside0.mk H
             clear H
             go_wp2_with (first | ((with_reducible refine gate_callee (f := 43) rfl ?_); refine goesL_ (some 24) rfl rfl Try.func43 (by kernel_rfl) rfl #[.string a0, .int .i64 x6_1, .string a0, .int .i64 x7_2] rfl (by (try simp only [List.map_toArray, List.map_cons, List.map_nil]); first | done | rfl | (simp only [List.length_drop, List.length_take]; rfl)) ?_; (with_reducible refine (silversideref07_Common.calls k2 a0 x6_1 a0 x7_2 t144 _ A4.out).mono ?_); rintro e w' ⟨rfl, ⟨nd, rfl⟩⟩; refine ⟨_, rfl, ?_⟩))
             go_roundg k2
             case measure => have := HK1.out; have := HK2.out; omega
             case rel => exact ⟨(a0.extract (x6_1 : Int).toNat ((wrap64 (x6_1 + t144)) : Int).toNat), (wrap64 (x7_2 + 1)), (by first | rfl | (simp; done) | (simp [*]; done)), (by first | rfl | (simp; done) | (simp [*]; done)), H', ⟨by have := HK1.out; have := HK2.out; omega⟩, ⟨by repeat (first | (with_reducible first | exact HB.out | apply below_alloc | apply pw_below_drewN | apply below_drew1) | exact HB.out)⟩⟩
            ·rw [if_neg c13] at H
             have c13b0 : (Op.bytesLess ((a0.extract (x6_1 : Int).toNat ((wrap64 (x6_1 + t144)) : Int).toNat).toList) x5_2.toList) = false := by simpa using c13
             clear c13
             have H' := Aside0.mk H
             clear H
             go_wp2_with (first | ((with_reducible refine gate_callee (f := 43) rfl ?_); refine goesL_ (some 24) rfl rfl Try.func43 (by kernel_rfl) rfl #[.string a0, .int .i64 x6_1, .string a0, .int .i64 x7_2] rfl (by (try simp only [List.map_toArray, List.map_cons, List.map_nil]); first | done | rfl | (simp only [List.length_drop, List.length_take]; rfl)) ?_; (with_reducible refine (silversideref07_Common.calls k2 a0 x6_1 a0 x7_2 t144 _ A4.out).mono ?_); rintro e w' ⟨rfl, ⟨nd, rfl⟩⟩; refine ⟨_, rfl, ?_⟩))
             go_roundg k2
             case measure => have := HK1.out; have := HK2.out; omega
             case rel => exact ⟨(x5_2), (wrap64 (x7_2 + 1)), (by first | rfl | (simp; done) | (simp [*]; done)), (by first | rfl | (simp; done) | (simp [*]; done)), H', ⟨by have := HK1.out; have := HK2.out; omega⟩, ⟨by repeat (first | (with_reducible first | exact HB.out | apply below_alloc | apply pw_below_drewN | apply below_drew1) | exact HB.out)⟩⟩
           ·rw [if_neg c12] at H
            exact absurd H (by simp)
          ·rw [if_neg c11] at H
           exact absurd H (by simp)
         ·rw [if_neg c10] at H
          exact absurd H (by simp)
        ·rw [if_neg c9] at H
         have c9b0 : (t144 == (x5_2.size : Int)) = false := beq_eq_false_iff_ne.mpr c9
         have c9b1 : (t144 != (x5_2.size : Int)) = true := bne_iff_ne.mpr c9
         have H' := Aside0.mk H
         clear H
         go_wp2_with (first | ((with_reducible refine gate_callee (f := 43) rfl ?_); refine goesL_ (some 24) rfl rfl Try.func43 (by kernel_rfl) rfl #[.string a0, .int .i64 x6_1, .string a0, .int .i64 x7_2] rfl (by (try simp only [List.map_toArray, List.map_cons, List.map_nil]); first | done | rfl | (simp only [List.length_drop, List.length_take]; rfl)) ?_; (with_reducible refine (silversideref07_Common.calls k2 a0 x6_1 a0 x7_2 t144 _ A4.out).mono ?_); rintro e w' ⟨rfl, ⟨nd, rfl⟩⟩; refine ⟨_, rfl, ?_⟩))
         go_roundg k2
         case measure => have := HK1.out; have := HK2.out; omega
         case rel => exact ⟨(x5_2), (wrap64 (x7_2 + 1)), (by first | rfl | (simp; done) | (simp [*]; done)), (by first | rfl | (simp; done) | (simp [*]; done)), H', ⟨by have := HK1.out; have := HK2.out; omega⟩, ⟨by repeat (first | (with_reducible first | exact HB.out | apply below_alloc | apply pw_below_drewN | apply below_drew1) | exact HB.out)⟩⟩
      ·rw [if_neg c3] at H
       have c3b0 : decide (x7_2 < x6_1) = false := decide_eq_false c3
       clear c3
       have H' := Aside0.mk H
       clear H
       go_wp2
       go_roundg k2
       case measure => have := HK1.out; have := HK2.out; omega
       case rel => exact ⟨(x5_2), (wrap64 (x6_1 + 1)), (by first | rfl | (simp; done) | (simp [*]; done)), (by first | rfl | (simp; done) | (simp [*]; done)), H', ⟨by have := HK1.out; have := HK2.out; omega⟩, ⟨by repeat (first | (with_reducible first | exact HB.out | apply below_alloc | apply pw_below_drewN | apply below_drew1) | exact HB.out)⟩⟩
   ·rw [if_neg c2] at H
    have c2b0 : decide (x6_1 < (a0.size : Int)) = false := decide_eq_false c2
    clear c2
    by_cases c17 : x5_1.toList = ([] : List UInt8)
    ·rw [if_pos c17] at H
     have c17b0 : (x5_1.toList == ([] : List UInt8)) = true := beq_iff_eq.mpr c17
     have c17b1 : (x5_1.toList != ([] : List UInt8)) = false := bne_eq_false_iff_eq.mpr c17
     clear c17
     simp only [Option.some.injEq, Prod.mk.injEq] at H
     obtain ⟨rfl, rfl, rfl⟩ := H
     go_wp2
     go_ret3
     exact ⟨by first | rfl | (simp [errW_none, errW_some] <;> rfl) | (simp [*, errW_none, errW_some] <;> rfl), by repeat (first | (with_reducible first | exact HB.out | apply below_alloc | apply pw_below_drewN | apply below_drew1) | exact HB.out)⟩
    ·rw [if_neg c17] at H
     have c17b0 : (x5_1.toList == ([] : List UInt8)) = false := beq_eq_false_iff_ne.mpr c17
     have c17b1 : (x5_1.toList != ([] : List UInt8)) = true := bne_iff_ne.mpr c17
     replace H := Option.bind_eq_some_iff.mp H
     obtain ⟨t141, A180, H⟩ := H
     replace H : (some (x5_1, (t141.length : Int), 0)) = some (r1, r2, r3) := H
     have A18 := Aside0.mk A180
     clear A180
     simp only [Option.some.injEq, Prod.mk.injEq] at H
     obtain ⟨rfl, rfl, rfl⟩ := H
     go_wp2_with (first | ((with_reducible refine gate_callee (f := 37) rfl ?_); refine goesL_ (some 56) rfl rfl Try.func37 (by kernel_rfl) rfl #[.string a0, .string x5_1] rfl (by (try simp only [List.map_toArray, List.map_cons, List.map_nil]); first | done | rfl | (simp only [List.length_drop, List.length_take]; rfl)) ?_; (with_reducible refine (silversideref07_Find.calls k1 a0 x5_1 t141 _ A18.out).mono ?_); rintro e w19 ⟨v142, rfl, ho0, hb⟩; refine ⟨_, rfl, ?_⟩; have n0_ := Aside0.mk (Kd.R_lower ho0 (below_size (by repeat (first | (with_reducible first | exact HB.out | apply below_alloc | apply pw_below_drewN | apply below_drew1) | exact HB.out)))); have n1_ := Aside0.mk (below_step (by repeat (first | (with_reducible first | exact HB.out | apply below_alloc | apply pw_below_drewN | apply below_drew1) | exact HB.out)) hb); clear HB; have HO143 := n0_; have HB := n1_; clear n0_ n1_; (try clear hb); (try clear hb2); (try clear hk); (try clear hi); (try clear ho0); obtain ⟨Ao20, co20, eo20⟩ := Kd.R_slice HO143.out; subst eo20))
     go_ret3
     exact ⟨by first | rfl | (simp [errW_none, errW_some] <;> rfl) | (simp [*, errW_none, errW_some] <;> rfl), by repeat (first | (with_reducible first | exact HB.out | apply below_alloc | apply pw_below_drewN | apply below_drew1) | exact HB.out)⟩

end Go.Proofs.Ytppelnlocfcgfaa.P
namespace Go.Proofs.Ytppelnlocfcgfaa.P
open Go.RowKit Go.Proofs.YtppelnlocfcgfaaW.PrintWords Go.Proofs.YtppelnlocfcgfaaW.PrintLast Go.Proofs.YtppelnlocfcgfaaW.PrintMore
attribute [local go_sem] max2_int min2_int max_two min_two max_three min_three max_four min_four   -- for this text's walks alone
set_option linter.unusedVariables false
set_option linter.unusedSimpArgs false

/-! ### silversideref07_Distinct: function 20 -/
mutual
def silversideref07_Distinct.l0 : Nat → ByteArray → Int → Int → Option (Int)
 | 0, _, _, _ => none
 | k + 1, x0, x3, x4 => if x4 < (x0.size : Int) then (silversideref07_Distinct.l1 k x0 x3 x4 0 0) else (some x3)
def silversideref07_Distinct.l1 : Nat → ByteArray → Int → Int → Int → Int → Option (Int)
 | 0, _, _, _, _, _ => none
 | k + 1, x0, x3, x4, x5, x6 => if x6 < x4 then ((silversideref07_Common.f k x0 x4 x0 x6).bind fun t147 => (silversideref07_Distinct.l1 k x0 x3 x4 (mx x5 t147) (wrap64 (x6 + 1)))) else (silversideref07_Distinct.l0 k x0 (wrap64 ((wrap64 ((wrap64 (x3 + (x0.size : Int))) - x4)) - x5)) (wrap64 (x4 + 1)))
end
def silversideref07_Distinct.f (k : Nat) (a0 : ByteArray) : Option (Int) := silversideref07_Distinct.l0 k a0 0 0
theorem silversideref07_Distinct.mono_l : ∀ k, (∀ y0 y1 y2, LeO (silversideref07_Distinct.l0 k y0 y1 y2) (silversideref07_Distinct.l0 (k + 1) y0 y1 y2)) ∧ (∀ y0 y1 y2 y3 y4, LeO (silversideref07_Distinct.l1 k y0 y1 y2 y3 y4) (silversideref07_Distinct.l1 (k + 1) y0 y1 y2 y3 y4))
 | 0 => ⟨fun _ _ _ r h => by simp [silversideref07_Distinct.l0] at h, fun _ _ _ _ _ r h => by simp [silversideref07_Distinct.l1] at h⟩
 | k + 1 => by
  obtain ⟨ih0, ih1⟩ := silversideref07_Distinct.mono_l k
  refine ⟨?_, ?_⟩
  ·intro y0 y1 y2
   unfold silversideref07_Distinct.l0
   repeat' first
   | (with_reducible exact ih0 _ _ _)
   | (with_reducible exact ih1 _ _ _ _ _)
   | (with_reducible exact silversideref07_Common.mono _ _ _ _ _)
   | (with_reducible exact LeO.refl _)
   | (with_reducible exact LeO.none _)
   | (with_reducible refine LeO.ite ?_ ?_)
   | (with_reducible refine LeO.bind ?_ (fun _ => ?_))
   | exact ih0 _ _ _
   | exact ih1 _ _ _ _ _
   | exact silversideref07_Common.mono _ _ _ _ _
   | exact LeO.none _
   | refine LeO.ite ?_ ?_
   | refine LeO.bind ?_ (fun _ => ?_)
  ·intro y0 y1 y2 y3 y4
   unfold silversideref07_Distinct.l1
   repeat' first
   | (with_reducible exact ih0 _ _ _)
   | (with_reducible exact ih1 _ _ _ _ _)
   | (with_reducible exact silversideref07_Common.mono _ _ _ _ _)
   | (with_reducible exact LeO.refl _)
   | (with_reducible exact LeO.none _)
   | (with_reducible refine LeO.ite ?_ ?_)
   | (with_reducible refine LeO.bind ?_ (fun _ => ?_))
   | exact ih0 _ _ _
   | exact ih1 _ _ _ _ _
   | exact silversideref07_Common.mono _ _ _ _ _
   | exact LeO.none _
   | refine LeO.ite ?_ ?_
   | refine LeO.bind ?_ (fun _ => ?_)
theorem silversideref07_Distinct.mono : ∀ a0 k, LeO (silversideref07_Distinct.f k a0) (silversideref07_Distinct.f (k + 1) a0) := by
 intro a0 k
 obtain ⟨ih0, ih1⟩ := silversideref07_Distinct.mono_l k
 unfold silversideref07_Distinct.f
 repeat' first
   | (with_reducible exact ih0 _ _ _)
   | (with_reducible exact ih1 _ _ _ _ _)
   | (with_reducible exact silversideref07_Common.mono _ _ _ _ _)
   | (with_reducible exact LeO.refl _)
   | (with_reducible exact LeO.none _)
   | (with_reducible refine LeO.ite ?_ ?_)
   | (with_reducible refine LeO.bind ?_ (fun _ => ?_))
   | exact ih0 _ _ _
   | exact ih1 _ _ _ _ _
   | exact silversideref07_Common.mono _ _ _ _ _
   | exact LeO.none _
   | refine LeO.ite ?_ ?_
   | refine LeO.bind ?_ (fun _ => ?_)
set_option maxHeartbeats 8000000 in
set_option maxRecDepth 100000 in
theorem silversideref07_Distinct.calls (k : Nat) (a0 : ByteArray) (r : Int) (w : World) (h : silversideref07_Distinct.f k a0 = some r) :
  Calls Try.prog 20 #[.string a0] w fun e w' => e = .returned (.int .i64 r) ∧ Below w.heap.size w w' := by
 have HB := Aside0.mk (Below.refl w.heap.size w)
 have H : (silversideref07_Distinct.l0 k a0 0 0) = some r := h
 clear h
 have H' := Aside0.mk H
 clear H
 go_enter Try.func20, Try.ntmps20
 go_wp2
 go_loopg [3, 4] k (fun kq v3 v4 w' => ∃ (x3_1 : Int) (x4_1 : Int), v3 = .int .i64 x3_1 ∧ v4 = .int .i64 x4_1 ∧ Aside0 (silversideref07_Distinct.l0 kq a0 x3_1 x4_1 = some r) ∧ Aside0 (kq ≤ k) ∧ Aside0 (Below w.heap.size w w'))
 case atStart => exact ⟨(0), (0), (by first | rfl | (simp; done) | (simp [*]; done)), (by first | rfl | (simp; done) | (simp [*]; done)), H', ⟨Nat.le_refl _⟩, ⟨by repeat (first | (with_reducible first | exact HB.out | apply below_alloc | apply pw_below_drewN | apply below_drew1) | exact HB.out)⟩⟩
 case round =>
  clear H'
  obtain ⟨x3_1, x4_1, rfl, rfl, HA, HK1, HB⟩ := hrel
  cases gk with
  | zero => exact absurd HA.out (by simp [silversideref07_Distinct.l0])
  | succ k1 =>
   have H := HA.out
   clear HA
   simp only [silversideref07_Distinct.l0] at H
   by_cases c2 : x4_1 < (a0.size : Int)
   ·rw [if_pos c2] at H
    have c2b0 : decide (x4_1 < (a0.size : Int)) = true := decide_eq_true c2
    clear c2
    have H' := Aside0.mk H
    clear H
    go_wp2
    go_loopg [5, 6] k1 (fun kq v5 v6 w' => ∃ (x5_2 : Int) (x6_2 : Int), v5 = .int .i64 x5_2 ∧ v6 = .int .i64 x6_2 ∧ Aside0 (silversideref07_Distinct.l1 kq a0 x3_1 x4_1 x5_2 x6_2 = some r) ∧ Aside0 (kq ≤ k1) ∧ Aside0 (Below w.heap.size w w'))
    case atStart => exact ⟨(0), (0), (by first | rfl | (simp; done) | (simp [*]; done)), (by first | rfl | (simp; done) | (simp [*]; done)), H', ⟨Nat.le_refl _⟩, ⟨by repeat (first | (with_reducible first | exact HB.out | apply below_alloc | apply pw_below_drewN | apply below_drew1) | exact HB.out)⟩⟩
    case round =>
     clear H'
     try clear c2
     try clear c2b0
     try clear p2
     obtain ⟨x5_2, x6_2, rfl, rfl, HA, HK2, HB⟩ := hrel
     cases gk with
     | zero => exact absurd HA.out (by simp [silversideref07_Distinct.l1])
     | succ k2 =>
      have H := HA.out
      clear HA
      simp only [silversideref07_Distinct.l1] at H
      by_cases c3 : x6_2 < x4_1
      ·rw [if_pos c3] at H
       have c3b0 : decide (x6_2 < x4_1) = true := decide_eq_true c3
       clear c3
       replace H := Option.bind_eq_some_iff.mp H
       obtain ⟨t147, A40, H⟩ := H
       replace H : (silversideref07_Distinct.l1 k2 a0 x3_1 x4_1 (mx x5_2 t147) (wrap64 (x6_2 + 1))) = some r := H
       have A4 := Aside0.mk A40
       clear A40
       obtain ⟨ji5, hji5⟩ : ∃ j_ : Int, (mx x5_2 t147) = j_ := ⟨_, rfl⟩
       replace H : (silversideref07_Distinct.l1 k2 a0 x3_1 x4_1 ji5 (wrap64 (x6_2 + 1))) = some r := by first | (rw [hji5] at H; exact H) | (simp only [hji5] at H ⊢; exact H)
       (try rw [hji5] at A4)
       have hji5_ : (if x5_2 < t147 then t147 else x5_2) = ji5 := hji5
       have H' := Aside0.mk H
       clear H
       go_wp2_with (first | ((with_reducible refine gate_callee (f := 43) rfl ?_); refine goesL_ (some 23) rfl rfl Try.func43 (by kernel_rfl) rfl #[.string a0, .int .i64 x4_1, .string a0, .int .i64 x6_2] rfl (by (try simp only [List.map_toArray, List.map_cons, List.map_nil]); first | done | rfl | (simp only [List.length_drop, List.length_take]; rfl)) ?_; (with_reducible refine (silversideref07_Common.calls k2 a0 x4_1 a0 x6_2 t147 _ A4.out).mono ?_); rintro e w' ⟨rfl, ⟨nd, rfl⟩⟩; refine ⟨_, rfl, ?_⟩))
       go_roundg k2
       case measure => have := HK1.out; have := HK2.out; omega
       case rel => exact ⟨(ji5), (wrap64 (x6_2 + 1)), (by first | rfl | (simp; done) | (simp only [← hji5] <;> (first | rfl | simp)) | (simp [*]; done)), (by first | rfl | (simp; done) | (simp [*]; done)), H', ⟨by have := HK1.out; have := HK2.out; omega⟩, ⟨by repeat (first | (with_reducible first | exact HB.out | apply below_alloc | apply pw_below_drewN | apply below_drew1) | exact HB.out)⟩⟩
      ·rw [if_neg c3] at H
       have c3b0 : decide (x6_2 < x4_1) = false := decide_eq_false c3
       clear c3
       have H' := Aside0.mk H
       clear H
       go_wp2
       go_roundg k2
       case measure => have := HK1.out; have := HK2.out; omega
       case rel => exact ⟨(wrap64 ((wrap64 ((wrap64 (x3_1 + (a0.size : Int))) - x4_1)) - x5_2)), (wrap64 (x4_1 + 1)), (by first | rfl | (simp; done) | (simp [*]; done)), (by first | rfl | (simp; done) | (simp [*]; done)), H', ⟨by have := HK1.out; have := HK2.out; omega⟩, ⟨by repeat (first | (with_reducible first | exact HB.out | apply below_alloc | apply pw_below_drewN | apply below_drew1) | exact HB.out)⟩⟩
   ·rw [if_neg c2] at H
    have c2b0 : decide (x4_1 < (a0.size : Int)) = false := decide_eq_false c2
    clear c2
    obtain rfl := Option.some.inj H
    go_wp2
    go_ret
    exact ⟨by first | rfl | (simp [errW_none, errW_some] <;> rfl) | (simp [*, errW_none, errW_some] <;> rfl), by repeat (first | (with_reducible first | exact HB.out | apply below_alloc | apply pw_below_drewN | apply below_drew1) | exact HB.out)⟩

end Go.Proofs.Ytppelnlocfcgfaa.P
namespace Go.Proofs.Fnd
/-- what holds of the first elements alone stands in front -/
theorem filter_front {α : Type} (a : α → Bool) : ∀ (l : List α), l.Pairwise (fun x y => a y = true → a x = true) → l.filter a = l.take (l.countP a) ∧ l.filter (fun x => !a x) = l.drop (l.countP a)
  | [], _ => ⟨rfl, rfl⟩
  | x :: l, h => by
    rw [List.pairwise_cons] at h
    obtain ⟨h1, h2⟩ := filter_front a l h.2
    by_cases hx : a x = true
    · rw [List.countP_cons_of_pos hx, List.filter_cons_of_pos hx, List.filter_cons_of_neg (by simp [hx]), List.take_succ_cons, List.drop_succ_cons, h1, h2]
      exact ⟨rfl, rfl⟩
    · have hl : ∀ y, y ∈ l → ¬ a y = true := fun y hy e => hx (h.1 y hy e)
      have hc : l.countP a = 0 := List.countP_eq_zero.2 hl
      rw [List.countP_cons_of_neg hx, hc, List.filter_cons_of_neg hx, List.filter_cons_of_pos (by simp [hx]), List.take_zero, List.drop_zero]
      refine ⟨List.filter_eq_nil_iff.2 hl, ?_⟩
      congr 1
      exact List.filter_eq_self.2 (fun y hy => by simp [hl y hy])
theorem below_le_upto (s p : List UInt8) : below s p ≤ upto s p := by
  unfold below upto
  refine List.countP_mono_left fun i _ h => ?_
  simp only [decide_eq_true_eq, Bool.not_eq_true', decide_eq_false_iff_not] at h ⊢
  exact List.lt_asymm h
theorem upto_le (s p : List UInt8) : upto s p ≤ s.length := by
  have := List.countP_le_length (p := fun i => !decide (p < beginning s p.length i)) (l := List.range s.length)
  rwa [List.length_range] at this
theorem seg_order (s p : List UInt8) : ((sufOrd s).drop (below s p)).take (upto s p - below s p) = (sufOrd s).filter (fun i => decide (beginning s p.length i = p)) := by
  have hup := sufOrd_up s
  have hperm := (sufOrd_isOrd s).perm
  have hb : below s p = (sufOrd s).countP (fun i => decide (beginning s p.length i < p)) := (hperm.countP_eq _).symm
  have hu : upto s p = (sufOrd s).countP (fun i => !decide (p < beginning s p.length i)) := (hperm.countP_eq _).symm
  have key : ∀ x y : Nat, s.drop x < s.drop y → ¬ beginning s p.length y < beginning s p.length x := fun x y h => take_le p.length (fun q => List.lt_asymm q h)
  have f1 := (filter_front (fun i => !decide (p < beginning s p.length i)) (sufOrd s) (hup.imp (fun {x y} h h2 => by
    simp only [Bool.not_eq_true', decide_eq_false_iff_not] at h2 ⊢
    exact fun q => h2 (Std.lt_of_lt_of_le q (List.not_lt.1 (key x y h)))))).1
  have f2 := (filter_front (fun i => decide (beginning s p.length i < p)) ((sufOrd s).take (upto s p)) ((hup.sublist (List.take_sublist _ _)).imp (fun {x y} h h2 => by
    simp only [decide_eq_true_eq] at h2 ⊢
    exact Std.lt_of_le_of_lt (List.not_lt.1 (key x y h)) h2))).2
  rw [← hu] at f1
  have hc : ((sufOrd s).take (upto s p)).countP (fun i => decide (beginning s p.length i < p)) = below s p := by
    rw [← f1, List.countP_filter, hb]
    refine List.countP_congr fun i _ => ?_
    simp only [Bool.and_eq_true, decide_eq_true_eq, Bool.not_eq_true', decide_eq_false_iff_not]
    exact ⟨fun h => h.1, fun h => ⟨h, List.lt_asymm h⟩⟩
  rw [hc] at f2
  rw [← List.drop_take, ← f2, ← f1, List.filter_filter]
  refine List.filter_congr fun i _ => ?_
  rw [Bool.eq_iff_iff]
  simp only [Bool.and_eq_true, decide_eq_true_eq, Bool.not_eq_true', decide_eq_false_iff_not]
  constructor
  · rintro ⟨h1, h2⟩
    exact Std.le_antisymm (List.not_lt.1 h2) (List.not_lt.1 h1)
  · intro h
    rw [h]
    exact ⟨List.lt_irrefl _, List.lt_irrefl _⟩
theorem sorted_seg (s p : List UInt8) : (((((sufOrd s).map Int.ofNat).drop (below s p)).take (upto s p - below s p)).mergeSort (fun x y => decide (x ≤ y))) = (((List.range s.length).filter fun i => decide (beginning s p.length i = p)).map Int.ofNat) := by
  rw [← List.map_drop, ← List.map_take, seg_order]
  refine List.Perm.eq_of_pairwise (le := fun x y : Int => x ≤ y) (fun a b _ _ h1 h2 => Int.le_antisymm h1 h2) ?_ ?_ ?_
  · exact (List.pairwise_mergeSort (le := fun x y : Int => decide (x ≤ y)) (fun a b c h1 h2 => by simp only [decide_eq_true_eq] at *; omega) (fun a b => by simp only [Bool.or_eq_true, decide_eq_true_eq]; omega) _).imp (fun h => by simpa using h)
  · rw [List.pairwise_map]
    refine (List.pairwise_lt_range.sublist List.filter_sublist).imp (fun h => ?_)
    simp only [Int.ofNat_eq_natCast]; omega
  · refine (List.mergeSort_perm _ _).trans (((sufOrd_isOrd s).perm.filter _).map _)
end Go.Proofs.Fnd
namespace Go.Proofs.Ytppelnlocfcgfaa.P
open Go.RowKit Go.Shelf Go.Proofs.YtppelnlocfcgfaaW.PrintWords Go.Proofs.YtppelnlocfcgfaaW.PrintLast Go.Proofs.YtppelnlocfcgfaaW.PrintMore
open Go.Proofs.Fnd
set_option linter.unusedVariables false
set_option linter.unusedSimpArgs false
attribute [local go_sem] Oper.semAt_some
/-- what has come when k rounds are over -/
def seg (l : List Int) (lo k : Nat) : List Int := (l.drop lo).take k
theorem seg_len (l : List Int) (lo k : Nat) (h : lo + k ≤ l.length) : (seg l lo k).length = k := by simp [seg]; omega
theorem seg_succ (l : List Int) (lo k : Nat) (h : lo + k < l.length) : seg l lo (k + 1) = seg l lo k ++ [el l (lo + k)] := by
  unfold seg el
  rw [List.take_succ_eq_append_getElem (by rw [List.length_drop]; omega), List.getElem_drop, List.getD_eq_getElem?_getD, List.getElem?_eq_getElem h, Option.getD_some]
set_option maxHeartbeats 2000000 in
set_option maxRecDepth 100000 in
theorem places1_in (n l gx gp lo hi : Nat) (t p : ByteArray) (A1 : Option Addr) (c1 : Nat) (l1 : List Int) (A2 : Option Addr) (n2 c2 : Nat) (w : World)
    (hlh : lo ≤ hi) (hhl : hi ≤ l1.length) (hc1 : l1.length ≤ c1) (hr1 : Kd.C (Kd.int .i64) w A1 l1.length l1)
    (hspan : ∀ W, Below w.heap.size w W → Calls Try.prog 49 #[.agg #[.string t, .slice A1 l1.length c1, .slice A2 n2 c2], .string p] W fun e w' => e = .returned (.tuple #[.int .i64 lo, .int .i64 hi]) ∧ Below W.heap.size W w')
    (J Jx : List Int → World → Prop) (W : World) (hJ : AbidesFrom W.heap.size J)
    (hY : ∀ pre x W1, J pre W1 → pre.length < hi - lo → YieldAt Fence.wide (n - 1) Try.prog l #[.int .i64 x] W1 fun e W' => (e = .returned (.bool true) ∧ J (pre ++ [x]) W' ∧ Below w.heap.size W1 W') ∨ (e = .returned (.bool false) ∧ Jx (pre ++ [x]) W'))
    (hw : Below w.heap.size w W)
    (hcx0 : W.cell? ⟨gx, 0, none⟩ = some (.string t)) (hcx1 : W.cell? ⟨gx, 1, none⟩ = some (.slice A1 l1.length c1)) (hcx2 : W.cell? ⟨gx, 2, none⟩ = some (.slice A2 n2 c2)) (hcp : W.cell? ⟨gp, 0, none⟩ = some (.string p)) (h0 : J [] W) :
    CallsIn Fence.wide n Try.prog 62 #[.func (.yield l) #[] #[], .pointer (some ⟨gx, 0, none⟩), .pointer (some ⟨gp, 0, none⟩)] W fun e W' => (∃ v, e = .returned v) ∧
      ((∃ ys, ys = seg l1 lo (hi - lo) ∧ J ys W') ∨ (∃ pre, (∃ k, k ≤ hi - lo ∧ pre = seg l1 lo k) ∧ Jx pre W')) := by
  have HR1 := Aside0.mk hr1
  have HSP := Aside0.mk hspan
  have HJ := Aside0.mk hJ
  have HY := Aside0.mk hY
  have HW := Aside0.mk hw
  have H0 := Aside0.mk h0
  have hgx := (World.block_lt_of_cell? W _ hcx1)
  clear hr1 hspan hJ hY hw h0
  have hloI : ((lo : Nat) : Int) ≤ ((hi : Nat) : Int) := by omega
  have hhiI : ((hi : Nat) : Int) ≤ ((c1 : Nat) : Int) := by omega
  refine callsIn_of_wp Try.func62 rfl trivial ?_ rfl
  simp only [Try.ntmps62, List.size_toArray, List.length_cons, List.length_nil, Nat.reduceAdd, Nat.reduceSub, Array.replicate_succ, Array.replicate_zero, List.push_toArray, List.append_toArray, List.nil_append, List.cons_append]
  gi_wp2
  refine ⟨trivial, fun h => (by simp [Fence.wide] at h), ?_⟩
  refine (callsIn_wide.2 (HSP.out _ HW.out)).mono ?_
  rintro e w1 ⟨rfl, hb1⟩
  have HB1 := Aside0.mk hb1
  have hcx1' := (HB1.out.cell (p := ⟨gx, 1, none⟩) hgx).trans hcx1
  have HJ1 := Aside0.mk (HJ.out [] W w1 none H0.out (grown_of_below hb1 none) (fun r e => by cases e))
  have HW1 := Aside0.mk (below_step HW.out hb1)
  clear hb1 hcx0 hcx2 hcp
  by_cases hne : lo < hi
  · obtain ⟨ad, rfl, _⟩ := Kd.at_int HR1.out (0 : Int) (by omega) (by omega)
    have hcl : ¬ c1 = lo := by omega
    have HCE : Aside0 (∀ (W' : World) (k : Nat), Below w.heap.size w W' → k < hi - lo → W'.cell? ((ad.add lo).add k) = some (.int .i64 (el l1 (lo + k)))) := ⟨fun W' k hb hk => by
      obtain ⟨ad', e, hx⟩ := Kd.at_int HR1.out ((lo + k : Nat) : Int) (by omega) (by omega)
      cases e
      rw [show rd l1 ((lo + k : Nat) : Int) = el l1 ((lo + k : Nat) : Int).toNat from rfl, Int.toNat_natCast] at hx
      have hlt := World.block_lt_of_cell? w _ hx
      have e2 : (ad.add lo).add k = ad.add (lo + k) := by
        unfold Addr.add
        repeat' split
        all_goals first | (simp_all; done) | (simp_all; omega) | omega
      rw [e2]
      exact (hb.cell hlt).trans hx⟩
    gi_wp2
    gi_loopw [20] (fun v20 wr => ∃ k : Nat, k ≤ hi - lo ∧ v20 = .int .i64 k ∧ Aside0 (J (seg l1 lo k) wr) ∧ Aside0 (Below w.heap.size w wr)) (fun v20 _ => hi - lo - (intOf v20).toNat)
    case atStart => exact ⟨0, Nat.zero_le _, rfl, ⟨HJ1.out⟩, HW1⟩
    case round =>
      obtain ⟨k, hk, rfl, HJs, HWr⟩ := hrel
      by_cases hlt : k < hi - lo
      · obtain ⟨fn, tmps, assign, body, hy, hR⟩ := HY.out _ (el l1 (lo + k)) wr HJs.out (by rw [seg_len _ _ _ (by omega)]; exact hlt)
        have hcx := HCE.out wr k HWr.out hlt
        have hltI : ((k : Nat) : Int) < ((hi - lo : Nat) : Int) := by omega
        have hkb : ((k : Nat) : Int) < 9223372036854775807 := by have := Kd.C_max HR1.out; omega
        have HSG := Aside0.mk (seg_succ l1 lo k (by omega))
        generalize el l1 (lo + k) = x at *
        gi_wp2
        refine ⟨fun h => (by simp [Fence.wide] at h), ?_⟩
        refine hR.mono ?_
        rintro e W3 (⟨rfl, hJ3, hk3⟩ | ⟨rfl, hJx3⟩)
        · rw [← HSG.out] at hJ3
          have HJ3 := Aside0.mk hJ3
          have HW3 := Aside0.mk (HWr.out.trans hk3)
          clear hJ3 hk3
          gi_wp2
          go_roundw
          case rel => exact ⟨k + 1, by omega, by go_num, HJ3, HW3⟩
          case measure => simp [intOf]; omega
        · rw [← HSG.out] at hJx3
          gi_wp2
          refine bodyPost_ret (results_none rfl _ _ _) rfl ?_
          exact ⟨⟨_, rfl⟩, .inr ⟨_, ⟨k + 1, by omega, rfl⟩, hJx3⟩⟩
      · obtain rfl : k = hi - lo := by omega
        gi_wp2
        go_end0
        exact ⟨⟨_, rfl⟩, .inl ⟨_, rfl, HJs.out⟩⟩
  · obtain rfl : hi = lo := by omega
    gi_wp2
    all_goals
      gi_loopw [20] (fun v20 wr => v20 = .int .i64 0 ∧ Aside0 (J [] wr)) (fun _ _ => 0)
      case atStart => exact ⟨rfl, HJ1⟩
      case round =>
        obtain ⟨rfl, HJs⟩ := hrel
        gi_wp2
        go_end0
        exact ⟨⟨_, rfl⟩, .inl ⟨_, by simp [seg], HJs.out⟩⟩
end Go.Proofs.Ytppelnlocfcgfaa.P
namespace Go.Proofs.Ytppelnlocfcgfaa.P
open Go.RowKit Go.Shelf Go.Sort Go.Proofs.YtppelnlocfcgfaaW.PrintWords Go.Proofs.YtppelnlocfcgfaaW.PrintLast Go.Proofs.YtppelnlocfcgfaaW.PrintMore
open Go.Proofs.Fnd
set_option linter.unusedVariables false
set_option linter.unusedSimpArgs false
attribute [local go_sem] Oper.semAt_some
set_option maxHeartbeats 1000000 in
theorem places_in (n : Nat) (t p : ByteArray) (A1 : Option Addr) (n1 c1 : Nat) (A2 : Option Addr) (n2 c2 : Nat) (w : World) :
    CallsIn Fence.wide n Try.prog 52 #[.agg #[.string t, .slice A1 n1 c1, .slice A2 n2 c2], .string p] w fun e w' => e = .returned (.func (.func 62) #[] #[.pointer (some ⟨w.heap.size, 0, none⟩), .pointer (some ⟨w.heap.size + 1, 0, none⟩)]) ∧ w' = (w.alloc (.cells #[.string t, .slice A1 n1 c1, .slice A2 n2 c2] 24)).alloc (.cells #[.string p] 9) := by
  refine callsIn_of_wp Try.func52 rfl trivial ?_ rfl
  simp only [Try.ntmps52, List.size_toArray, List.length_cons, List.length_nil, Nat.reduceAdd, Nat.reduceSub, Array.replicate_succ, Array.replicate_zero, List.push_toArray, List.append_toArray, List.nil_append, List.cons_append]
  gi_wp2
  go_ret
  exact ⟨rfl, rfl⟩
theorem places_stops (n gx gp lo hi : Nat) (t p : ByteArray) (A1 : Option Addr) (c1 : Nat) (l1 : List Int) (A2 : Option Addr) (n2 c2 : Nat) (w wl : World)
    (hlh : lo ≤ hi) (hhl : hi ≤ l1.length) (hc1 : l1.length ≤ c1) (hr1 : Kd.C (Kd.int .i64) w A1 l1.length l1)
    (hspan : ∀ W, Below w.heap.size w W → Calls Try.prog 49 #[.agg #[.string t, .slice A1 l1.length c1, .slice A2 n2 c2], .string p] W fun e w' => e = .returned (.tuple #[.int .i64 lo, .int .i64 hi]) ∧ Below W.heap.size W w')
    (hwl : Below w.heap.size w wl) (hgx : gx < wl.heap.size) (hgp : gp < wl.heap.size)
    (hcx0 : wl.cell? ⟨gx, 0, none⟩ = some (.string t)) (hcx1 : wl.cell? ⟨gx, 1, none⟩ = some (.slice A1 l1.length c1)) (hcx2 : wl.cell? ⟨gx, 2, none⟩ = some (.slice A2 n2 c2)) (hcp : wl.cell? ⟨gp, 0, none⟩ = some (.string p)) :
    SeqStopsK Fence.wide n Try.prog 62 #[.pointer (some ⟨gx, 0, none⟩), .pointer (some ⟨gp, 0, none⟩)] (fun x : Int => #[Value.int .i64 x]) (Below w.heap.size) (fun ys => ys = seg l1 lo (hi - lo)) (fun pre => ∃ k, k ≤ hi - lo ∧ pre = seg l1 lo k) (hi - lo) wl := fun l J Jx W hW hJ _ hY h0 => by
  refine (places1_in n l gx gp lo hi t p A1 c1 l1 A2 n2 c2 w hlh hhl hc1 hr1 hspan J Jx W hJ hY (hwl.trans (hW.mono hwl.size)) ((hW.cell (p := ⟨gx, 0, none⟩) hgx).trans hcx0) ((hW.cell (p := ⟨gx, 1, none⟩) hgx).trans hcx1) ((hW.cell (p := ⟨gx, 2, none⟩) hgx).trans hcx2) ((hW.cell (p := ⟨gp, 0, none⟩) hgp).trans hcp) h0).mono ?_
  rintro e W' ⟨he, hh⟩
  exact ⟨he, hh⟩
set_option maxRecDepth 100000 in
set_option maxHeartbeats 4000000 in
theorem find_in (n lo hi : Nat) (t p : ByteArray) (A1 : Option Addr) (c1 : Nat) (l1 : List Int) (A2 : Option Addr) (n2 c2 : Nat) (w : World)
    (hlh : lo ≤ hi) (hhl : hi ≤ l1.length) (hl4 : l1.length ≤ 4096) (hc1 : l1.length ≤ c1) (hr1 : Kd.C (Kd.int .i64) w A1 l1.length l1)
    (hspan : ∀ W, Below w.heap.size w W → Calls Try.prog 49 #[.agg #[.string t, .slice A1 l1.length c1, .slice A2 n2 c2], .string p] W fun e w' => e = .returned (.tuple #[.int .i64 lo, .int .i64 hi]) ∧ Below W.heap.size W w')
    (hsort0 : ∀ W, Calls Try.prog 53 #[.slice none 0 0] W fun e w' => e = .returned (.tuple #[]) ∧ w' = W)
    (hsort : ∀ (blk cap : Nat) (zs : List Int) (W : World), Holds (Value.int .i64) W blk 0 zs.toArray → blk < W.heap.size → zs.length < 4611686018427387904 → Calls Try.prog 53 #[.slice (some ⟨blk, 0, none⟩) zs.length cap] W fun e w' =>
      e = .returned (.tuple #[]) ∧ ∃ n os, w' = sortWorld (Value.int .i64) W blk 0 n (zs.mergeSort fun x y => decide (x ≤ y)).toArray os) (hn : 3 ≤ n) :
    CallsIn Fence.wide n Try.prog 38 #[.agg #[.string t, .slice A1 l1.length c1, .slice A2 n2 c2], .string p] w fun e w' => ∃ v, e = .returned v ∧ Kd.R (Kd.int .i64) 3 w' w.heap.size (fun _ => True) v ((seg l1 lo (hi - lo)).mergeSort (fun x y => decide (x ≤ y))) ∧ Below w.heap.size w w' := by
  have h1 : 1 ≤ n := by omega
  obtain ⟨i0, hi0, hz0, hz1, hz2⟩ := info_parts info3
  have HR1 := Aside0.mk hr1
  have HSP := Aside0.mk hspan
  have HS0 := Aside0.mk hsort0
  have HS1 := Aside0.mk hsort
  clear hr1 hspan hsort0 hsort
  refine callsIn_of_wp_marks Try.func38 rfl trivial ?_ rfl
  simp only [Try.ntmps38, List.size_toArray, List.length_cons, List.length_nil, Nat.reduceAdd, Nat.reduceSub, Array.replicate_succ, Array.replicate_zero, List.push_toArray, List.append_toArray, List.nil_append, List.cons_append]
  gi_wp2
  refine ⟨trivial, ?_⟩
  refine (places_in (n - 1) _ _ _ _ _ _ _ _ _).mono ?_
  rintro e w' ⟨rfl, rfl⟩
  have hB1 : Below w.heap.size w (w.alloc (Obj.cells #[.string t, .slice A1 l1.length c1, .slice A2 n2 c2] 24)) := below_alloc (Below.refl _ _) _
  have bO := Boxed.new (w.alloc (Obj.cells #[.string t, .slice A1 l1.length c1, .slice A2 n2 c2] 24)) 22 (.slice none 0 0)
  have hB2 := below_alloc hB1 (Obj.cells #[.slice none 0 0] 22)
  generalize hw2 : (w.alloc (Obj.cells #[.string t, .slice A1 l1.length c1, .slice A2 n2 c2] 24)).alloc (Obj.cells #[.slice none 0 0] 22) = w2 at *
  have hs2 : w2.heap.size = w.heap.size + 2 := by rw [← hw2]; simp
  have bX := heap_alloc_new w2 (Obj.cells #[.string t, .slice A1 l1.length c1, .slice A2 n2 c2] 24)
  have bP := heap_alloc2_new w2 (Obj.cells #[.string t, .slice A1 l1.length c1, .slice A2 n2 c2] 24) (Obj.cells #[.string p] 9)
  have hB4 := below_alloc (below_alloc hB2 (Obj.cells #[.string t, .slice A1 l1.length c1, .slice A2 n2 c2] 24)) (Obj.cells #[.string p] 9)
  have bX4 := blk_alloc bX (Obj.cells #[.string p] 9)
  have bO4 := (bO.alloc (Obj.cells #[.string t, .slice A1 l1.length c1, .slice A2 n2 c2] 24)).alloc (Obj.cells #[.string p] 9)
  rw [World.size_alloc] at bO4
  generalize hw4 : (w2.alloc (Obj.cells #[.string t, .slice A1 l1.length c1, .slice A2 n2 c2] 24)).alloc (Obj.cells #[.string p] 9) = w4 at *
  have hs4 : w4.heap.size = w.heap.size + 4 := by rw [← hw4]; simp [hs2]
  gi_wp2
  rw [hs2] at bX4 bP
  refine wpIn_rangeFunc_ownG rfl h1 (gf := 62) (lb := #[.pointer (some ⟨w.heap.size + 2, 0, none⟩), .pointer (some ⟨w.heap.size + 2 + 1, 0, none⟩)]) rfl trivial (enters_of Try.func62 (by kernel_rfl) rfl)
    (places_stops (n - 1) (w.heap.size + 2) (w.heap.size + 2 + 1) lo hi t p A1 c1 l1 A2 n2 c2 w w4 hlh hhl hc1 HR1.out HSP.out hB4 (by omega) (by omega) (blk_cell bX4 0) (blk_cell bX4 1) (blk_cell bX4 2) (blk_cell bP 0)) belowK_t (belowK_b (by omega)) (Below.refl _ _) (fun _ => rfl)
    (fun pre W => (∃ v, Boxed W (w.heap.size + 1) 22 v ∧ W.ownsRow w.heap.size 3 1 v pre.length (pre.map (Value.int .i64)) ∧ True) ∧ Below w.heap.size w W)
    (fun _ _ _ => False)
    (OwnFrom.and (Own.from (holdsRow_own w.heap.size (w.heap.size + 1) 22 3 1 (fun pre : List Int => pre.length) (fun pre => pre.map (Value.int .i64)) (fun pre v => True)) _) (ownFrom_below (Nat.le_refl _) (by omega)))
    (fun _ _ _ _ _ hs _ _ => hs)
    ⟨⟨_, bO4, World.ownsRow_nil _ _ _ _, trivial⟩, hB4⟩
    (fun x => { tmps := #[.agg #[.string t, .slice A1 l1.length c1, .slice A2 n2 c2], .string p, .pointer (some ⟨w.heap.size, 0, none⟩), undef, .slice none 0 0, .pointer (some ⟨w.heap.size + 1, 0, none⟩), .int .i64 x, .agg #[.string t, .slice A1 l1.length c1, .slice A2 n2 c2], .string p, .func (.func 62) #[] #[.pointer (some ⟨w.heap.size + 2, 0, none⟩), .pointer (some ⟨w.heap.size + 2 + 1, 0, none⟩)], .int .i64 x, undef, undef, undef, undef, undef, undef, undef], defers := [] }) ?assign ?body ?done ?stop
  case assign =>
    intro l x W K hK
    gi_wp2
    exact hK
  case body =>
    rintro l pre x W ⟨⟨v, hv, hrow, _⟩, hB⟩ hlt
    have hc := hv.cell
    have hN : pre.length < 4096 := by omega
    have HR := Aside0.mk hrow
    clear hrow
    gi_wp2_with (gi_at_builtin; refine wpListIn_append_own _ rfl _ _ 22 rfl w.heap.size 3 i0 (.int .i64 0) 1 8 Try.underlying22 hi0 hz0 hz1 hz2 rfl (by decide) _ _ _ rfl (HR.out.alloc _) ⟨W.heap.size, 0, none⟩ 1 1 [.int .i64 x] rfl rfl (cell_one_new _ _ _) (by simp [Value.oneCell']) (by unfold maxLen; omega) (by omega) (by have := hB.size; simp; omega) ?_; intro v' w1 hown' hgrow _; obtain ⟨g', cap', rfl⟩ := ownsRow_succ hown'; obtain ⟨hv1, hv2, hr2, hk2, hb2⟩ := hv.appended (by decide) HR.out hB.size (by omega) hown' hgrow; have hc1 := hv1.cell; have hf1 := hv1.frozen)
    exact ⟨hk2.from _, hb2, ⟨_, hv2, by simpa using hr2, trivial⟩, hB.trans hb2⟩
  case done =>
    rintro D ys W hD rfl ⟨⟨v, hv, hrow, _⟩, hB⟩ hK
    have hys : (seg l1 lo (hi - lo)).length ≤ 4096 := by rw [seg_len _ _ _ (by omega)]; omega
    have hc := hv.cell
    rcases hrow.2 with ⟨rfl, hnil⟩ | ⟨g, cap, cur, rfl, hg, hblk, _⟩
    · have hz : (seg l1 lo (hi - lo)) = [] := List.eq_nil_of_length_eq_zero hnil
      have HZ := Aside0.mk hz
      clear hz
      gi_wp2
      refine ⟨trivial, ?_⟩
      refine (callsIn_wide.2 (HS0.out _)).mono ?_
      rintro e w' ⟨rfl, rfl⟩
      gi_wp2
      refine ⟨by simp, .inl ⟨_, _, rfl, run_takeDeferred hK, ?_⟩⟩
      exact ⟨_, results_tmp rfl _ _ _, _, rfl, by rw [HZ.out, List.mergeSort_nil]; exact Kd.R_nil _ _ _ _ _, hB.trans (belowK_b (w := w) (Nat.le_refl _) _ D _ _ (by omega) hK rfl rfl)⟩
    · have hBg : w.heap.size + 1 ≠ g := by
        intro e
        have h2 := hv.not_row (by decide) hrow
        simp [Value.ownBlock] at h2
        exact h2 e
      have hDg : D ≠ g := by
        intro e
        rw [e, hblk] at hK
        cases hK
      have hrow' : W.ownsRow w.heap.size 3 1 (.slice (some ⟨g, 0, none⟩) (seg l1 lo (hi - lo)).length cap) (seg l1 lo (hi - lo)).length ((seg l1 lo (hi - lo)).toArray.toList.map (Value.int .i64)) := by simpa using hrow
      have hH := holds_of_own hrow' (by simp)
      gi_wp2
      refine ⟨trivial, ?_⟩
      refine (callsIn_wide.2 (HS1.out g cap _ W hH (blk_lt hblk) (by omega))).mono ?_
      rintro e w' ⟨rfl, m, os, rfl⟩
      have hv2 : (sortWorld (Value.int .i64) W g 0 m ((seg l1 lo (hi - lo)).mergeSort (fun x y => decide (x ≤ y))).toArray os).cell? ⟨w.heap.size + 1, 0, none⟩ = some (.slice (some ⟨g, 0, none⟩) (seg l1 lo (hi - lo)).length cap) := by
        rw [← hc]
        exact World.cell?_of_block (sortWorld_block hv.lt hBg)
      have hK2 : (sortWorld (Value.int .i64) W g 0 m ((seg l1 lo (hi - lo)).mergeSort (fun x y => decide (x ≤ y))).toArray os).heap[D]? = some (.deferred (some [])) := (sortWorld_block (Array.getElem?_eq_some_iff.1 hK).1 hDg).trans hK
      have hG := sortWorld_grown (Value.int .i64) W g 0 m ((seg l1 lo (hi - lo)).mergeSort (fun x y => decide (x ≤ y))).toArray os
      have hO := own_sorted (d' := ((seg l1 lo (hi - lo)).mergeSort (fun x y => decide (x ≤ y))).toArray) hrow' (by simp) m os
      generalize sortWorld (Value.int .i64) W g 0 m ((seg l1 lo (hi - lo)).mergeSort (fun x y => decide (x ≤ y))).toArray os = W2 at *
      have hB2' : Below w.heap.size w W2 := hB.grown hG hB.size (fun k e => by cases e; exact hg)
      clear hc
      gi_wp2
      refine ⟨by simp, .inl ⟨_, _, rfl, run_takeDeferred hK2, ?_⟩⟩
      refine ⟨_, results_tmp rfl _ _ _, _, rfl, ?_, hB2'.trans (belowK_b (w := w) (Nat.le_refl _) W2 D _ _ (by omega) hK2 rfl rfl)⟩
      have hO2 := ownsRow_putObj hO (.deferred none) hK2 rfl
      exact Kd.R_of_own (by rw [List.length_mergeSort]; exact hO2) (fun _ _ => trivial)
  case stop =>
    rintro D c pre W _ _ h _
    exact h.elim
end Go.Proofs.Ytppelnlocfcgfaa.P
namespace Go.Proofs.Ytppelnlocfcgfaa.P
open Go.RowKit Go.Shelf Go.Sort Go.Proofs.YtppelnlocfcgfaaW.PrintWords Go.Proofs.YtppelnlocfcgfaaW.PrintLast Go.Proofs.YtppelnlocfcgfaaW.PrintMore
open Go.Proofs.Fnd
set_option linter.unusedVariables false
set_option linter.unusedSimpArgs false
/-- the positions at which a pattern occurs -/
def find_Index_Find.f (a0 : ByteArray) (l1 l2 : List Int) (a1 : ByteArray) : Option (List Int) :=
  if a0.size ≤ 4096 ∧ a1.size ≤ 140737488351232 ∧ l1 = (sufOrd a0.data.toList).map Int.ofNat then some (((List.range a0.data.toList.length).filter fun i => decide (beginning a0.data.toList a1.data.toList.length i = a1.data.toList)).map Int.ofNat) else none
set_option maxHeartbeats 1000000 in
theorem find_Index_Find.calls (a0 : ByteArray) (A1 : Option Addr) (c1 : Nat) (l1 : List Int) (A2 : Option Addr) (c2 : Nat) (l2 : List Int) (a1 : ByteArray) (r : List Int) (w : World) (hr1 : Kd.C (Kd.int .i64) w A1 l1.length l1) (hc1 : l1.length ≤ c1) (hr2 : Kd.C (Kd.int .i64) w A2 l2.length l2) (hc2 : l2.length ≤ c2) (h : find_Index_Find.f a0 l1 l2 a1 = some r) :
    Calls Try.prog 38 #[.agg #[.string a0, .slice A1 l1.length c1, .slice A2 l2.length c2], .string a1] w fun e w' => ∃ v0_ : Value, e = .returned (v0_) ∧ Kd.R (Kd.int .i64) 3 w' w.heap.size (fun _ => True) v0_ r ∧ Below w.heap.size w w' := by
  unfold find_Index_Find.f at h
  by_cases hs : a0.size ≤ 4096 ∧ a1.size ≤ 140737488351232 ∧ l1 = (sufOrd a0.data.toList).map Int.ofNat
  · rw [if_pos hs] at h
    injection h with h
    obtain ⟨hs1, hs2, hs3⟩ := hs
    have hll : l1.length = a0.data.toList.length := by rw [hs3, List.length_map, sufOrd_length]
    have hl0 : a0.data.toList.length = a0.size := data_length a0
    refine callsIn_wide.1 ((find_in 3 (below a0.data.toList a1.data.toList) (upto a0.data.toList a1.data.toList) a0 a1 A1 c1 l1 A2 l2.length c2 w (below_le_upto _ _) (by rw [hll]; exact upto_le _ _) (by omega) hc1 hr1 (fun W hW => ?_) (fun W => Any.slices_Sort_int_none Try.lays189 none 0 W) (fun blk cap zs W hH hb hz => Try.slices_Sort_int blk 0 cap zs W hH hb hz) (by omega)).mono ?_)
    · exact find_Index_span.calls a0 A1 c1 l1 A2 c2 l2 a1 _ _ W (Kd.C_below hr1 hW) hc1 (Kd.C_below hr2 hW) hc2 (by unfold find_Index_span.f; rw [if_pos ⟨hs1, hs2, hs3⟩])
    · rintro e w' ⟨v, he, hr, hb⟩
      refine ⟨v, he, ?_, hb⟩
      rw [← h, ← sorted_seg]
      unfold seg at hr
      rw [hs3] at hr
      exact hr
  · rw [if_neg hs] at h
    exact absurd h (by simp)
end Go.Proofs.Ytppelnlocfcgfaa.P
namespace Go.Proofs.Ytppelnlocfcgfaa.P
open Go.RowKit Go.Proofs.YtppelnlocfcgfaaW.PrintWords Go.Proofs.YtppelnlocfcgfaaW.PrintLast Go.Proofs.YtppelnlocfcgfaaW.PrintMore
attribute [local go_sem] max2_int min2_int max_two min_two max_three min_three max_four min_four   -- for this text's walks alone
set_option linter.unusedVariables false
set_option linter.unusedSimpArgs false

/-! ### silversidelaw07_FindFinds: function 11 -/
def silversidelaw07_FindFinds.f (k : Nat) (a0 : ByteArray) (a1 : ByteArray) : Option (Bool) := if 0 ≤ (mn (a0.size : Int) 400) then (if (mn (a0.size : Int) 400) ≤ (a0.size : Int) then ((find_New.f k (a0.extract 0 ((mn (a0.size : Int) 400) : Int).toNat)).bind fun bt344 => ((silversideref07_Find.f k (a0.extract 0 ((mn (a0.size : Int) 400) : Int).toNat) a1).bind fun t353 => (if bt344.2.2.2 = 0 then ((find_Index_Find.f bt344.1 bt344.2.1 bt344.2.2.1 a1).bind fun t356 => ((silversidelaw07_ints.f k t356 t353).bind fun t359 => (if t359 = true then ((find_Index_Count.f bt344.1 bt344.2.1 bt344.2.2.1 a1).bind fun t360 => (if t360 = (t353.length : Int) then ((silversidelaw07_awake.f k).bind fun t361 => (some t361)) else (some false))) else (some false)))) else (some false)))) else (none)) else (none)
theorem silversidelaw07_FindFinds.mono : ∀ a0 a1 k, LeO (silversidelaw07_FindFinds.f k a0 a1) (silversidelaw07_FindFinds.f (k + 1) a0 a1) := by
 intro a0 a1 k
 unfold silversidelaw07_FindFinds.f
 repeat' first
   | (with_reducible exact find_New.mono _ _)
   | (with_reducible exact silversidelaw07_awake.mono _)
   | (with_reducible exact silversidelaw07_ints.mono _ _ _)
   | (with_reducible exact silversideref07_Find.mono _ _ _)
   | (with_reducible exact LeO.refl _)
   | (with_reducible exact LeO.none _)
   | (with_reducible refine LeO.ite ?_ ?_)
   | (with_reducible refine LeO.bind ?_ (fun _ => ?_))
   | exact find_New.mono _ _
   | exact silversidelaw07_awake.mono _
   | exact silversidelaw07_ints.mono _ _ _
   | exact silversideref07_Find.mono _ _ _
   | exact LeO.none _
   | refine LeO.ite ?_ ?_
   | refine LeO.bind ?_ (fun _ => ?_)
set_option maxHeartbeats 8000000 in
set_option maxRecDepth 100000 in
theorem silversidelaw07_FindFinds.calls (k : Nat) (a0 : ByteArray) (a1 : ByteArray) (r : Bool) (w : World) (h : silversidelaw07_FindFinds.f k a0 a1 = some r) :
  Calls Try.prog 11 #[.string a0, .string a1] w fun e w' => e = .returned (.bool r) ∧ Below w.heap.size w w' := by
 have hu24 := Try.underlying24
 have HB := Aside0.mk (Below.refl w.heap.size w)
 have H : (if 0 ≤ (mn (a0.size : Int) 400) then (if (mn (a0.size : Int) 400) ≤ (a0.size : Int) then ((find_New.f k (a0.extract 0 ((mn (a0.size : Int) 400) : Int).toNat)).bind fun bt344 => ((silversideref07_Find.f k (a0.extract 0 ((mn (a0.size : Int) 400) : Int).toNat) a1).bind fun t353 => (if bt344.2.2.2 = 0 then ((find_Index_Find.f bt344.1 bt344.2.1 bt344.2.2.1 a1).bind fun t356 => ((silversidelaw07_ints.f k t356 t353).bind fun t359 => (if t359 = true then ((find_Index_Count.f bt344.1 bt344.2.1 bt344.2.2.1 a1).bind fun t360 => (if t360 = (t353.length : Int) then ((silversidelaw07_awake.f k).bind fun t361 => (some t361)) else (some false))) else (some false)))) else (some false)))) else (none)) else (none)) = some r := h
 clear h
 obtain ⟨ji3, hji3⟩ : ∃ j_ : Int, (mn (a0.size : Int) 400) = j_ := ⟨_, rfl⟩
 replace H : (if 0 ≤ (ji3) then (if (ji3) ≤ (a0.size : Int) then ((find_New.f k (a0.extract 0 ((ji3) : Int).toNat)).bind fun bt344 => ((silversideref07_Find.f k (a0.extract 0 ((ji3) : Int).toNat) a1).bind fun t353 => (if bt344.2.2.2 = 0 then ((find_Index_Find.f bt344.1 bt344.2.1 bt344.2.2.1 a1).bind fun t356 => ((silversidelaw07_ints.f k t356 t353).bind fun t359 => (if t359 = true then ((find_Index_Count.f bt344.1 bt344.2.1 bt344.2.2.1 a1).bind fun t360 => (if t360 = (t353.length : Int) then ((silversidelaw07_awake.f k).bind fun t361 => (some t361)) else (some false))) else (some false)))) else (some false)))) else (none)) else (none)) = some r := by first | (rw [hji3] at H; exact H) | (simp only [hji3] at H ⊢; exact H)
 (try (have hji3h : ji3 ≤ 400 := by (rw [← hji3]; unfold mn; (repeat' split) <;> omega)))
 (try (have hji3g : ji3 ≤ 64 := by omega))
 (try (have hji3l : 0 ≤ ji3 := by (rw [← hji3]; unfold mn; (repeat' split) <;> omega)))
 (try (have hji3m : 0 ≤ ji3 := by omega))
 have hji3_ : (if 400 < (a0.size : Int) then 400 else (a0.size : Int)) = ji3 := hji3
 by_cases c4 : 0 ≤ (ji3)
 ·rw [if_pos c4] at H
  have c4b0 := eq_true c4
  have c4b1 : decide (0 ≤ (ji3)) = true := decide_eq_true c4
  clear c4
  by_cases c5 : (ji3) ≤ (a0.size : Int)
  ·rw [if_pos c5] at H
   have c5b0 := eq_true c5
   have c5b1 : decide ((ji3) ≤ (a0.size : Int)) = true := decide_eq_true c5
   clear c5
   replace H := Option.bind_eq_some_iff.mp H
   obtain ⟨⟨t344, t345, t348, t351⟩, A60, H⟩ := H
   replace H : ((silversideref07_Find.f k (a0.extract 0 ((ji3) : Int).toNat) a1).bind fun t353 => (if t351 = 0 then ((find_Index_Find.f t344 t345 t348 a1).bind fun t356 => ((silversidelaw07_ints.f k t356 t353).bind fun t359 => (if t359 = true then ((find_Index_Count.f t344 t345 t348 a1).bind fun t360 => (if t360 = (t353.length : Int) then ((silversidelaw07_awake.f k).bind fun t361 => (some t361)) else (some false))) else (some false)))) else (some false))) = some r := H
   have A6 := Aside0.mk A60
   clear A60
   replace H := Option.bind_eq_some_iff.mp H
   obtain ⟨t353, A70, H⟩ := H
   replace H : (if t351 = 0 then ((find_Index_Find.f t344 t345 t348 a1).bind fun t356 => ((silversidelaw07_ints.f k t356 t353).bind fun t359 => (if t359 = true then ((find_Index_Count.f t344 t345 t348 a1).bind fun t360 => (if t360 = (t353.length : Int) then ((silversidelaw07_awake.f k).bind fun t361 => (some t361)) else (some false))) else (some false)))) else (some false)) = some r := H
   have A7 := Aside0.mk A70
   clear A70
   by_cases c8 : t351 = 0
   ·rw [if_pos c8] at H
    have c8b0 : (t351 == 0) = true := beq_iff_eq.mpr c8
    have c8b1 : (t351 != 0) = false := bne_eq_false_iff_eq.mpr c8
    clear c8
    replace H := Option.bind_eq_some_iff.mp H
    obtain ⟨t356, A90, H⟩ := H
    replace H : ((silversidelaw07_ints.f k t356 t353).bind fun t359 => (if t359 = true then ((find_Index_Count.f t344 t345 t348 a1).bind fun t360 => (if t360 = (t353.length : Int) then ((silversidelaw07_awake.f k).bind fun t361 => (some t361)) else (some false))) else (some false))) = some r := H
    have A9 := Aside0.mk A90
    clear A90
    replace H := Option.bind_eq_some_iff.mp H
    obtain ⟨t359, A100, H⟩ := H
    replace H : (if t359 = true then ((find_Index_Count.f t344 t345 t348 a1).bind fun t360 => (if t360 = (t353.length : Int) then ((silversidelaw07_awake.f k).bind fun t361 => (some t361)) else (some false))) else (some false)) = some r := H
    have A10 := Aside0.mk A100
    clear A100
    by_cases c11 : t359 = true
    ·subst c11
     have H1 : ((find_Index_Count.f t344 t345 t348 a1).bind fun t360 => (if t360 = (t353.length : Int) then ((silversidelaw07_awake.f k).bind fun t361 => (some t361)) else (some false))) = some r := by rw [if_pos rfl] at H; exact H
     clear H
     have H := H1
     clear H1
     replace H := Option.bind_eq_some_iff.mp H
     obtain ⟨t360, A120, H⟩ := H
     replace H : (if t360 = (t353.length : Int) then ((silversidelaw07_awake.f k).bind fun t361 => (some t361)) else (some false)) = some r := H
     have A12 := Aside0.mk A120
     clear A120
     by_cases c13 : t360 = (t353.length : Int)
     ·rw [if_pos c13] at H
      have c13b0 : (t360 == (t353.length : Int)) = true := beq_iff_eq.mpr c13
      have c13b1 : (t360 != (t353.length : Int)) = false := bne_eq_false_iff_eq.mpr c13
      clear c13
      replace H := Option.bind_eq_some_iff.mp H
      obtain ⟨t361, A140, H⟩ := H
      replace H : (some t361) = some r := H
      have A14 := Aside0.mk A140
      clear A140
      obtain rfl := Option.some.inj H
      go_enter Try.func11, Try.ntmps11
      go_wp2_with (first | ((with_reducible refine gate_callee (f := 16) rfl ?_); refine goesL_ (some 15) rfl rfl Try.func16 (by kernel_rfl) rfl #[.string (a0.extract 0 ((ji3) : Int).toNat)] rfl (by (try simp only [List.map_toArray, List.map_cons, List.map_nil]); first | done | (simp only [hji3]; rfl) | rfl | (simp only [List.length_drop, List.length_take]; rfl)) ?_; (with_reducible refine (find_New.calls k (a0.extract 0 ((ji3) : Int).toNat) t344 t345 t348 t351 _ A6.out).mono ?_); rintro e w15 ⟨v346, v349, rfl, ho0, ho1, hb⟩; refine ⟨_, rfl, ?_⟩; have n0_ := Aside0.mk (Kd.R_lower ho0 (below_size (by repeat (first | (with_reducible first | exact HB.out | apply below_alloc | apply pw_below_drewN | apply below_drew1) | exact HB.out)))); have n1_ := Aside0.mk (Kd.R_lower ho1 (below_size (by repeat (first | (with_reducible first | exact HB.out | apply below_alloc | apply pw_below_drewN | apply below_drew1) | exact HB.out)))); have n2_ := Aside0.mk (below_step (by repeat (first | (with_reducible first | exact HB.out | apply below_alloc | apply pw_below_drewN | apply below_drew1) | exact HB.out)) hb); clear HB; have HO347 := n0_; have HO350 := n1_; have HB := n2_; clear n0_ n1_ n2_; (try clear hb); (try clear hb2); (try clear hk); (try clear hi); (try clear ho0); (try clear ho1)) | ((with_reducible refine gate_dst (N := 5) rfl ?_); (try (refine gate_guard (by rfl) ?_; dsimp only)); refine box_event ?hg (N := 5) ?hd (cs := #[.string (⟨#[]⟩ : ByteArray), .slice none 0 0, .slice none 0 0]) (t := 24) ?hr ?_; (case hd => rfl); (case hg => rfl); (case hr => first | (go_simp; done) | (go_simp; rfl)); intro gb352 hg w16 hbox hb; have n0_ := Aside0.mk (Kd.R_below (by (with_reducible repeat (first | apply Kd.R_alloc | apply Kd.R_drewN | apply Kd.R_drew)); exact HO347.out) hb); have n1_ := Aside0.mk (Kd.R_below (by (with_reducible repeat (first | apply Kd.R_alloc | apply Kd.R_drewN | apply Kd.R_drew)); exact HO350.out) hb); have n2_ := Aside0.mk (below_step (by repeat (first | (with_reducible first | exact HB.out | apply below_alloc | apply pw_below_drewN | apply below_drew1) | exact HB.out)) hb); have n3_ := Aside0.mk (hbox); have n4_ := Aside0.mk ((by rw [hg]; exact (below_size (by repeat (first | (with_reducible first | exact HB.out | apply below_alloc | apply pw_below_drewN | apply below_drew1) | exact HB.out))) : w.heap.size ≤ gb352)); have n5_ := Aside0.mk ((by rw [hg]; exact (below_size (by repeat (first | (with_reducible first | exact HB.out | apply below_alloc | apply pw_below_drewN | apply below_drew1) | exact HB.out))) : w.heap.size ≤ gb352)); clear HO347; clear HO350; clear HB; have HO347 := n0_; have HO350 := n1_; have HB := n2_; have BK352 := n3_; have GW352 := n4_; have GE352 := n5_; clear n0_ n1_ n2_ n3_ n4_ n5_; clear hb hbox hg; have hcz17_0 : w16.cell? ⟨gb352, 0, none⟩ = some (.string (⟨#[]⟩ : ByteArray)) := (blk_cell BK352.out 0).trans rfl; have hcz17_1 : w16.cell? ⟨gb352, 1, none⟩ = some (.slice none 0 0) := (blk_cell BK352.out 1).trans rfl; have hcz17_2 : w16.cell? ⟨gb352, 2, none⟩ = some (.slice none 0 0) := (blk_cell BK352.out 2).trans rfl; have hfz17_0 := blk_frozen BK352.out 0; have hfz17_1 := blk_frozen BK352.out 1; have hfz17_2 := blk_frozen BK352.out 2; obtain ⟨Ao18, co18, eo18⟩ := Kd.R_slice HO347.out; subst eo18; obtain ⟨Ao19, co19, eo19⟩ := Kd.R_slice HO350.out; subst eo19) | ((with_reducible refine gate_callee (f := 37) rfl ?_); refine goesL_ (some 20) rfl rfl Try.func37 (by kernel_rfl) rfl #[.string (a0.extract 0 ((ji3) : Int).toNat), .string a1] rfl (by (try simp only [List.map_toArray, List.map_cons, List.map_nil]); first | done | (simp only [hji3]; rfl) | rfl | (simp only [List.length_drop, List.length_take]; rfl)) ?_; (with_reducible refine (silversideref07_Find.calls k (a0.extract 0 ((ji3) : Int).toNat) a1 t353 _ A7.out).mono ?_); rintro e w20 ⟨v354, rfl, ho0, hb⟩; refine ⟨_, rfl, ?_⟩; have n0_ := Aside0.mk (Kd.R_elder' (by (with_reducible repeat (first | apply Kd.R_alloc | apply Kd.R_drewN | apply Kd.R_drew)); exact (Kd.R_mono (Kd.R_far (p := ⟨gb352, 2, none⟩) (Kd.R_far (p := ⟨gb352, 1, none⟩) (Kd.R_far (p := ⟨gb352, 0, none⟩) (Kd.R_types HO347.out BK352.out (by decide)) (fun _ hk => hk.2) (.string t344)) (fun _ hk => hk.2) (.slice Ao18 t345.length co18)) (fun _ hk => hk.2) (.slice Ao19 t348.length co19)) (fun _ h_ => h_.1))) (Kd.R_base ho0) hb); have n1_ := Aside0.mk (Kd.R_elder' (by (with_reducible repeat (first | apply Kd.R_alloc | apply Kd.R_drewN | apply Kd.R_drew)); exact (Kd.R_mono (Kd.R_far (p := ⟨gb352, 2, none⟩) (Kd.R_far (p := ⟨gb352, 1, none⟩) (Kd.R_far (p := ⟨gb352, 0, none⟩) (Kd.R_types HO350.out BK352.out (by decide)) (fun _ hk => hk.2) (.string t344)) (fun _ hk => hk.2) (.slice Ao18 t345.length co18)) (fun _ hk => hk.2) (.slice Ao19 t348.length co19)) (fun _ h_ => h_.1))) (Kd.R_base ho0) hb); have n2_ := Aside0.mk (Kd.R_lower (Kd.R_new' (Kd.R_new' ho0 (Kd.R_lt (by (with_reducible repeat (first | apply Kd.R_alloc | apply Kd.R_drewN | apply Kd.R_drew)); exact (Kd.R_mono (Kd.R_far (p := ⟨gb352, 2, none⟩) (Kd.R_far (p := ⟨gb352, 1, none⟩) (Kd.R_far (p := ⟨gb352, 0, none⟩) (Kd.R_types HO347.out BK352.out (by decide)) (fun _ hk => hk.2) (.string t344)) (fun _ hk => hk.2) (.slice Ao18 t345.length co18)) (fun _ hk => hk.2) (.slice Ao19 t348.length co19)) (fun _ h_ => h_.1))))) (Kd.R_lt (by (with_reducible repeat (first | apply Kd.R_alloc | apply Kd.R_drewN | apply Kd.R_drew)); exact (Kd.R_mono (Kd.R_far (p := ⟨gb352, 2, none⟩) (Kd.R_far (p := ⟨gb352, 1, none⟩) (Kd.R_far (p := ⟨gb352, 0, none⟩) (Kd.R_types HO350.out BK352.out (by decide)) (fun _ hk => hk.2) (.string t344)) (fun _ hk => hk.2) (.slice Ao18 t345.length co18)) (fun _ hk => hk.2) (.slice Ao19 t348.length co19)) (fun _ h_ => h_.1))))) (below_size (by repeat (first | (with_reducible first | exact HB.out | apply below_alloc | apply pw_below_drewN | apply below_drew1 | refine below_set ?_ GE352.out) | exact HB.out)))); have n3_ := Aside0.mk (blk_below (g := gb352) (o := .cells #[.string t344, .slice Ao18 t345.length co18, .slice Ao19 t348.length co19] 24 (0, 0)) (by (with_reducible repeat (first | refine blk_drewN ?_ _ | refine blk_drew ?_ | refine blk_alloc ?_ _)); refine blk_put (cs := #[.string t344, .slice Ao18 t345.length co18, .slice none 0 0]) ?_ 2 _ rfl; (with_reducible repeat (first | refine blk_drewN ?_ _ | refine blk_drew ?_ | refine blk_alloc ?_ _)); refine blk_put (cs := #[.string t344, .slice none 0 0, .slice none 0 0]) ?_ 1 _ rfl; (with_reducible repeat (first | refine blk_drewN ?_ _ | refine blk_drew ?_ | refine blk_alloc ?_ _)); refine blk_put (cs := #[.string (⟨#[]⟩ : ByteArray), .slice none 0 0, .slice none 0 0]) ?_ 0 _ rfl; (with_reducible repeat (first | refine blk_drewN ?_ _ | refine blk_drew ?_ | refine blk_alloc ?_ _)); exact BK352.out) hb); have n4_ := Aside0.mk (below_step (by repeat (first | (with_reducible first | exact HB.out | apply below_alloc | apply pw_below_drewN | apply below_drew1 | refine below_set ?_ GE352.out) | exact HB.out)) hb); clear HO347; clear HO350; clear BK352; clear HB; have HO347 := n0_; have HO350 := n1_; have HO355 := n2_; have BK352 := n3_; have HB := n4_; clear n0_ n1_ n2_ n3_ n4_; (try clear hb); (try clear hb2); (try clear hk); (try clear hi); (try clear ho0); have hcz21_0 : w20.cell? ⟨gb352, 0, none⟩ = some (.string t344) := (blk_cell BK352.out 0).trans rfl; have hcz21_1 : w20.cell? ⟨gb352, 1, none⟩ = some (.slice Ao18 t345.length co18) := (blk_cell BK352.out 1).trans rfl; have hcz21_2 : w20.cell? ⟨gb352, 2, none⟩ = some (.slice Ao19 t348.length co19) := (blk_cell BK352.out 2).trans rfl; have hfz21_0 := blk_frozen BK352.out 0; have hfz21_1 := blk_frozen BK352.out 1; have hfz21_2 := blk_frozen BK352.out 2) | (go_at_call 38; (with_reducible refine (find_Index_Find.calls t344 _ _ t345 _ _ t348 a1 t356 _ ?side1 ?side2 ?side3 ?side4 A9.out).mono ?_); (case side1 => repeat (first | exact (Kd.R_reads' HO347.out).2.2 | (with_reducible refine Kd.C_alloc ?_ _) | (with_reducible refine Kd.C_drewN ?_ _) | (with_reducible refine Kd.C_drew ?_))); (case side2 => exact (Kd.R_reads' HO347.out).2.1); (case side3 => repeat (first | exact (Kd.R_reads' HO350.out).2.2 | (with_reducible refine Kd.C_alloc ?_ _) | (with_reducible refine Kd.C_drewN ?_ _) | (with_reducible refine Kd.C_drew ?_))); (case side4 => exact (Kd.R_reads' HO350.out).2.1); rintro e w22 ⟨v357, rfl, ho0, hb⟩; have n0_ := Aside0.mk (Kd.R_elder' (by (with_reducible repeat (first | apply Kd.R_alloc | apply Kd.R_drewN | apply Kd.R_drew)); exact HO347.out) (Kd.R_base ho0) hb); have n1_ := Aside0.mk (Kd.R_elder' (by (with_reducible repeat (first | apply Kd.R_alloc | apply Kd.R_drewN | apply Kd.R_drew)); exact HO350.out) (Kd.R_base ho0) hb); have n2_ := Aside0.mk (Kd.R_elder' (by (with_reducible repeat (first | apply Kd.R_alloc | apply Kd.R_drewN | apply Kd.R_drew)); exact HO355.out) (Kd.R_base ho0) hb); have n3_ := Aside0.mk (Kd.R_lower (Kd.R_new' (Kd.R_new' (Kd.R_new' ho0 (Kd.R_lt (by (with_reducible repeat (first | apply Kd.R_alloc | apply Kd.R_drewN | apply Kd.R_drew)); exact HO347.out))) (Kd.R_lt (by (with_reducible repeat (first | apply Kd.R_alloc | apply Kd.R_drewN | apply Kd.R_drew)); exact HO350.out))) (Kd.R_lt (by (with_reducible repeat (first | apply Kd.R_alloc | apply Kd.R_drewN | apply Kd.R_drew)); exact HO355.out))) (below_size (by repeat (first | (with_reducible first | exact HB.out | apply below_alloc | apply pw_below_drewN | apply below_drew1 | refine below_set ?_ GE352.out) | exact HB.out)))); have n4_ := Aside0.mk (blk_below (g := gb352) (o := .cells #[.string t344, .slice Ao18 t345.length co18, .slice Ao19 t348.length co19] 24 (0, 0)) (by (with_reducible repeat (first | refine blk_drewN ?_ _ | refine blk_drew ?_ | refine blk_alloc ?_ _)); exact BK352.out) hb); have n5_ := Aside0.mk (below_step (by repeat (first | (with_reducible first | exact HB.out | apply below_alloc | apply pw_below_drewN | apply below_drew1 | refine below_set ?_ GE352.out) | exact HB.out)) hb); clear HO347; clear HO350; clear HO355; clear BK352; clear HB; have HO347 := n0_; have HO350 := n1_; have HO355 := n2_; have HO358 := n3_; have BK352 := n4_; have HB := n5_; clear n0_ n1_ n2_ n3_ n4_ n5_; (try clear hb); (try clear hb2); (try clear hk); (try clear hi); (try clear ho0); obtain ⟨Ao23, co23, eo23⟩ := Kd.R_slice HO358.out; subst eo23; obtain ⟨Ao24, co24, eo24⟩ := Kd.R_slice HO355.out; subst eo24) | (go_at_call 33; (with_reducible refine (silversidelaw07_ints.calls k _ _ t356 _ _ t353 true _ ?side1 ?side2 ?side3 ?side4 A10.out).mono ?_); (case side1 => repeat (first | exact (Kd.R_reads' HO358.out).2.2 | (with_reducible refine Kd.C_alloc ?_ _) | (with_reducible refine Kd.C_drewN ?_ _) | (with_reducible refine Kd.C_drew ?_))); (case side2 => exact (Kd.R_reads' HO358.out).2.1); (case side3 => repeat (first | exact (Kd.R_reads' HO355.out).2.2 | (with_reducible refine Kd.C_alloc ?_ _) | (with_reducible refine Kd.C_drewN ?_ _) | (with_reducible refine Kd.C_drew ?_))); (case side4 => exact (Kd.R_reads' HO355.out).2.1); rintro e w' ⟨rfl, ⟨nd, rfl⟩⟩; have hcz25_0 : w22.cell? ⟨gb352, 0, none⟩ = some (.string t344) := (blk_cell BK352.out 0).trans rfl; have hcz25_1 : w22.cell? ⟨gb352, 1, none⟩ = some (.slice Ao18 t345.length co18) := (blk_cell BK352.out 1).trans rfl; have hcz25_2 : w22.cell? ⟨gb352, 2, none⟩ = some (.slice Ao19 t348.length co19) := (blk_cell BK352.out 2).trans rfl; have hfz25_0 := blk_frozen BK352.out 0; have hfz25_1 := blk_frozen BK352.out 1; have hfz25_2 := blk_frozen BK352.out 2) | (go_at_call 29; (with_reducible refine (find_Index_Count.calls t344 _ _ t345 _ _ t348 a1 t360 _ ?side1 ?side2 ?side3 ?side4 A12.out).mono ?_); (case side1 => repeat (first | exact (Kd.R_reads' HO347.out).2.2 | (with_reducible refine Kd.C_alloc ?_ _) | (with_reducible refine Kd.C_drewN ?_ _) | (with_reducible refine Kd.C_drew ?_))); (case side2 => exact (Kd.R_reads' HO347.out).2.1); (case side3 => repeat (first | exact (Kd.R_reads' HO350.out).2.2 | (with_reducible refine Kd.C_alloc ?_ _) | (with_reducible refine Kd.C_drewN ?_ _) | (with_reducible refine Kd.C_drew ?_))); (case side4 => exact (Kd.R_reads' HO350.out).2.1); rintro e w26 ⟨rfl, hb⟩; have n0_ := Aside0.mk (Kd.R_below (by (with_reducible repeat (first | apply Kd.R_alloc | apply Kd.R_drewN | apply Kd.R_drew)); exact HO347.out) hb); have n1_ := Aside0.mk (Kd.R_below (by (with_reducible repeat (first | apply Kd.R_alloc | apply Kd.R_drewN | apply Kd.R_drew)); exact HO350.out) hb); have n2_ := Aside0.mk (Kd.R_below (by (with_reducible repeat (first | apply Kd.R_alloc | apply Kd.R_drewN | apply Kd.R_drew)); exact HO355.out) hb); have n3_ := Aside0.mk (Kd.R_below (by (with_reducible repeat (first | apply Kd.R_alloc | apply Kd.R_drewN | apply Kd.R_drew)); exact HO358.out) hb); have n4_ := Aside0.mk (blk_below (g := gb352) (o := .cells #[.string t344, .slice Ao18 t345.length co18, .slice Ao19 t348.length co19] 24 (0, 0)) (by (with_reducible repeat (first | refine blk_drewN ?_ _ | refine blk_drew ?_ | refine blk_alloc ?_ _)); exact BK352.out) hb); have n5_ := Aside0.mk (below_step (by repeat (first | (with_reducible first | exact HB.out | apply below_alloc | apply pw_below_drewN | apply below_drew1 | refine below_set ?_ GE352.out) | exact HB.out)) hb); clear HO347; clear HO350; clear HO355; clear HO358; clear BK352; clear HB; have HO347 := n0_; have HO350 := n1_; have HO355 := n2_; have HO358 := n3_; have BK352 := n4_; have HB := n5_; clear n0_ n1_ n2_ n3_ n4_ n5_; (try clear hb); (try clear hb2); (try clear hk); (try clear hi)) | (go_at_call 21; (with_reducible refine (silversidelaw07_awake.calls k  t361 _ A14.out).mono ?_); rintro e w27 ⟨rfl, hb⟩; have n0_ := Aside0.mk (Kd.R_below (by (with_reducible repeat (first | apply Kd.R_alloc | apply Kd.R_drewN | apply Kd.R_drew)); exact HO347.out) hb); have n1_ := Aside0.mk (Kd.R_below (by (with_reducible repeat (first | apply Kd.R_alloc | apply Kd.R_drewN | apply Kd.R_drew)); exact HO350.out) hb); have n2_ := Aside0.mk (Kd.R_below (by (with_reducible repeat (first | apply Kd.R_alloc | apply Kd.R_drewN | apply Kd.R_drew)); exact HO355.out) hb); have n3_ := Aside0.mk (Kd.R_below (by (with_reducible repeat (first | apply Kd.R_alloc | apply Kd.R_drewN | apply Kd.R_drew)); exact HO358.out) hb); have n4_ := Aside0.mk (blk_below (g := gb352) (o := .cells #[.string t344, .slice Ao18 t345.length co18, .slice Ao19 t348.length co19] 24 (0, 0)) (by (with_reducible repeat (first | refine blk_drewN ?_ _ | refine blk_drew ?_ | refine blk_alloc ?_ _)); exact BK352.out) hb); have n5_ := Aside0.mk (below_step (by repeat (first | (with_reducible first | exact HB.out | apply below_alloc | apply pw_below_drewN | apply below_drew1 | refine below_set ?_ GE352.out) | exact HB.out)) hb); clear HO347; clear HO350; clear HO355; clear HO358; clear BK352; clear HB; have HO347 := n0_; have HO350 := n1_; have HO355 := n2_; have HO358 := n3_; have BK352 := n4_; have HB := n5_; clear n0_ n1_ n2_ n3_ n4_ n5_; (try clear hb); (try clear hb2); (try clear hk); (try clear hi)))
      go_ret
      exact ⟨by first | rfl | (simp [errW_none, errW_some] <;> rfl) | (simp only [← hji3]; first | rfl | (simp [errW_none, errW_some] <;> rfl)) | (simp [*, errW_none, errW_some] <;> rfl), by repeat (first | (with_reducible first | exact HB.out | apply below_alloc | apply pw_below_drewN | apply below_drew1 | refine below_set ?_ GE352.out) | exact HB.out)⟩
     ·rw [if_neg c13] at H
      have c13b0 : (t360 == (t353.length : Int)) = false := beq_eq_false_iff_ne.mpr c13
      have c13b1 : (t360 != (t353.length : Int)) = true := bne_iff_ne.mpr c13
      obtain rfl := Option.some.inj H
      go_enter Try.func11, Try.ntmps11
      go_wp2_with (first | ((with_reducible refine gate_callee (f := 16) rfl ?_); refine goesL_ (some 15) rfl rfl Try.func16 (by kernel_rfl) rfl #[.string (a0.extract 0 ((ji3) : Int).toNat)] rfl (by (try simp only [List.map_toArray, List.map_cons, List.map_nil]); first | done | (simp only [hji3]; rfl) | rfl | (simp only [List.length_drop, List.length_take]; rfl)) ?_; (with_reducible refine (find_New.calls k (a0.extract 0 ((ji3) : Int).toNat) t344 t345 t348 t351 _ A6.out).mono ?_); rintro e w28 ⟨v346, v349, rfl, ho0, ho1, hb⟩; refine ⟨_, rfl, ?_⟩; have n0_ := Aside0.mk (Kd.R_lower ho0 (below_size (by repeat (first | (with_reducible first | exact HB.out | apply below_alloc | apply pw_below_drewN | apply below_drew1) | exact HB.out)))); have n1_ := Aside0.mk (Kd.R_lower ho1 (below_size (by repeat (first | (with_reducible first | exact HB.out | apply below_alloc | apply pw_below_drewN | apply below_drew1) | exact HB.out)))); have n2_ := Aside0.mk (below_step (by repeat (first | (with_reducible first | exact HB.out | apply below_alloc | apply pw_below_drewN | apply below_drew1) | exact HB.out)) hb); clear HB; have HO347 := n0_; have HO350 := n1_; have HB := n2_; clear n0_ n1_ n2_; (try clear hb); (try clear hb2); (try clear hk); (try clear hi); (try clear ho0); (try clear ho1)) | ((with_reducible refine gate_dst (N := 5) rfl ?_); (try (refine gate_guard (by rfl) ?_; dsimp only)); refine box_event ?hg (N := 5) ?hd (cs := #[.string (⟨#[]⟩ : ByteArray), .slice none 0 0, .slice none 0 0]) (t := 24) ?hr ?_; (case hd => rfl); (case hg => rfl); (case hr => first | (go_simp; done) | (go_simp; rfl)); intro gb352 hg w29 hbox hb; have n0_ := Aside0.mk (Kd.R_below (by (with_reducible repeat (first | apply Kd.R_alloc | apply Kd.R_drewN | apply Kd.R_drew)); exact HO347.out) hb); have n1_ := Aside0.mk (Kd.R_below (by (with_reducible repeat (first | apply Kd.R_alloc | apply Kd.R_drewN | apply Kd.R_drew)); exact HO350.out) hb); have n2_ := Aside0.mk (below_step (by repeat (first | (with_reducible first | exact HB.out | apply below_alloc | apply pw_below_drewN | apply below_drew1) | exact HB.out)) hb); have n3_ := Aside0.mk (hbox); have n4_ := Aside0.mk ((by rw [hg]; exact (below_size (by repeat (first | (with_reducible first | exact HB.out | apply below_alloc | apply pw_below_drewN | apply below_drew1) | exact HB.out))) : w.heap.size ≤ gb352)); have n5_ := Aside0.mk ((by rw [hg]; exact (below_size (by repeat (first | (with_reducible first | exact HB.out | apply below_alloc | apply pw_below_drewN | apply below_drew1) | exact HB.out))) : w.heap.size ≤ gb352)); clear HO347; clear HO350; clear HB; have HO347 := n0_; have HO350 := n1_; have HB := n2_; have BK352 := n3_; have GW352 := n4_; have GE352 := n5_; clear n0_ n1_ n2_ n3_ n4_ n5_; clear hb hbox hg; have hcz30_0 : w29.cell? ⟨gb352, 0, none⟩ = some (.string (⟨#[]⟩ : ByteArray)) := (blk_cell BK352.out 0).trans rfl; have hcz30_1 : w29.cell? ⟨gb352, 1, none⟩ = some (.slice none 0 0) := (blk_cell BK352.out 1).trans rfl; have hcz30_2 : w29.cell? ⟨gb352, 2, none⟩ = some (.slice none 0 0) := (blk_cell BK352.out 2).trans rfl; have hfz30_0 := blk_frozen BK352.out 0; have hfz30_1 := blk_frozen BK352.out 1; have hfz30_2 := blk_frozen BK352.out 2; obtain ⟨Ao31, co31, eo31⟩ := Kd.R_slice HO347.out; subst eo31; obtain ⟨Ao32, co32, eo32⟩ := Kd.R_slice HO350.out; subst eo32) | ((with_reducible refine gate_callee (f := 37) rfl ?_); refine goesL_ (some 20) rfl rfl Try.func37 (by kernel_rfl) rfl #[.string (a0.extract 0 ((ji3) : Int).toNat), .string a1] rfl (by (try simp only [List.map_toArray, List.map_cons, List.map_nil]); first | done | (simp only [hji3]; rfl) | rfl | (simp only [List.length_drop, List.length_take]; rfl)) ?_; (with_reducible refine (silversideref07_Find.calls k (a0.extract 0 ((ji3) : Int).toNat) a1 t353 _ A7.out).mono ?_); rintro e w33 ⟨v354, rfl, ho0, hb⟩; refine ⟨_, rfl, ?_⟩; have n0_ := Aside0.mk (Kd.R_elder' (by (with_reducible repeat (first | apply Kd.R_alloc | apply Kd.R_drewN | apply Kd.R_drew)); exact (Kd.R_mono (Kd.R_far (p := ⟨gb352, 2, none⟩) (Kd.R_far (p := ⟨gb352, 1, none⟩) (Kd.R_far (p := ⟨gb352, 0, none⟩) (Kd.R_types HO347.out BK352.out (by decide)) (fun _ hk => hk.2) (.string t344)) (fun _ hk => hk.2) (.slice Ao31 t345.length co31)) (fun _ hk => hk.2) (.slice Ao32 t348.length co32)) (fun _ h_ => h_.1))) (Kd.R_base ho0) hb); have n1_ := Aside0.mk (Kd.R_elder' (by (with_reducible repeat (first | apply Kd.R_alloc | apply Kd.R_drewN | apply Kd.R_drew)); exact (Kd.R_mono (Kd.R_far (p := ⟨gb352, 2, none⟩) (Kd.R_far (p := ⟨gb352, 1, none⟩) (Kd.R_far (p := ⟨gb352, 0, none⟩) (Kd.R_types HO350.out BK352.out (by decide)) (fun _ hk => hk.2) (.string t344)) (fun _ hk => hk.2) (.slice Ao31 t345.length co31)) (fun _ hk => hk.2) (.slice Ao32 t348.length co32)) (fun _ h_ => h_.1))) (Kd.R_base ho0) hb); have n2_ := Aside0.mk (Kd.R_lower (Kd.R_new' (Kd.R_new' ho0 (Kd.R_lt (by (with_reducible repeat (first | apply Kd.R_alloc | apply Kd.R_drewN | apply Kd.R_drew)); exact (Kd.R_mono (Kd.R_far (p := ⟨gb352, 2, none⟩) (Kd.R_far (p := ⟨gb352, 1, none⟩) (Kd.R_far (p := ⟨gb352, 0, none⟩) (Kd.R_types HO347.out BK352.out (by decide)) (fun _ hk => hk.2) (.string t344)) (fun _ hk => hk.2) (.slice Ao31 t345.length co31)) (fun _ hk => hk.2) (.slice Ao32 t348.length co32)) (fun _ h_ => h_.1))))) (Kd.R_lt (by (with_reducible repeat (first | apply Kd.R_alloc | apply Kd.R_drewN | apply Kd.R_drew)); exact (Kd.R_mono (Kd.R_far (p := ⟨gb352, 2, none⟩) (Kd.R_far (p := ⟨gb352, 1, none⟩) (Kd.R_far (p := ⟨gb352, 0, none⟩) (Kd.R_types HO350.out BK352.out (by decide)) (fun _ hk => hk.2) (.string t344)) (fun _ hk => hk.2) (.slice Ao31 t345.length co31)) (fun _ hk => hk.2) (.slice Ao32 t348.length co32)) (fun _ h_ => h_.1))))) (below_size (by repeat (first | (with_reducible first | exact HB.out | apply below_alloc | apply pw_below_drewN | apply below_drew1 | refine below_set ?_ GE352.out) | exact HB.out)))); have n3_ := Aside0.mk (blk_below (g := gb352) (o := .cells #[.string t344, .slice Ao31 t345.length co31, .slice Ao32 t348.length co32] 24 (0, 0)) (by (with_reducible repeat (first | refine blk_drewN ?_ _ | refine blk_drew ?_ | refine blk_alloc ?_ _)); refine blk_put (cs := #[.string t344, .slice Ao31 t345.length co31, .slice none 0 0]) ?_ 2 _ rfl; (with_reducible repeat (first | refine blk_drewN ?_ _ | refine blk_drew ?_ | refine blk_alloc ?_ _)); refine blk_put (cs := #[.string t344, .slice none 0 0, .slice none 0 0]) ?_ 1 _ rfl; (with_reducible repeat (first | refine blk_drewN ?_ _ | refine blk_drew ?_ | refine blk_alloc ?_ _)); refine blk_put (cs := #[.string (⟨#[]⟩ : ByteArray), .slice none 0 0, .slice none 0 0]) ?_ 0 _ rfl; (with_reducible repeat (first | refine blk_drewN ?_ _ | refine blk_drew ?_ | refine blk_alloc ?_ _)); exact BK352.out) hb); have n4_ := Aside0.mk (below_step (by repeat (first | (with_reducible first | exact HB.out | apply below_alloc | apply pw_below_drewN | apply below_drew1 | refine below_set ?_ GE352.out) | exact HB.out)) hb); clear HO347; clear HO350; clear BK352; clear HB; have HO347 := n0_; have HO350 := n1_; have HO355 := n2_; have BK352 := n3_; have HB := n4_; clear n0_ n1_ n2_ n3_ n4_; (try clear hb); (try clear hb2); (try clear hk); (try clear hi); (try clear ho0); have hcz34_0 : w33.cell? ⟨gb352, 0, none⟩ = some (.string t344) := (blk_cell BK352.out 0).trans rfl; have hcz34_1 : w33.cell? ⟨gb352, 1, none⟩ = some (.slice Ao31 t345.length co31) := (blk_cell BK352.out 1).trans rfl; have hcz34_2 : w33.cell? ⟨gb352, 2, none⟩ = some (.slice Ao32 t348.length co32) := (blk_cell BK352.out 2).trans rfl; have hfz34_0 := blk_frozen BK352.out 0; have hfz34_1 := blk_frozen BK352.out 1; have hfz34_2 := blk_frozen BK352.out 2) | (go_at_call 38; (with_reducible refine (find_Index_Find.calls t344 _ _ t345 _ _ t348 a1 t356 _ ?side1 ?side2 ?side3 ?side4 A9.out).mono ?_); (case side1 => repeat (first | exact (Kd.R_reads' HO347.out).2.2 | (with_reducible refine Kd.C_alloc ?_ _) | (with_reducible refine Kd.C_drewN ?_ _) | (with_reducible refine Kd.C_drew ?_))); (case side2 => exact (Kd.R_reads' HO347.out).2.1); (case side3 => repeat (first | exact (Kd.R_reads' HO350.out).2.2 | (with_reducible refine Kd.C_alloc ?_ _) | (with_reducible refine Kd.C_drewN ?_ _) | (with_reducible refine Kd.C_drew ?_))); (case side4 => exact (Kd.R_reads' HO350.out).2.1); rintro e w35 ⟨v357, rfl, ho0, hb⟩; have n0_ := Aside0.mk (Kd.R_elder' (by (with_reducible repeat (first | apply Kd.R_alloc | apply Kd.R_drewN | apply Kd.R_drew)); exact HO347.out) (Kd.R_base ho0) hb); have n1_ := Aside0.mk (Kd.R_elder' (by (with_reducible repeat (first | apply Kd.R_alloc | apply Kd.R_drewN | apply Kd.R_drew)); exact HO350.out) (Kd.R_base ho0) hb); have n2_ := Aside0.mk (Kd.R_elder' (by (with_reducible repeat (first | apply Kd.R_alloc | apply Kd.R_drewN | apply Kd.R_drew)); exact HO355.out) (Kd.R_base ho0) hb); have n3_ := Aside0.mk (Kd.R_lower (Kd.R_new' (Kd.R_new' (Kd.R_new' ho0 (Kd.R_lt (by (with_reducible repeat (first | apply Kd.R_alloc | apply Kd.R_drewN | apply Kd.R_drew)); exact HO347.out))) (Kd.R_lt (by (with_reducible repeat (first | apply Kd.R_alloc | apply Kd.R_drewN | apply Kd.R_drew)); exact HO350.out))) (Kd.R_lt (by (with_reducible repeat (first | apply Kd.R_alloc | apply Kd.R_drewN | apply Kd.R_drew)); exact HO355.out))) (below_size (by repeat (first | (with_reducible first | exact HB.out | apply below_alloc | apply pw_below_drewN | apply below_drew1 | refine below_set ?_ GE352.out) | exact HB.out)))); have n4_ := Aside0.mk (blk_below (g := gb352) (o := .cells #[.string t344, .slice Ao31 t345.length co31, .slice Ao32 t348.length co32] 24 (0, 0)) (by (with_reducible repeat (first | refine blk_drewN ?_ _ | refine blk_drew ?_ | refine blk_alloc ?_ _)); exact BK352.out) hb); have n5_ := Aside0.mk (below_step (by repeat (first | (with_reducible first | exact HB.out | apply below_alloc | apply pw_below_drewN | apply below_drew1 | refine below_set ?_ GE352.out) | exact HB.out)) hb); clear HO347; clear HO350; clear HO355; clear BK352; clear HB; have HO347 := n0_; have HO350 := n1_; have HO355 := n2_; have HO358 := n3_; have BK352 := n4_; have HB := n5_; clear n0_ n1_ n2_ n3_ n4_ n5_; (try clear hb); (try clear hb2); (try clear hk); (try clear hi); (try clear ho0); obtain ⟨Ao36, co36, eo36⟩ := Kd.R_slice HO358.out; subst eo36; obtain ⟨Ao37, co37, eo37⟩ := Kd.R_slice HO355.out; subst eo37) | (go_at_call 33; (with_reducible refine (silversidelaw07_ints.calls k _ _ t356 _ _ t353 true _ ?side1 ?side2 ?side3 ?side4 A10.out).mono ?_); (case side1 => repeat (first | exact (Kd.R_reads' HO358.out).2.2 | (with_reducible refine Kd.C_alloc ?_ _) | (with_reducible refine Kd.C_drewN ?_ _) | (with_reducible refine Kd.C_drew ?_))); (case side2 => exact (Kd.R_reads' HO358.out).2.1); (case side3 => repeat (first | exact (Kd.R_reads' HO355.out).2.2 | (with_reducible refine Kd.C_alloc ?_ _) | (with_reducible refine Kd.C_drewN ?_ _) | (with_reducible refine Kd.C_drew ?_))); (case side4 => exact (Kd.R_reads' HO355.out).2.1); rintro e w' ⟨rfl, ⟨nd, rfl⟩⟩; have hcz38_0 : w35.cell? ⟨gb352, 0, none⟩ = some (.string t344) := (blk_cell BK352.out 0).trans rfl; have hcz38_1 : w35.cell? ⟨gb352, 1, none⟩ = some (.slice Ao31 t345.length co31) := (blk_cell BK352.out 1).trans rfl; have hcz38_2 : w35.cell? ⟨gb352, 2, none⟩ = some (.slice Ao32 t348.length co32) := (blk_cell BK352.out 2).trans rfl; have hfz38_0 := blk_frozen BK352.out 0; have hfz38_1 := blk_frozen BK352.out 1; have hfz38_2 := blk_frozen BK352.out 2) | (go_at_call 29; (with_reducible refine (find_Index_Count.calls t344 _ _ t345 _ _ t348 a1 t360 _ ?side1 ?side2 ?side3 ?side4 A12.out).mono ?_); (case side1 => repeat (first | exact (Kd.R_reads' HO347.out).2.2 | (with_reducible refine Kd.C_alloc ?_ _) | (with_reducible refine Kd.C_drewN ?_ _) | (with_reducible refine Kd.C_drew ?_))); (case side2 => exact (Kd.R_reads' HO347.out).2.1); (case side3 => repeat (first | exact (Kd.R_reads' HO350.out).2.2 | (with_reducible refine Kd.C_alloc ?_ _) | (with_reducible refine Kd.C_drewN ?_ _) | (with_reducible refine Kd.C_drew ?_))); (case side4 => exact (Kd.R_reads' HO350.out).2.1); rintro e w39 ⟨rfl, hb⟩; have n0_ := Aside0.mk (Kd.R_below (by (with_reducible repeat (first | apply Kd.R_alloc | apply Kd.R_drewN | apply Kd.R_drew)); exact HO347.out) hb); have n1_ := Aside0.mk (Kd.R_below (by (with_reducible repeat (first | apply Kd.R_alloc | apply Kd.R_drewN | apply Kd.R_drew)); exact HO350.out) hb); have n2_ := Aside0.mk (Kd.R_below (by (with_reducible repeat (first | apply Kd.R_alloc | apply Kd.R_drewN | apply Kd.R_drew)); exact HO355.out) hb); have n3_ := Aside0.mk (Kd.R_below (by (with_reducible repeat (first | apply Kd.R_alloc | apply Kd.R_drewN | apply Kd.R_drew)); exact HO358.out) hb); have n4_ := Aside0.mk (blk_below (g := gb352) (o := .cells #[.string t344, .slice Ao31 t345.length co31, .slice Ao32 t348.length co32] 24 (0, 0)) (by (with_reducible repeat (first | refine blk_drewN ?_ _ | refine blk_drew ?_ | refine blk_alloc ?_ _)); exact BK352.out) hb); have n5_ := Aside0.mk (below_step (by repeat (first | (with_reducible first | exact HB.out | apply below_alloc | apply pw_below_drewN | apply below_drew1 | refine below_set ?_ GE352.out) | exact HB.out)) hb); clear HO347; clear HO350; clear HO355; clear HO358; clear BK352; clear HB; have HO347 := n0_; have HO350 := n1_; have HO355 := n2_; have HO358 := n3_; have BK352 := n4_; have HB := n5_; clear n0_ n1_ n2_ n3_ n4_ n5_; (try clear hb); (try clear hb2); (try clear hk); (try clear hi)))
      go_ret
      exact ⟨by first | rfl | (simp [errW_none, errW_some] <;> rfl) | (simp only [← hji3]; first | rfl | (simp [errW_none, errW_some] <;> rfl)) | (simp [*, errW_none, errW_some] <;> rfl), by repeat (first | (with_reducible first | exact HB.out | apply below_alloc | apply pw_below_drewN | apply below_drew1 | refine below_set ?_ GE352.out) | exact HB.out)⟩
    ·replace c11 := Bool.eq_false_iff.mpr c11
     subst c11
     have H1 : (some false) = some r := by rw [if_neg (show ¬ (false = true) by decide)] at H; exact H
     clear H
     have H := H1
     clear H1
     obtain rfl := Option.some.inj H
     go_enter Try.func11, Try.ntmps11
     go_wp2_with (first | ((with_reducible refine gate_callee (f := 16) rfl ?_); refine goesL_ (some 15) rfl rfl Try.func16 (by kernel_rfl) rfl #[.string (a0.extract 0 ((ji3) : Int).toNat)] rfl (by (try simp only [List.map_toArray, List.map_cons, List.map_nil]); first | done | (simp only [hji3]; rfl) | rfl | (simp only [List.length_drop, List.length_take]; rfl)) ?_; (with_reducible refine (find_New.calls k (a0.extract 0 ((ji3) : Int).toNat) t344 t345 t348 t351 _ A6.out).mono ?_); rintro e w40 ⟨v346, v349, rfl, ho0, ho1, hb⟩; refine ⟨_, rfl, ?_⟩; have n0_ := Aside0.mk (Kd.R_lower ho0 (below_size (by repeat (first | (with_reducible first | exact HB.out | apply below_alloc | apply pw_below_drewN | apply below_drew1) | exact HB.out)))); have n1_ := Aside0.mk (Kd.R_lower ho1 (below_size (by repeat (first | (with_reducible first | exact HB.out | apply below_alloc | apply pw_below_drewN | apply below_drew1) | exact HB.out)))); have n2_ := Aside0.mk (below_step (by repeat (first | (with_reducible first | exact HB.out | apply below_alloc | apply pw_below_drewN | apply below_drew1) | exact HB.out)) hb); clear HB; have HO347 := n0_; have HO350 := n1_; have HB := n2_; clear n0_ n1_ n2_; (try clear hb); (try clear hb2); (try clear hk); (try clear hi); (try clear ho0); (try clear ho1)) | ((with_reducible refine gate_dst (N := 5) rfl ?_); (try (refine gate_guard (by rfl) ?_; dsimp only)); refine box_event ?hg (N := 5) ?hd (cs := #[.string (⟨#[]⟩ : ByteArray), .slice none 0 0, .slice none 0 0]) (t := 24) ?hr ?_; (case hd => rfl); (case hg => rfl); (case hr => first | (go_simp; done) | (go_simp; rfl)); intro gb352 hg w41 hbox hb; have n0_ := Aside0.mk (Kd.R_below (by (with_reducible repeat (first | apply Kd.R_alloc | apply Kd.R_drewN | apply Kd.R_drew)); exact HO347.out) hb); have n1_ := Aside0.mk (Kd.R_below (by (with_reducible repeat (first | apply Kd.R_alloc | apply Kd.R_drewN | apply Kd.R_drew)); exact HO350.out) hb); have n2_ := Aside0.mk (below_step (by repeat (first | (with_reducible first | exact HB.out | apply below_alloc | apply pw_below_drewN | apply below_drew1) | exact HB.out)) hb); have n3_ := Aside0.mk (hbox); have n4_ := Aside0.mk ((by rw [hg]; exact (below_size (by repeat (first | (with_reducible first | exact HB.out | apply below_alloc | apply pw_below_drewN | apply below_drew1) | exact HB.out))) : w.heap.size ≤ gb352)); have n5_ := Aside0.mk ((by rw [hg]; exact (below_size (by repeat (first | (with_reducible first | exact HB.out | apply below_alloc | apply pw_below_drewN | apply below_drew1) | exact HB.out))) : w.heap.size ≤ gb352)); clear HO347; clear HO350; clear HB; have HO347 := n0_; have HO350 := n1_; have HB := n2_; have BK352 := n3_; have GW352 := n4_; have GE352 := n5_; clear n0_ n1_ n2_ n3_ n4_ n5_; clear hb hbox hg; have hcz42_0 : w41.cell? ⟨gb352, 0, none⟩ = some (.string (⟨#[]⟩ : ByteArray)) := (blk_cell BK352.out 0).trans rfl; have hcz42_1 : w41.cell? ⟨gb352, 1, none⟩ = some (.slice none 0 0) := (blk_cell BK352.out 1).trans rfl; have hcz42_2 : w41.cell? ⟨gb352, 2, none⟩ = some (.slice none 0 0) := (blk_cell BK352.out 2).trans rfl; have hfz42_0 := blk_frozen BK352.out 0; have hfz42_1 := blk_frozen BK352.out 1; have hfz42_2 := blk_frozen BK352.out 2; obtain ⟨Ao43, co43, eo43⟩ := Kd.R_slice HO347.out; subst eo43; obtain ⟨Ao44, co44, eo44⟩ := Kd.R_slice HO350.out; subst eo44) | ((with_reducible refine gate_callee (f := 37) rfl ?_); refine goesL_ (some 20) rfl rfl Try.func37 (by kernel_rfl) rfl #[.string (a0.extract 0 ((ji3) : Int).toNat), .string a1] rfl (by (try simp only [List.map_toArray, List.map_cons, List.map_nil]); first | done | (simp only [hji3]; rfl) | rfl | (simp only [List.length_drop, List.length_take]; rfl)) ?_; (with_reducible refine (silversideref07_Find.calls k (a0.extract 0 ((ji3) : Int).toNat) a1 t353 _ A7.out).mono ?_); rintro e w45 ⟨v354, rfl, ho0, hb⟩; refine ⟨_, rfl, ?_⟩; have n0_ := Aside0.mk (Kd.R_elder' (by (with_reducible repeat (first | apply Kd.R_alloc | apply Kd.R_drewN | apply Kd.R_drew)); exact (Kd.R_mono (Kd.R_far (p := ⟨gb352, 2, none⟩) (Kd.R_far (p := ⟨gb352, 1, none⟩) (Kd.R_far (p := ⟨gb352, 0, none⟩) (Kd.R_types HO347.out BK352.out (by decide)) (fun _ hk => hk.2) (.string t344)) (fun _ hk => hk.2) (.slice Ao43 t345.length co43)) (fun _ hk => hk.2) (.slice Ao44 t348.length co44)) (fun _ h_ => h_.1))) (Kd.R_base ho0) hb); have n1_ := Aside0.mk (Kd.R_elder' (by (with_reducible repeat (first | apply Kd.R_alloc | apply Kd.R_drewN | apply Kd.R_drew)); exact (Kd.R_mono (Kd.R_far (p := ⟨gb352, 2, none⟩) (Kd.R_far (p := ⟨gb352, 1, none⟩) (Kd.R_far (p := ⟨gb352, 0, none⟩) (Kd.R_types HO350.out BK352.out (by decide)) (fun _ hk => hk.2) (.string t344)) (fun _ hk => hk.2) (.slice Ao43 t345.length co43)) (fun _ hk => hk.2) (.slice Ao44 t348.length co44)) (fun _ h_ => h_.1))) (Kd.R_base ho0) hb); have n2_ := Aside0.mk (Kd.R_lower (Kd.R_new' (Kd.R_new' ho0 (Kd.R_lt (by (with_reducible repeat (first | apply Kd.R_alloc | apply Kd.R_drewN | apply Kd.R_drew)); exact (Kd.R_mono (Kd.R_far (p := ⟨gb352, 2, none⟩) (Kd.R_far (p := ⟨gb352, 1, none⟩) (Kd.R_far (p := ⟨gb352, 0, none⟩) (Kd.R_types HO347.out BK352.out (by decide)) (fun _ hk => hk.2) (.string t344)) (fun _ hk => hk.2) (.slice Ao43 t345.length co43)) (fun _ hk => hk.2) (.slice Ao44 t348.length co44)) (fun _ h_ => h_.1))))) (Kd.R_lt (by (with_reducible repeat (first | apply Kd.R_alloc | apply Kd.R_drewN | apply Kd.R_drew)); exact (Kd.R_mono (Kd.R_far (p := ⟨gb352, 2, none⟩) (Kd.R_far (p := ⟨gb352, 1, none⟩) (Kd.R_far (p := ⟨gb352, 0, none⟩) (Kd.R_types HO350.out BK352.out (by decide)) (fun _ hk => hk.2) (.string t344)) (fun _ hk => hk.2) (.slice Ao43 t345.length co43)) (fun _ hk => hk.2) (.slice Ao44 t348.length co44)) (fun _ h_ => h_.1))))) (below_size (by repeat (first | (with_reducible first | exact HB.out | apply below_alloc | apply pw_below_drewN | apply below_drew1 | refine below_set ?_ GE352.out) | exact HB.out)))); have n3_ := Aside0.mk (blk_below (g := gb352) (o := .cells #[.string t344, .slice Ao43 t345.length co43, .slice Ao44 t348.length co44] 24 (0, 0)) (by (with_reducible repeat (first | refine blk_drewN ?_ _ | refine blk_drew ?_ | refine blk_alloc ?_ _)); refine blk_put (cs := #[.string t344, .slice Ao43 t345.length co43, .slice none 0 0]) ?_ 2 _ rfl; (with_reducible repeat (first | refine blk_drewN ?_ _ | refine blk_drew ?_ | refine blk_alloc ?_ _)); refine blk_put (cs := #[.string t344, .slice none 0 0, .slice none 0 0]) ?_ 1 _ rfl; (with_reducible repeat (first | refine blk_drewN ?_ _ | refine blk_drew ?_ | refine blk_alloc ?_ _)); refine blk_put (cs := #[.string (⟨#[]⟩ : ByteArray), .slice none 0 0, .slice none 0 0]) ?_ 0 _ rfl; (with_reducible repeat (first | refine blk_drewN ?_ _ | refine blk_drew ?_ | refine blk_alloc ?_ _)); exact BK352.out) hb); have n4_ := Aside0.mk (below_step (by repeat (first | (with_reducible first | exact HB.out | apply below_alloc | apply pw_below_drewN | apply below_drew1 | refine below_set ?_ GE352.out) | exact HB.out)) hb); clear HO347; clear HO350; clear BK352; clear HB; have HO347 := n0_; have HO350 := n1_; have HO355 := n2_; have BK352 := n3_; have HB := n4_; clear n0_ n1_ n2_ n3_ n4_; (try clear hb); (try clear hb2); (try clear hk); (try clear hi); (try clear ho0); have hcz46_0 : w45.cell? ⟨gb352, 0, none⟩ = some (.string t344) := (blk_cell BK352.out 0).trans rfl; have hcz46_1 : w45.cell? ⟨gb352, 1, none⟩ = some (.slice Ao43 t345.length co43) := (blk_cell BK352.out 1).trans rfl; have hcz46_2 : w45.cell? ⟨gb352, 2, none⟩ = some (.slice Ao44 t348.length co44) := (blk_cell BK352.out 2).trans rfl; have hfz46_0 := blk_frozen BK352.out 0; have hfz46_1 := blk_frozen BK352.out 1; have hfz46_2 := blk_frozen BK352.out 2) | (go_at_call 38; (with_reducible refine (find_Index_Find.calls t344 _ _ t345 _ _ t348 a1 t356 _ ?side1 ?side2 ?side3 ?side4 A9.out).mono ?_); (case side1 => repeat (first | exact (Kd.R_reads' HO347.out).2.2 | (with_reducible refine Kd.C_alloc ?_ _) | (with_reducible refine Kd.C_drewN ?_ _) | (with_reducible refine Kd.C_drew ?_))); (case side2 => exact (Kd.R_reads' HO347.out).2.1); (case side3 => repeat (first | exact (Kd.R_reads' HO350.out).2.2 | (with_reducible refine Kd.C_alloc ?_ _) | (with_reducible refine Kd.C_drewN ?_ _) | (with_reducible refine Kd.C_drew ?_))); (case side4 => exact (Kd.R_reads' HO350.out).2.1); rintro e w47 ⟨v357, rfl, ho0, hb⟩; have n0_ := Aside0.mk (Kd.R_elder' (by (with_reducible repeat (first | apply Kd.R_alloc | apply Kd.R_drewN | apply Kd.R_drew)); exact HO347.out) (Kd.R_base ho0) hb); have n1_ := Aside0.mk (Kd.R_elder' (by (with_reducible repeat (first | apply Kd.R_alloc | apply Kd.R_drewN | apply Kd.R_drew)); exact HO350.out) (Kd.R_base ho0) hb); have n2_ := Aside0.mk (Kd.R_elder' (by (with_reducible repeat (first | apply Kd.R_alloc | apply Kd.R_drewN | apply Kd.R_drew)); exact HO355.out) (Kd.R_base ho0) hb); have n3_ := Aside0.mk (Kd.R_lower (Kd.R_new' (Kd.R_new' (Kd.R_new' ho0 (Kd.R_lt (by (with_reducible repeat (first | apply Kd.R_alloc | apply Kd.R_drewN | apply Kd.R_drew)); exact HO347.out))) (Kd.R_lt (by (with_reducible repeat (first | apply Kd.R_alloc | apply Kd.R_drewN | apply Kd.R_drew)); exact HO350.out))) (Kd.R_lt (by (with_reducible repeat (first | apply Kd.R_alloc | apply Kd.R_drewN | apply Kd.R_drew)); exact HO355.out))) (below_size (by repeat (first | (with_reducible first | exact HB.out | apply below_alloc | apply pw_below_drewN | apply below_drew1 | refine below_set ?_ GE352.out) | exact HB.out)))); have n4_ := Aside0.mk (blk_below (g := gb352) (o := .cells #[.string t344, .slice Ao43 t345.length co43, .slice Ao44 t348.length co44] 24 (0, 0)) (by (with_reducible repeat (first | refine blk_drewN ?_ _ | refine blk_drew ?_ | refine blk_alloc ?_ _)); exact BK352.out) hb); have n5_ := Aside0.mk (below_step (by repeat (first | (with_reducible first | exact HB.out | apply below_alloc | apply pw_below_drewN | apply below_drew1 | refine below_set ?_ GE352.out) | exact HB.out)) hb); clear HO347; clear HO350; clear HO355; clear BK352; clear HB; have HO347 := n0_; have HO350 := n1_; have HO355 := n2_; have HO358 := n3_; have BK352 := n4_; have HB := n5_; clear n0_ n1_ n2_ n3_ n4_ n5_; (try clear hb); (try clear hb2); (try clear hk); (try clear hi); (try clear ho0); obtain ⟨Ao48, co48, eo48⟩ := Kd.R_slice HO358.out; subst eo48; obtain ⟨Ao49, co49, eo49⟩ := Kd.R_slice HO355.out; subst eo49) | (go_at_call 33; (with_reducible refine (silversidelaw07_ints.calls k _ _ t356 _ _ t353 false _ ?side1 ?side2 ?side3 ?side4 A10.out).mono ?_); (case side1 => repeat (first | exact (Kd.R_reads' HO358.out).2.2 | (with_reducible refine Kd.C_alloc ?_ _) | (with_reducible refine Kd.C_drewN ?_ _) | (with_reducible refine Kd.C_drew ?_))); (case side2 => exact (Kd.R_reads' HO358.out).2.1); (case side3 => repeat (first | exact (Kd.R_reads' HO355.out).2.2 | (with_reducible refine Kd.C_alloc ?_ _) | (with_reducible refine Kd.C_drewN ?_ _) | (with_reducible refine Kd.C_drew ?_))); (case side4 => exact (Kd.R_reads' HO355.out).2.1); rintro e w' ⟨rfl, ⟨nd, rfl⟩⟩))
     go_ret
     exact ⟨by first | rfl | (simp [errW_none, errW_some] <;> rfl) | (simp only [← hji3]; first | rfl | (simp [errW_none, errW_some] <;> rfl)) | (simp [*, errW_none, errW_some] <;> rfl), by repeat (first | (with_reducible first | exact HB.out | apply below_alloc | apply pw_below_drewN | apply below_drew1 | refine below_set ?_ GE352.out) | exact HB.out)⟩
   ·rw [if_neg c8] at H
    have c8b0 : (t351 == 0) = false := beq_eq_false_iff_ne.mpr c8
    have c8b1 : (t351 != 0) = true := bne_iff_ne.mpr c8
    obtain rfl := Option.some.inj H
    go_enter Try.func11, Try.ntmps11
    go_wp2_with (first | ((with_reducible refine gate_callee (f := 16) rfl ?_); refine goesL_ (some 15) rfl rfl Try.func16 (by kernel_rfl) rfl #[.string (a0.extract 0 ((ji3) : Int).toNat)] rfl (by (try simp only [List.map_toArray, List.map_cons, List.map_nil]); first | done | (simp only [hji3]; rfl) | rfl | (simp only [List.length_drop, List.length_take]; rfl)) ?_; (with_reducible refine (find_New.calls k (a0.extract 0 ((ji3) : Int).toNat) t344 t345 t348 t351 _ A6.out).mono ?_); rintro e w50 ⟨v346, v349, rfl, ho0, ho1, hb⟩; refine ⟨_, rfl, ?_⟩; have n0_ := Aside0.mk (Kd.R_lower ho0 (below_size (by repeat (first | (with_reducible first | exact HB.out | apply below_alloc | apply pw_below_drewN | apply below_drew1) | exact HB.out)))); have n1_ := Aside0.mk (Kd.R_lower ho1 (below_size (by repeat (first | (with_reducible first | exact HB.out | apply below_alloc | apply pw_below_drewN | apply below_drew1) | exact HB.out)))); have n2_ := Aside0.mk (below_step (by repeat (first | (with_reducible first | exact HB.out | apply below_alloc | apply pw_below_drewN | apply below_drew1) | exact HB.out)) hb); clear HB; have HO347 := n0_; have HO350 := n1_; have HB := n2_; clear n0_ n1_ n2_; (try clear hb); (try clear hb2); (try clear hk); (try clear hi); (try clear ho0); (try clear ho1)) | ((with_reducible refine gate_dst (N := 5) rfl ?_); (try (refine gate_guard (by rfl) ?_; dsimp only)); refine box_event ?hg (N := 5) ?hd (cs := #[.string (⟨#[]⟩ : ByteArray), .slice none 0 0, .slice none 0 0]) (t := 24) ?hr ?_; (case hd => rfl); (case hg => rfl); (case hr => first | (go_simp; done) | (go_simp; rfl)); intro gb352 hg w51 hbox hb; have n0_ := Aside0.mk (Kd.R_below (by (with_reducible repeat (first | apply Kd.R_alloc | apply Kd.R_drewN | apply Kd.R_drew)); exact HO347.out) hb); have n1_ := Aside0.mk (Kd.R_below (by (with_reducible repeat (first | apply Kd.R_alloc | apply Kd.R_drewN | apply Kd.R_drew)); exact HO350.out) hb); have n2_ := Aside0.mk (below_step (by repeat (first | (with_reducible first | exact HB.out | apply below_alloc | apply pw_below_drewN | apply below_drew1) | exact HB.out)) hb); have n3_ := Aside0.mk (hbox); have n4_ := Aside0.mk ((by rw [hg]; exact (below_size (by repeat (first | (with_reducible first | exact HB.out | apply below_alloc | apply pw_below_drewN | apply below_drew1) | exact HB.out))) : w.heap.size ≤ gb352)); have n5_ := Aside0.mk ((by rw [hg]; exact (below_size (by repeat (first | (with_reducible first | exact HB.out | apply below_alloc | apply pw_below_drewN | apply below_drew1) | exact HB.out))) : w.heap.size ≤ gb352)); clear HO347; clear HO350; clear HB; have HO347 := n0_; have HO350 := n1_; have HB := n2_; have BK352 := n3_; have GW352 := n4_; have GE352 := n5_; clear n0_ n1_ n2_ n3_ n4_ n5_; clear hb hbox hg; have hcz52_0 : w51.cell? ⟨gb352, 0, none⟩ = some (.string (⟨#[]⟩ : ByteArray)) := (blk_cell BK352.out 0).trans rfl; have hcz52_1 : w51.cell? ⟨gb352, 1, none⟩ = some (.slice none 0 0) := (blk_cell BK352.out 1).trans rfl; have hcz52_2 : w51.cell? ⟨gb352, 2, none⟩ = some (.slice none 0 0) := (blk_cell BK352.out 2).trans rfl; have hfz52_0 := blk_frozen BK352.out 0; have hfz52_1 := blk_frozen BK352.out 1; have hfz52_2 := blk_frozen BK352.out 2; obtain ⟨Ao53, co53, eo53⟩ := Kd.R_slice HO347.out; subst eo53; obtain ⟨Ao54, co54, eo54⟩ := Kd.R_slice HO350.out; subst eo54) | ((with_reducible refine gate_callee (f := 37) rfl ?_); refine goesL_ (some 20) rfl rfl Try.func37 (by kernel_rfl) rfl #[.string (a0.extract 0 ((ji3) : Int).toNat), .string a1] rfl (by (try simp only [List.map_toArray, List.map_cons, List.map_nil]); first | done | (simp only [hji3]; rfl) | rfl | (simp only [List.length_drop, List.length_take]; rfl)) ?_; (with_reducible refine (silversideref07_Find.calls k (a0.extract 0 ((ji3) : Int).toNat) a1 t353 _ A7.out).mono ?_); rintro e w55 ⟨v354, rfl, ho0, hb⟩; refine ⟨_, rfl, ?_⟩; have n0_ := Aside0.mk (Kd.R_elder' (by (with_reducible repeat (first | apply Kd.R_alloc | apply Kd.R_drewN | apply Kd.R_drew)); exact (Kd.R_mono (Kd.R_far (p := ⟨gb352, 2, none⟩) (Kd.R_far (p := ⟨gb352, 1, none⟩) (Kd.R_far (p := ⟨gb352, 0, none⟩) (Kd.R_types HO347.out BK352.out (by decide)) (fun _ hk => hk.2) (.string t344)) (fun _ hk => hk.2) (.slice Ao53 t345.length co53)) (fun _ hk => hk.2) (.slice Ao54 t348.length co54)) (fun _ h_ => h_.1))) (Kd.R_base ho0) hb); have n1_ := Aside0.mk (Kd.R_elder' (by (with_reducible repeat (first | apply Kd.R_alloc | apply Kd.R_drewN | apply Kd.R_drew)); exact (Kd.R_mono (Kd.R_far (p := ⟨gb352, 2, none⟩) (Kd.R_far (p := ⟨gb352, 1, none⟩) (Kd.R_far (p := ⟨gb352, 0, none⟩) (Kd.R_types HO350.out BK352.out (by decide)) (fun _ hk => hk.2) (.string t344)) (fun _ hk => hk.2) (.slice Ao53 t345.length co53)) (fun _ hk => hk.2) (.slice Ao54 t348.length co54)) (fun _ h_ => h_.1))) (Kd.R_base ho0) hb); have n2_ := Aside0.mk (Kd.R_lower (Kd.R_new' (Kd.R_new' ho0 (Kd.R_lt (by (with_reducible repeat (first | apply Kd.R_alloc | apply Kd.R_drewN | apply Kd.R_drew)); exact (Kd.R_mono (Kd.R_far (p := ⟨gb352, 2, none⟩) (Kd.R_far (p := ⟨gb352, 1, none⟩) (Kd.R_far (p := ⟨gb352, 0, none⟩) (Kd.R_types HO347.out BK352.out (by decide)) (fun _ hk => hk.2) (.string t344)) (fun _ hk => hk.2) (.slice Ao53 t345.length co53)) (fun _ hk => hk.2) (.slice Ao54 t348.length co54)) (fun _ h_ => h_.1))))) (Kd.R_lt (by (with_reducible repeat (first | apply Kd.R_alloc | apply Kd.R_drewN | apply Kd.R_drew)); exact (Kd.R_mono (Kd.R_far (p := ⟨gb352, 2, none⟩) (Kd.R_far (p := ⟨gb352, 1, none⟩) (Kd.R_far (p := ⟨gb352, 0, none⟩) (Kd.R_types HO350.out BK352.out (by decide)) (fun _ hk => hk.2) (.string t344)) (fun _ hk => hk.2) (.slice Ao53 t345.length co53)) (fun _ hk => hk.2) (.slice Ao54 t348.length co54)) (fun _ h_ => h_.1))))) (below_size (by repeat (first | (with_reducible first | exact HB.out | apply below_alloc | apply pw_below_drewN | apply below_drew1 | refine below_set ?_ GE352.out) | exact HB.out)))); have n3_ := Aside0.mk (blk_below (g := gb352) (o := .cells #[.string t344, .slice Ao53 t345.length co53, .slice Ao54 t348.length co54] 24 (0, 0)) (by (with_reducible repeat (first | refine blk_drewN ?_ _ | refine blk_drew ?_ | refine blk_alloc ?_ _)); refine blk_put (cs := #[.string t344, .slice Ao53 t345.length co53, .slice none 0 0]) ?_ 2 _ rfl; (with_reducible repeat (first | refine blk_drewN ?_ _ | refine blk_drew ?_ | refine blk_alloc ?_ _)); refine blk_put (cs := #[.string t344, .slice none 0 0, .slice none 0 0]) ?_ 1 _ rfl; (with_reducible repeat (first | refine blk_drewN ?_ _ | refine blk_drew ?_ | refine blk_alloc ?_ _)); refine blk_put (cs := #[.string (⟨#[]⟩ : ByteArray), .slice none 0 0, .slice none 0 0]) ?_ 0 _ rfl; (with_reducible repeat (first | refine blk_drewN ?_ _ | refine blk_drew ?_ | refine blk_alloc ?_ _)); exact BK352.out) hb); have n4_ := Aside0.mk (below_step (by repeat (first | (with_reducible first | exact HB.out | apply below_alloc | apply pw_below_drewN | apply below_drew1 | refine below_set ?_ GE352.out) | exact HB.out)) hb); clear HO347; clear HO350; clear BK352; clear HB; have HO347 := n0_; have HO350 := n1_; have HO355 := n2_; have BK352 := n3_; have HB := n4_; clear n0_ n1_ n2_ n3_ n4_; (try clear hb); (try clear hb2); (try clear hk); (try clear hi); (try clear ho0)))
    go_ret
    exact ⟨by first | rfl | (simp [errW_none, errW_some] <;> rfl) | (simp only [← hji3]; first | rfl | (simp [errW_none, errW_some] <;> rfl)) | (simp [*, errW_none, errW_some] <;> rfl), by repeat (first | (with_reducible first | exact HB.out | apply below_alloc | apply pw_below_drewN | apply below_drew1 | refine below_set ?_ GE352.out) | exact HB.out)⟩
  ·rw [if_neg c5] at H
   exact absurd H (by simp)
 ·rw [if_neg c4] at H
  exact absurd H (by simp)

/-- THE ONE PURE STATEMENT of silversidelaw07_FindFinds: yours. -/
def silversidelaw07_FindFinds.Pure : Prop := ∀ (a0 : ByteArray) (a1 : ByteArray), a0.size ≤ 140737488351232 → a1.size ≤ 140737488351232 → ∃ k, silversidelaw07_FindFinds.f k a0 a1 = some true
theorem silversidelaw07_FindFinds.walk (P : silversidelaw07_FindFinds.Pure) (a0 : ByteArray) (a1 : ByteArray) (w : World) (w0 : a0.size ≤ 140737488351232) (w1 : a1.size ≤ 140737488351232) :
  Calls Try.prog 11 #[.string a0, .string a1] w fun e w' => e = .returned (.bool true) ∧ Below w.heap.size w w' := by
 obtain ⟨k, h⟩ := P a0 a1 w0 w1
 refine (silversidelaw07_FindFinds.calls k a0 a1 true w h).mono ?_
 rintro e w' ⟨rfl, hd⟩
 exact ⟨rfl, hd⟩

end Go.Proofs.Ytppelnlocfcgfaa.P
namespace Go.Proofs.Ytppelnlocfcgfaa.P
open Go.RowKit Go.Proofs.YtppelnlocfcgfaaW.PrintWords Go.Proofs.YtppelnlocfcgfaaW.PrintLast Go.Proofs.YtppelnlocfcgfaaW.PrintMore
open Go.Proofs.Fnd
set_option linter.unusedVariables false
set_option linter.unusedSimpArgs false
theorem lcp_left {s : List UInt8} {x y z l m : Nat} (hx : LtW (s.length + 1) (sq s x) (sq s y)) (hz : LtW (s.length + 1) (sq s y) (sq s z)) (h : IsLcp s x z l) (h' : IsLcp s x y m) : l ≤ m := by
  apply Decidable.byContradiction
  intro q
  have e1 := h.same m (by omega)
  have d1 := h'.diff
  obtain ⟨a, _, a2, a3⟩ := hx
  have ha : a = m := by
    rcases Nat.lt_trichotomy a m with c | c | c
    · have := h'.same a c; omega
    · exact c
    · exact absurd (a2 m c) d1
  subst ha
  obtain ⟨b, _, b2, b3⟩ := hz
  rcases Nat.lt_trichotomy b a with c | c | c
  · have e2 := h.same b (by omega)
    have e3 := h'.same b c
    omega
  · subst c; omega
  · have := b2 a c; omega
theorem lcp_up (s : List UInt8) {a c : Nat} (h : a < c) (hc : c < s.length) : lcp s ((sufOrd s).getD a 0) ((sufOrd s).getD c 0) ≤ (overL s).getD c 0 := by
  rw [overL_at s c hc, if_neg (by omega)]
  by_cases e : a = c - 1
  · subst e; exact Nat.le_refl _
  · have la := ord_lt s a (by omega)
    have lb := ord_lt s (c - 1) (by omega)
    have lc := ord_lt s c hc
    have ne1 : (sufOrd s).getD a 0 ≠ (sufOrd s).getD c 0 := fun q => by have := ord_inj s (by omega) hc q; omega
    have ne2 : (sufOrd s).getD (c - 1) 0 ≠ (sufOrd s).getD c 0 := fun q => by have := ord_inj s (by omega) hc q; omega
    exact lcp_between (fun q => (ord_up s (a := a) (b := c - 1) (by omega) (by omega)).asymm q) (ord_up s (by omega) hc) (lcp_is s _ _ (by omega) (by omega) ne1) (lcp_is s _ _ (by omega) (by omega) ne2)
theorem lcp_dn (s : List UInt8) {a c : Nat} (h : a < c) (hc : c < s.length) : lcp s ((sufOrd s).getD a 0) ((sufOrd s).getD c 0) ≤ (overL s).getD (a + 1) 0 := by
  rw [overL_at s (a + 1) (by omega), if_neg (by omega), Nat.add_sub_cancel]
  by_cases e : c = a + 1
  · subst e; exact Nat.le_refl _
  · have la := ord_lt s a (by omega)
    have lb := ord_lt s (a + 1) (by omega)
    have lc := ord_lt s c hc
    have ne1 : (sufOrd s).getD a 0 ≠ (sufOrd s).getD c 0 := fun q => by have := ord_inj s (by omega) hc q; omega
    have ne2 : (sufOrd s).getD a 0 ≠ (sufOrd s).getD (a + 1) 0 := fun q => by have := ord_inj s (by omega) (by omega) q; omega
    exact lcp_left (ord_up s (by omega) (by omega)) (ord_up s (by omega) hc) (lcp_is s _ _ (by omega) (by omega) ne1) (lcp_is s _ _ (by omega) (by omega) ne2)
/-- the longest that a place shares with another -/
def mxO (s : List UInt8) (i : Nat) : Nat := max ((overL s).getD (rank s i) 0) ((overL s).getD (rank s i + 1) 0)
theorem overL_len (s : List UInt8) : (overL s).length = s.length := by rw [overL, List.length_map, List.length_range]
theorem mxO_most (s : List UInt8) {i j : Nat} (hi : i < s.length) (hj : j < s.length) (h : i ≠ j) : lcp s i j ≤ mxO s i := by
  have ri := rank_lt s i hi
  have rj := rank_lt s j hj
  have ei := ord_rank s i hi
  have ej := ord_rank s j hj
  unfold mxO
  rcases Nat.lt_trichotomy (rank s i) (rank s j) with c | c | c
  · have := lcp_dn s c rj
    rw [ei, ej] at this
    omega
  · rw [c, ej] at ei; exact absurd ei.symm h
  · have := lcp_up s c ri
    rw [ei, ej, lcp_symm s j i (by omega) (by omega) (fun e => h e.symm)] at this
    omega
theorem mxO_some (s : List UInt8) {i : Nat} (hi : i < s.length) : mxO s i = 0 ∨ ∃ j, j < s.length ∧ j ≠ i ∧ lcp s i j = mxO s i := by
  have ri := rank_lt s i hi
  have ei := ord_rank s i hi
  by_cases h0 : mxO s i = 0
  · exact .inl h0
  · refine .inr ?_
    unfold mxO at h0 ⊢
    by_cases h1 : (overL s).getD (rank s i + 1) 0 ≤ (overL s).getD (rank s i) 0
    · have hr : rank s i ≠ 0 := fun e => by
        rw [e] at h1 h0
        rw [overL_at s 0 (by omega), if_pos rfl] at h1 h0
        omega
      refine ⟨(sufOrd s).getD (rank s i - 1) 0, ord_lt s _ (by omega), fun e => ?_, ?_⟩
      · have := ord_inj s (a := rank s i - 1) (b := rank s i) (by omega) ri (by rw [e, ei]); omega
      · have h2 := overL_at s (rank s i) ri
        rw [if_neg hr, ei] at h2
        rw [lcp_symm s i _ (by omega) (by have := ord_lt s (rank s i - 1) (by omega); omega) (fun e => by have := ord_inj s (a := rank s i - 1) (b := rank s i) (by omega) ri (by rw [← e, ei]); omega), ← h2]
        omega
    · have hr : rank s i + 1 < s.length := by
        apply Decidable.byContradiction
        intro q
        have : (overL s).getD (rank s i + 1) 0 = 0 := by rw [List.getD_eq_getElem?_getD, List.getElem?_eq_none (by rw [overL_len]; omega)]; rfl
        omega
      refine ⟨(sufOrd s).getD (rank s i + 1) 0, ord_lt s _ (by omega), fun e => ?_, ?_⟩
      · have := ord_inj s (a := rank s i + 1) (b := rank s i) (by omega) ri (by rw [e, ei]); omega
      · have h2 := overL_at s (rank s i + 1) hr
        rw [if_neg (by omega), Nat.add_sub_cancel, ei] at h2
        rw [← h2]
        omega
theorem mxO_in (s : List UInt8) {i : Nat} (hi : i < s.length) : i + mxO s i ≤ s.length := by
  rcases mxO_some s hi with h | ⟨j, hj, hne, h⟩
  · omega
  · have := (lcp_is s i j (by omega) (by omega) (fun e => hne e.symm)).inside (by omega) (by omega) (fun e => hne e.symm)
    omega
/-- what Shortest answers -/
def shortA (t : ByteArray) (a : Int) : Int × Int :=
  if a < 0 ∨ (t.size : Int) ≤ a then (0, 2) else if t.size ≤ a.toNat + mxO t.data.toList a.toNat then (0, 6) else ((mxO t.data.toList a.toNat : Int) + 1, 0)
theorem mx_nat (a b : Nat) : mx (a : Int) (b : Int) = ((max a b : Nat) : Int) := by unfold mx; split <;> omega
theorem index_l0 (t : ByteArray) (ht : t.size ≤ 4096) (i : Nat) (hi : i < t.size) : ∀ (d k : Nat), k + d = rank t.data.toList i → Ev (fun K => slices_Index_int_int.l0 K (ordI t) (i : Int) (t.size : Int) (k : Int)) (rank t.data.toList i : Int) := by
  have hl := data_length t
  have h4 := ordI_length t
  have hr := rank_lt t.data.toList i (by omega)
  intro d
  induction d with
  | zero =>
    intro k hk
    have hv := rd_ordI t k (by omega)
    refine Ev.step (f := fun _ => some (rank t.data.toList i : Int)) (fun K => ?_) (Ev.now _)
    conv => lhs; unfold slices_Index_int_int.l0
    rw [if_pos (by omega), if_pos (by omega), if_pos (by omega), hv, if_pos]
    · congr 1; omega
    · rw [show k = rank t.data.toList i by omega, ord_rank _ _ (by omega)]
  | succ d ih =>
    intro k hk
    have hv := rd_ordI t k (by omega)
    refine Ev.step (fun K => ?_) (ih (k + 1) (by omega))
    conv => lhs; unfold slices_Index_int_int.l0
    rw [if_pos (by omega), if_pos (by omega), if_pos (by omega), hv, if_neg, w64 (by omega) (by omega)]
    · rfl
    · intro e
      have := rank_ord t.data.toList k (by omega)
      rw [show (sufOrd t.data.toList).getD k 0 = i by omega] at this
      omega
theorem index_ev (t : ByteArray) (ht : t.size ≤ 4096) (i : Nat) (hi : i < t.size) : Ev (fun K => slices_Index_int_int.f K (ordI t) (i : Int)) (rank t.data.toList i : Int) := by
  refine Ev.congr (fun K => ?_) (index_l0 t ht i hi (rank t.data.toList i) 0 (by omega))
  unfold slices_Index_int_int.f
  rw [ordI_length]; rfl
theorem shortest_in (t : ByteArray) (ht : t.size ≤ 4096) (i : Nat) (hi : i < t.size) : Ev (fun K => find_Index_Shortest.j0 K (i : Int) false t (ordI t) (overI t)) (if t.size ≤ i + mxO t.data.toList i then ((0, 6) : Int × Int) else ((mxO t.data.toList i : Int) + 1, 0)) := by
  have hl := data_length t
  have h4 := ordI_length t
  have h5 := overI_length t
  have hr := rank_lt t.data.toList i (by omega)
  have hin := mxO_in t.data.toList (i := i) (by omega)
  have hv := rd_overI t (rank t.data.toList i) (by omega)
  refine Ev.step (fun K => by rw [find_Index_Shortest.j0, if_neg (by simp)]) ?_
  refine Ev.bind (index_ev t ht i hi) ?_
  rw [if_pos (by omega), if_pos (by omega), w64 (x := (rank t.data.toList i : Int) + 1) (by omega) (by omega)]
  have e2 : ((rank t.data.toList i : Nat) : Int) + 1 = ((rank t.data.toList i + 1 : Nat) : Int) := by omega
  by_cases h1 : rank t.data.toList i + 1 < t.size
  · have hv2 := rd_overI t (rank t.data.toList i + 1) h1
    rw [e2, if_pos (by omega), if_pos (by omega), if_pos (by omega), hv, hv2, mx_nat]
    unfold mxO at hin ⊢
    rw [w64 (x := (i : Int) + _) (by omega) (by omega), w64 (by omega) (by omega)]
    by_cases h : t.size ≤ i + max ((overL t.data.toList).getD (rank t.data.toList i) 0) ((overL t.data.toList).getD (rank t.data.toList i + 1) 0)
    · rw [if_pos h, if_pos (by omega)]; exact Ev.now _
    · rw [if_neg h, if_neg (by omega)]; exact Ev.now _
  · have hz : (overL t.data.toList).getD (rank t.data.toList i + 1) 0 = 0 := by rw [List.getD_eq_getElem?_getD, List.getElem?_eq_none (by rw [overL_len]; omega)]; rfl
    rw [e2, if_neg (by omega), hv]
    unfold mxO at hin ⊢
    rw [hz, Nat.max_zero] at hin ⊢
    rw [w64 (x := (i : Int) + _) (by omega) (by omega), w64 (by omega) (by omega)]
    by_cases h : t.size ≤ i + (overL t.data.toList).getD (rank t.data.toList i) 0
    · rw [if_pos h, if_pos (by omega)]; exact Ev.now _
    · rw [if_neg h, if_neg (by omega)]; exact Ev.now _
theorem shortest_ev (t : ByteArray) (ht : t.size ≤ 4096) (a : Int) : Ev (fun K => find_Index_Shortest.f K t (ordI t) (overI t) a) (shortA t a) := by
  unfold find_Index_Shortest.f shortA
  by_cases h1 : a < 0
  · rw [if_pos (.inl h1)]
    refine ev_pos h1 ?_
    refine Ev.step (f := fun _ => some _) (fun K => ?_) (Ev.now _)
    rw [find_Index_Shortest.j0, if_pos rfl]
  · refine ev_neg h1 ?_
    by_cases h2 : (t.size : Int) ≤ a
    · rw [if_pos (.inr h2), decide_eq_true h2]
      refine Ev.step (f := fun _ => some _) (fun K => ?_) (Ev.now _)
      rw [find_Index_Shortest.j0, if_pos rfl]
    · rw [if_neg (by omega), decide_eq_false h2]
      obtain ⟨i, rfl⟩ : ∃ i : Nat, a = (i : Int) := ⟨a.toNat, by omega⟩
      rw [Int.toNat_natCast]
      exact shortest_in t ht i (by omega)
/-- the most that a place shares with the first places -/
structure Most (t : ByteArray) (i k m : Nat) : Prop where
  le : ∀ j, j < k → j ≠ i → lcp t.data.toList i j ≤ m
  is : m = 0 ∨ ∃ j, j < k ∧ j ≠ i ∧ lcp t.data.toList i j = m
theorem Most.all {t : ByteArray} {i m : Nat} (hi : i < t.size) (h : Most t i t.size m) : m = mxO t.data.toList i := by
  have hl := data_length t
  have h1 : m ≤ mxO t.data.toList i := by
    rcases h.is with h | ⟨j, hj, hne, h⟩
    · omega
    · rw [← h]; exact mxO_most _ (by omega) (by omega) (fun e => hne e.symm)
  have h2 : mxO t.data.toList i ≤ m := by
    rcases mxO_some t.data.toList (i := i) (by omega) with h3 | ⟨j, hj, hne, h3⟩
    · omega
    · rw [← h3]; exact h.le j (by omega) hne
  omega
theorem cpl_at (t : ByteArray) {i j : Nat} (hi : i < t.size) (hj : j < t.size) (h : i ≠ j) : cpl (t.data.toList.drop i) (t.data.toList.drop j) = lcp t.data.toList i j := by
  have hl := data_length t
  exact cpl_lcp (lcp_is t.data.toList i j (by omega) (by omega) h)
theorem refshort_l0 (t : ByteArray) (ht : t.size ≤ 4096) (i : Nat) (hi : i < t.size) : ∀ (d k m : Nat), k + d = t.size → Most t i k m → Ev (fun K => silversideref07_Shortest.l0 K t (i : Int) (m : Int) (k : Int)) (if t.size ≤ i + mxO t.data.toList i then ((0, 6) : Int × Int) else ((mxO t.data.toList i : Int) + 1, 0)) := by
  have hl := data_length t
  have hin := mxO_in t.data.toList (i := i) (by omega)
  intro d
  induction d with
  | zero =>
    intro k m hk hm
    obtain rfl : k = t.size := by omega
    have e := hm.all hi
    subst e
    refine Ev.step (f := fun _ => some _) (fun K => ?_) (Ev.now _)
    conv => lhs; unfold silversideref07_Shortest.l0
    rw [if_neg (by omega), w64 (x := (i : Int) + _) (by omega) (by omega), w64 (by omega) (by omega)]
    by_cases h : t.size ≤ i + mxO t.data.toList i
    · rw [if_pos h, if_pos (by omega)]
    · rw [if_neg h, if_neg (by omega)]
  | succ d ih =>
    intro k m hk hm
    by_cases e : k = i
    · subst e
      have h := ih (k + 1) m (by omega) ⟨fun j hj hne => hm.le j (by omega) hne, by
        rcases hm.is with h | ⟨j, hj, hne, h⟩
        · exact .inl h
        · exact .inr ⟨j, by omega, hne, h⟩⟩
      refine Ev.step (fun K => ?_) h
      conv => lhs; unfold silversideref07_Shortest.l0
      rw [if_pos (by omega), if_pos rfl, w64 (by omega) (by omega)]
      rfl
    · have hc := common_ev t t (by omega) (by omega) i k (by omega) (by omega)
      rw [cpl_at t hi (by omega) (fun q => e q.symm)] at hc
      have h := ih (k + 1) (max m (lcp t.data.toList i k)) (by omega) ⟨fun j hj hne => by
        by_cases e2 : j = k
        · subst e2; omega
        · have := hm.le j (by omega) hne; omega, by
        by_cases e2 : m ≤ lcp t.data.toList i k
        · exact .inr ⟨k, by omega, e, by omega⟩
        · rcases hm.is with h | ⟨j, hj, hne, h⟩
          · omega
          · exact .inr ⟨j, by omega, hne, by omega⟩⟩
      rw [← mx_nat] at h
      refine Ev.step (fun K => ?_) (Ev.bind hc h (f := fun K x => silversideref07_Shortest.l0 K t (i : Int) (mx (m : Int) x) ((k + 1 : Nat) : Int)))
      conv => lhs; unfold silversideref07_Shortest.l0
      rw [if_pos (by omega), if_neg (by omega), w64 (by omega) (by omega)]
      rfl
theorem refshort_ev (t : ByteArray) (ht : t.size ≤ 4096) (a : Int) : Ev (fun K => silversideref07_Shortest.f K t a) (shortA t a) := by
  unfold silversideref07_Shortest.f shortA
  by_cases h1 : a < 0
  · rw [if_pos (.inl h1)]
    refine ev_pos h1 ?_
    refine Ev.step (f := fun _ => some _) (fun K => ?_) (Ev.now _)
    rw [silversideref07_Shortest.j0, if_pos rfl]
  · refine ev_neg h1 ?_
    by_cases h2 : (t.size : Int) ≤ a
    · rw [if_pos (.inr h2), decide_eq_true h2]
      refine Ev.step (f := fun _ => some _) (fun K => ?_) (Ev.now _)
      rw [silversideref07_Shortest.j0, if_pos rfl]
    · rw [if_neg (by omega), decide_eq_false h2]
      obtain ⟨i, rfl⟩ : ∃ i : Nat, a = (i : Int) := ⟨a.toNat, by omega⟩
      rw [Int.toNat_natCast]
      refine Ev.step (fun K => ?_) (refshort_l0 t ht i (by omega) t.size 0 0 (by omega) ⟨fun j hj => by omega, .inl rfl⟩)
      rw [silversideref07_Shortest.j0, if_neg (by simp)]
      rfl
end Go.Proofs.Ytppelnlocfcgfaa.P
namespace Go.Proofs.Ytppelnlocfcgfaa.P
open Go.RowKit Go.Proofs.YtppelnlocfcgfaaW.PrintWords Go.Proofs.YtppelnlocfcgfaaW.PrintLast Go.Proofs.YtppelnlocfcgfaaW.PrintMore
open Go.Proofs.Fnd
set_option linter.unusedVariables false
set_option linter.unusedSimpArgs false
theorem txt_asymm {x y : List UInt8} (h : x < y) (h' : y < x) : False := by
  obtain ⟨m, h1, h2⟩ := (lt_iff x y).1 h
  obtain ⟨k, h3, h4⟩ := (lt_iff y x).1 h'
  rcases Nat.lt_trichotomy m k with c | c | c
  · have := h3 m c; omega
  · subst c; omega
  · have := h1 k c; omega
theorem txt_tri (x y : List UInt8) : x < y ∨ x = y ∨ y < x := by
  rcases tri (x.length + y.length + 1) (ch x) (ch y) with ⟨m, _, h2, h3⟩ | h | ⟨m, _, h2, h3⟩
  · exact .inl ((lt_iff x y).2 ⟨m, h2, h3⟩)
  · refine .inr (.inl ((eq_iff_ch x y).2 fun t => ?_))
    by_cases ht : t < x.length + y.length + 1
    · exact h t ht
    · rw [ch_ge x t (by omega), ch_ge y t (by omega)]
  · exact .inr (.inr ((lt_iff y x).2 ⟨m, h2, h3⟩))
theorem txt_irrefl (x : List UInt8) : ¬ x < x := fun h => txt_asymm h h
theorem countP_add {α : Type} (l : List α) (a b c : α → Bool) (h : ∀ i, i ∈ l → (c i = true ↔ (a i = true ∨ b i = true)) ∧ ¬ (a i = true ∧ b i = true)) : l.countP c = l.countP a + l.countP b := by
  induction l with
  | nil => rfl
  | cons x l ih =>
    have := ih (fun i hi => h i (List.mem_cons_of_mem _ hi))
    have hx := h x (List.mem_cons_self ..)
    rw [List.countP_cons, List.countP_cons, List.countP_cons, this]
    cases ha : a x <;> cases hb : b x <;> cases hc : c x <;> simp [ha, hb, hc] at hx ⊢ <;> omega
/-- how often a pattern occurs -/
def occN (s p : List UInt8) : Nat := (List.range s.length).countP fun i => decide (beginning s p.length i = p)
theorem upto_below (s p : List UInt8) : upto s p = below s p + occN s p := by
  unfold upto below occN
  refine countP_add _ _ _ _ fun i _ => ?_
  simp only [Bool.not_eq_true', decide_eq_false_iff_not, decide_eq_true_eq]
  constructor
  · constructor
    · intro h
      rcases txt_tri (beginning s p.length i) p with q | q | q
      · exact .inl q
      · exact .inr q
      · exact absurd q h
    · rintro (h | h)
      · exact fun q => txt_asymm h q
      · rw [h]; exact txt_irrefl p
  · rintro ⟨h1, h2⟩
    rw [h2] at h1
    exact txt_irrefl p h1
theorem count_occ (t p : ByteArray) (ht : t.size ≤ 4096) (hp : p.size ≤ 140737488351232) : find_Index_Count.f t (ordI t) (overI t) p = some (occN t.data.toList p.data.toList : Int) := by
  rw [count_is t p ht hp, upto_below]
  congr 1
  push_cast
  omega
theorem cnt0 (P : Nat → Bool) : ∀ n, (∀ i, i < n → P i = false) → (List.range n).countP P = 0
  | 0, _ => rfl
  | n + 1, h => by rw [List.range_succ, List.countP_append, cnt0 P n (fun i hi => h i (by omega))]; simp [h n (by omega)]
theorem cnt_pos (P : Nat → Bool) : ∀ n, (∃ i, i < n ∧ P i = true) → 1 ≤ (List.range n).countP P
  | 0, ⟨i, h, _⟩ => by omega
  | n + 1, ⟨i, h, hp⟩ => by
    rw [List.range_succ, List.countP_append]
    by_cases e : i = n
    · subst e; simp [hp]
    · have := cnt_pos P n ⟨i, by omega, hp⟩; omega
theorem cnt1 (P : Nat → Bool) : ∀ n a, a < n → P a = true → (∀ i, i < n → i ≠ a → P i = false) → (List.range n).countP P = 1
  | 0, a, h, _, _ => by omega
  | n + 1, a, h, hp, hn => by
    rw [List.range_succ, List.countP_append]
    by_cases e : a = n
    · subst e; rw [cnt0 P a (fun i hi => hn i (by omega) (by omega))]; simp [hp]
    · rw [cnt1 P n a (by omega) hp (fun i hi hne => hn i (by omega) hne)]; simp [hn n (by omega) (fun q => e q.symm)]
theorem cnt2 (P : Nat → Bool) : ∀ n a b, a < b → b < n → P a = true → P b = true → 2 ≤ (List.range n).countP P
  | 0, a, b, _, h, _, _ => by omega
  | n + 1, a, b, hab, h, hp, hq => by
    rw [List.range_succ, List.countP_append]
    by_cases e : b = n
    · subst e; have := cnt_pos P b ⟨a, hab, hp⟩; have e1 : List.countP P [b] = 1 := by simp [hq]
      omega
    · have := cnt2 P n a b hab (by omega) hp hq; omega
theorem extract_list (t : ByteArray) (a b : Nat) : (t.extract a b).data.toList = (t.data.toList.drop a).take (b - a) := by
  rw [ByteArray.data_extract, Array.toList_extract, List.extract_eq_take_drop]
theorem begin_len (s : List UInt8) (a L : Nat) (h : a + L ≤ s.length) : ((s.drop a).take L).length = L := by
  rw [List.length_take, List.length_drop]; omega
theorem ch_begin (s : List UInt8) (L i t : Nat) : ch ((s.drop i).take L) t = if t < L then sq s i t else 0 := by rw [ch_take, ch_drop]
/-- where a piece occurs -/
theorem begin_eq (s : List UInt8) {a i L : Nat} (ha : a < s.length) (hi : i < s.length) (hL : a + L ≤ s.length) : beginning s L i = (s.drop a).take L ↔ i = a ∨ L ≤ lcp s a i := by
  unfold beginning
  constructor
  · intro h
    by_cases e : i = a
    · exact .inl e
    · refine .inr ?_
      apply Decidable.byContradiction
      intro q
      have hl := lcp_is s a i (by omega) (by omega) (fun q => e q.symm)
      have h1 := (eq_iff_ch _ _).1 h (lcp s a i)
      rw [ch_begin, ch_begin, if_pos (by omega), if_pos (by omega)] at h1
      exact hl.diff h1.symm
  · rintro (h | h)
    · rw [h]
    · by_cases e : i = a
      · rw [e]
      · have hl := lcp_is s a i (by omega) (by omega) (fun q => e q.symm)
        refine (eq_iff_ch _ _).2 fun t => ?_
        rw [ch_begin, ch_begin]
        split
        · exact (hl.same t (by omega)).symm
        · rfl
theorem occ_one (s : List UInt8) {a L : Nat} (ha : a < s.length) (hL : a + L ≤ s.length) (h : mxO s a < L) : occN s ((s.drop a).take L) = 1 := by
  unfold occN
  rw [begin_len s a L hL]
  refine cnt1 _ _ a ha ?_ fun i hi hne => ?_
  · rw [decide_eq_true_eq, begin_eq s ha ha hL]; exact .inl rfl
  · rw [decide_eq_false_iff_not, begin_eq s ha hi hL]
    have := mxO_most s ha hi (fun e => hne e.symm)
    omega
theorem occ_two (s : List UInt8) {a L : Nat} (ha : a < s.length) (hL : a + L ≤ s.length) (h0 : 0 < L) (h : L ≤ mxO s a) : 2 ≤ occN s ((s.drop a).take L) := by
  unfold occN
  rw [begin_len s a L hL]
  rcases mxO_some s ha with h1 | ⟨j, hj, hne, h1⟩
  · omega
  · have pa : decide (beginning s L a = (s.drop a).take L) = true := by rw [decide_eq_true_eq, begin_eq s ha ha hL]; exact .inl rfl
    have pj : decide (beginning s L j = (s.drop a).take L) = true := by rw [decide_eq_true_eq, begin_eq s ha hj hL]; exact .inr (by omega)
    rcases Nat.lt_or_gt_of_ne hne with c | c
    · exact cnt2 _ _ j a c ha pj pa
    · exact cnt2 _ _ a j c hj pa pj
theorem mod_is (a : Int) (n : Nat) (h0 : 0 < n) (hn : n ≤ 1000000) : ∃ r : Nat, r < n ∧ silversidelaw07_mod.f a (n : Int) = some (r : Int) := by
  unfold silversidelaw07_mod.f
  have e1 : IntKind.u64.wrap (n : Int) = (n : Int) := by
    unfold IntKind.wrap
    simp [IntKind.bits, IntKind.signed]
    omega
  rw [e1, if_neg (by omega)]
  have h1 : 0 ≤ IntKind.u64.wrap a := by
    unfold IntKind.wrap
    simp [IntKind.bits, IntKind.signed]
    omega
  rw [Int.tmod_eq_emod_of_nonneg h1]
  generalize IntKind.u64.wrap a = x at *
  have h2 := Int.emod_nonneg x (show (n : Int) ≠ 0 by omega)
  have h3 := Int.emod_lt_of_pos x (show (0 : Int) < (n : Int) by omega)
  refine ⟨(x % (n : Int)).toNat, by omega, ?_⟩
  rw [w64 (by omega) (by omega)]
  congr 1
  omega
end Go.Proofs.Ytppelnlocfcgfaa.P
namespace Go.Proofs.Ytppelnlocfcgfaa.P
open Go.RowKit Go.Proofs.YtppelnlocfcgfaaW.PrintWords Go.Proofs.YtppelnlocfcgfaaW.PrintLast Go.Proofs.YtppelnlocfcgfaaW.PrintMore
open Go.Proofs.Fnd
set_option linter.unusedVariables false
set_option linter.unusedSimpArgs false
theorem txt_trans {x y z : List UInt8} (h : x < y) (h' : y < z) : x < z := by
  obtain ⟨m, h1, h2⟩ := (lt_iff x y).1 h
  obtain ⟨k, h3, h4⟩ := (lt_iff y z).1 h'
  refine (lt_iff x z).2 ?_
  rcases Nat.lt_trichotomy m k with c | c | c
  · exact ⟨m, fun t ht => (h1 t ht).trans (h3 t (by omega)), by rw [← h3 m c]; exact h2⟩
  · subst c; exact ⟨m, fun t ht => (h1 t ht).trans (h3 t ht), by omega⟩
  · exact ⟨k, fun t ht => (h1 t (by omega)).trans (h3 t ht), by rw [h1 k c]; exact h4⟩
/-- where a pattern occurs -/
def occL (s p : List UInt8) (k : Nat) : List Nat := (List.range k).filter fun i => decide (beginning s p.length i = p)
theorem occL_succ (s p : List UInt8) (k : Nat) : occL s p (k + 1) = occL s p k ++ (if beginning s p.length k = p then [k] else []) := by
  unfold occL
  rw [List.range_succ, List.filter_append]
  congr 1
  by_cases h : beginning s p.length k = p
  · rw [if_pos h]; simp [h]
  · rw [if_neg h]; simp [h]
theorem occL_len (s p : List UInt8) : (occL s p s.length).length = occN s p := by rw [occL, occN, List.countP_eq_length_filter]
theorem occL_le (s p : List UInt8) (k : Nat) : (occL s p k).length ≤ k := by
  unfold occL
  have := List.length_filter_le (fun i => decide (beginning s p.length i = p)) (List.range k)
  rwa [List.length_range] at this
theorem piece_list (t p : ByteArray) (k : Nat) (h : k + p.size ≤ t.size) : (t.extract k (k + p.size)).toList = beginning t.data.toList p.data.toList.length k := by
  rw [ByteArray.toList_eq, extract_list, data_length p, beginning, show k + p.size - k = p.size by omega]
theorem occL_rest (s p : List UInt8) (k : Nat) (hk : k ≤ s.length) (h : s.length < k + p.length) : ∀ d, k + d ≤ s.length → occL s p (k + d) = occL s p k
  | 0, _ => rfl
  | d + 1, hd => by
    rw [show k + (d + 1) = k + d + 1 by omega, occL_succ, occL_rest s p k hk h d (by omega), if_neg, List.append_nil]
    intro e
    have := congrArg List.length e
    unfold beginning at this
    rw [List.length_take, List.length_drop] at this
    omega
theorem reffind_l0 (t p : ByteArray) (ht : t.size ≤ 1000000) (hp : p.size ≤ 140737488351232) : ∀ (d k : Nat), k + d = t.size → Ev (fun K => silversideref07_Find.l0 K t p (nI (occL t.data.toList p.data.toList k)) (k : Int)) (nI (occL t.data.toList p.data.toList t.data.toList.length)) := by
  have hl := data_length t
  have hlp := data_length p
  intro d
  induction d with
  | zero =>
    intro k hk
    obtain rfl : k = t.size := by omega
    refine Ev.step (fun K => by rw [silversideref07_Find.l0, if_neg (by omega)]) ?_
    refine Ev.step (f := fun _ => some _) (fun K => by rw [silversideref07_Find.j1, if_neg (by simp)]) ?_
    rw [hl]; exact Ev.now _
  | succ d ih =>
    intro k hk
    have hlen := occL_le t.data.toList p.data.toList k
    have e1 : wrap64 ((k : Int) + (p.size : Int)) = ((k + p.size : Nat) : Int) := by rw [w64 (by omega) (by omega)]; omega
    refine Ev.step (fun K => by rw [silversideref07_Find.l0, if_pos (by omega)]) ?_
    rw [e1]
    by_cases hin : k + p.size ≤ t.size
    · have h := ih (k + 1) (by omega)
      rw [decide_eq_true (by omega)]
      refine Ev.step (fun K => by rw [silversideref07_Find.j1, if_pos rfl]) ?_
      rw [e1]
      refine ev_pos (by omega) (ev_pos (by omega) (ev_pos (by omega) ?_))
      rw [Int.toNat_natCast, Int.toNat_natCast, piece_list t p k hin, ByteArray.toList_eq p, w64 (x := (k : Int) + 1) (by omega) (by omega)]
      rw [occL_succ] at h
      by_cases c : beginning t.data.toList p.data.toList.length k = p.data.toList
      · rw [if_pos c] at h
        refine ev_pos c (ev_pos (by rw [nI_length]; omega) ?_)
        have e2 : nI (occL t.data.toList p.data.toList k ++ [k]) = nI (occL t.data.toList p.data.toList k) ++ [(k : Int)] := by simp [nI]
        rw [e2] at h
        exact h
      · rw [if_neg c, List.append_nil] at h
        exact ev_neg c h
    · rw [decide_eq_false (by omega)]
      refine Ev.step (f := fun _ => some _) (fun K => by rw [silversideref07_Find.j1, if_neg (by simp)]) ?_
      have := occL_rest t.data.toList p.data.toList k (by omega) (by omega) (d + 1) (by omega)
      rw [show t.data.toList.length = k + (d + 1) by omega, this]
      exact Ev.now _
theorem reffind_ev (t p : ByteArray) (ht : t.size ≤ 1000000) (hp : p.size ≤ 140737488351232) : Ev (fun K => silversideref07_Find.f K t p) (nI (occL t.data.toList p.data.toList t.data.toList.length)) := by
  have := reffind_l0 t p ht hp t.size 0 (by omega)
  simpa [silversideref07_Find.f, occL, nI] using this
/-- a piece of a text -/
def piece (s : List UInt8) (a m : Nat) : List UInt8 := (s.drop a).take m
/-- the best of the pairs so far: those with first place below i, and (i, b) for b below k -/
def MetP (i k a b : Nat) : Prop := b < a ∧ (a < i ∨ a = i ∧ b < k)
structure Best (s : List UInt8) (i k : Nat) (L : List UInt8) : Prop where
  all : ∀ a b, MetP i k a b → lcp s a b ≤ L.length ∧ (lcp s a b = L.length → ¬ piece s a (lcp s a b) < L)
  is : L = [] ∨ ∃ a b, MetP i k a b ∧ lcp s a b = L.length ∧ L = piece s a L.length
theorem piece_len (s : List UInt8) {a b : Nat} (ha : a < s.length) (hb : b < s.length) (h : a ≠ b) : (piece s a (lcp s a b)).length = lcp s a b := by
  have := (lcp_is s a b (by omega) (by omega) h).inside (by omega) (by omega) h
  unfold piece
  rw [List.length_take, List.length_drop]; omega
theorem Best.next {s : List UInt8} {i k : Nat} {L : List UInt8} (h : Best s i k L) (hi : i < s.length) (hk : k < i) : Best s i (k + 1) (if L.length < lcp s i k then piece s i (lcp s i k) else if lcp s i k = L.length ∧ piece s i (lcp s i k) < L then piece s i (lcp s i k) else L) := by
  have hpl := piece_len s (a := i) (b := k) hi (by omega) (by omega)
  have split_met : ∀ a b, MetP i (k + 1) a b → MetP i k a b ∨ a = i ∧ b = k := fun a b hm => by
    unfold MetP at hm ⊢; omega
  have met_new : MetP i (k + 1) i k := by unfold MetP; omega
  have met_up : ∀ a b, MetP i k a b → MetP i (k + 1) a b := fun a b hm => by unfold MetP at hm ⊢; omega
  by_cases c1 : L.length < lcp s i k
  · rw [if_pos c1]
    refine ⟨fun a b hm => ?_, .inr ⟨i, k, met_new, by rw [hpl], by rw [hpl]⟩⟩
    rw [hpl]
    rcases split_met a b hm with q | ⟨rfl, rfl⟩
    · have := (h.all a b q).1
      exact ⟨by omega, fun e => by omega⟩
    · exact ⟨Nat.le_refl _, fun _ => txt_irrefl _⟩
  · rw [if_neg c1]
    by_cases c2 : lcp s i k = L.length ∧ piece s i (lcp s i k) < L
    · rw [if_pos c2]
      refine ⟨fun a b hm => ?_, .inr ⟨i, k, met_new, by rw [hpl], by rw [hpl]⟩⟩
      rw [hpl]
      rcases split_met a b hm with q | ⟨rfl, rfl⟩
      · have h1 := h.all a b q
        refine ⟨by omega, fun e h2 => ?_⟩
        have h3 := h1.2 (by omega)
        rcases txt_tri (piece s a (lcp s a b)) L with q1 | q1 | q1
        · exact h3 q1
        · rw [q1] at h2; exact txt_asymm h2 c2.2
        · have t1 := c2.2
          -- piece a < piece i < L < piece a
          exact txt_asymm (x := piece s a (lcp s a b)) (y := L) (txt_trans h2 t1) q1
      · exact ⟨Nat.le_refl _, fun _ => txt_irrefl _⟩
    · rw [if_neg c2]
      refine ⟨fun a b hm => ?_, ?_⟩
      · rcases split_met a b hm with q | ⟨rfl, rfl⟩
        · exact h.all a b q
        · exact ⟨by omega, fun e h2 => c2 ⟨e, h2⟩⟩
      · rcases h.is with q | ⟨a, b, hm, q⟩
        · exact .inl q
        · exact .inr ⟨a, b, met_up a b hm, q⟩
theorem Best.row {s : List UInt8} {i : Nat} {L : List UInt8} (h : Best s i i L) : Best s (i + 1) 0 L := by
  have e : ∀ a b, MetP (i + 1) 0 a b ↔ MetP i i a b := fun a b => by unfold MetP; omega
  exact ⟨fun a b hm => h.all a b ((e a b).1 hm), h.is.imp id fun ⟨a, b, hm, q⟩ => ⟨a, b, (e a b).2 hm, q⟩⟩
theorem over_best (s : List UInt8) (k : Nat) (hk : k ≤ s.length) : (∀ j, j < k → (overL s).getD j 0 ≤ (bestOf (sufOrd s) (overL s) k).1) ∧ ((bestOf (sufOrd s) (overL s) k).1 = 0 ∨ ∃ j, j < k ∧ bestOf (sufOrd s) (overL s) k = ((overL s).getD j 0, (sufOrd s).getD j 0) ∧ ∀ q, q < j → (overL s).getD q 0 < (overL s).getD j 0) := by
  induction k with
  | zero => exact ⟨fun j hj => by omega, .inl rfl⟩
  | succ k ih =>
    obtain ⟨h1, h2⟩ := ih (by omega)
    unfold bestOf
    by_cases c : (bestOf (sufOrd s) (overL s) k).1 < (overL s).getD k 0
    · rw [if_pos c]
      refine ⟨fun j hj => ?_, .inr ⟨k, by omega, rfl, fun q hq => ?_⟩⟩
      · by_cases e : j = k
        · subst e; exact Nat.le_refl _
        · have := h1 j (by omega); show _ ≤ (overL s).getD k 0; omega
      · have := h1 q hq; omega
    · rw [if_neg c]
      refine ⟨fun j hj => ?_, ?_⟩
      · by_cases e : j = k
        · subst e; omega
        · exact h1 j (by omega)
      · rcases h2 with h | ⟨j, hj, h, h'⟩
        · exact .inl h
        · exact .inr ⟨j, by omega, h, h'⟩
/-- two pieces that run alike -/
theorem piece_eq {s : List UInt8} {a b : Nat} (ha : a < s.length) (hb : b < s.length) (h : a ≠ b) : piece s a (lcp s a b) = piece s b (lcp s a b) := by
  have hl := lcp_is s a b (by omega) (by omega) h
  refine (eq_iff_ch _ _).2 fun t => ?_
  unfold piece
  rw [ch_begin, ch_begin]
  split
  · exact hl.same t (by assumption)
  · rfl
/-- the two ways to the longest that occurs twice -/
theorem Best.done {s : List UInt8} {L : List UInt8} (h : Best s s.length 0 L) : L = piece s (bestOf (sufOrd s) (overL s) s.length).2 (bestOf (sufOrd s) (overL s) s.length).1 := by
  obtain ⟨h1, h2⟩ := over_best s s.length (Nat.le_refl _)
  -- any pair's overlap, by ranks
  have pair : ∀ a b, a < s.length → b < s.length → a ≠ b → ∃ c, c < s.length ∧ lcp s a b ≤ (overL s).getD c 0 ∧ ((sufOrd s).getD c 0 = a ∨ (sufOrd s).getD c 0 = b) := fun a b ha hb hne => by
    have ra := rank_lt s a ha
    have rb := rank_lt s b hb
    have ea := ord_rank s a ha
    have eb := ord_rank s b hb
    rcases Nat.lt_trichotomy (rank s a) (rank s b) with c | c | c
    · have := lcp_up s c rb
      rw [ea, eb] at this
      exact ⟨rank s b, rb, this, .inr eb⟩
    · rw [c, eb] at ea; exact absurd ea.symm hne
    · have := lcp_up s c ra
      rw [ea, eb, lcp_symm s b a (by omega) (by omega) (fun e => hne e.symm)] at this
      exact ⟨rank s a, ra, this, .inl ea⟩
  have small : ∀ a b, a < s.length → b < s.length → a ≠ b → lcp s a b ≤ (bestOf (sufOrd s) (overL s) s.length).1 := fun a b ha hb hne => by
    obtain ⟨c, hc, hle, _⟩ := pair a b ha hb hne
    have := h1 c hc; omega
  rcases h2 with h0 | ⟨j, hj, hbe, hfirst⟩
  · rw [h0]
    show L = List.take 0 _
    rw [List.take_zero]
    rcases h.is with q | ⟨a, b, hm, q1, q2⟩
    · exact q
    · unfold MetP at hm
      have := small a b (by omega) (by omega) (by omega)
      exact List.eq_nil_of_length_eq_zero (by omega)
  · rw [hbe] at small ⊢
    show L = piece s ((sufOrd s).getD j 0) ((overL s).getD j 0)
    have small' : ∀ a b, a < s.length → b < s.length → a ≠ b → lcp s a b ≤ (overL s).getD j 0 := small
    by_cases hz : (overL s).getD j 0 = 0
    · rw [hz]
      show L = List.take 0 _
      rw [List.take_zero]
      rcases h.is with q | ⟨a, b, hm, q1, q2⟩
      · exact q
      · unfold MetP at hm
        have := small' a b (by omega) (by omega) (by omega)
        exact List.eq_nil_of_length_eq_zero (by omega)
    · have hj0 : j ≠ 0 := fun e => by
        rw [e, overL_at s 0 (by omega), if_pos rfl] at hz; omega
      have lx := ord_lt s (j - 1) (by omega)
      have ly := ord_lt s j hj
      have hov := overL_at s j hj
      rw [if_neg hj0] at hov
      have hne : (sufOrd s).getD (j - 1) 0 ≠ (sufOrd s).getD j 0 := fun e => by have := ord_inj s (by omega) hj e; omega
      -- the program's pair is met
      have own : (overL s).getD j 0 ≤ L.length ∧ ((overL s).getD j 0 = L.length → ¬ piece s ((sufOrd s).getD j 0) ((overL s).getD j 0) < L) := by
        rcases Nat.lt_or_gt_of_ne hne with c | c
        · have := h.all ((sufOrd s).getD j 0) ((sufOrd s).getD (j - 1) 0) (by unfold MetP; omega)
          rw [lcp_symm s _ _ (by omega) (by omega) (fun e => hne e.symm), ← hov] at this
          exact this
        · have := h.all ((sufOrd s).getD (j - 1) 0) ((sufOrd s).getD j 0) (by unfold MetP; omega)
          rw [piece_eq lx ly hne, ← hov] at this
          exact this
      rcases h.is with q | ⟨a, b, hm, q1, q2⟩
      · have h9 := own.1
        rw [q] at h9
        exact absurd (Nat.le_zero.1 h9) hz
      · unfold MetP at hm
        have hsm := small' a b (by omega) (by omega) (by omega)
        have hlen : L.length = (overL s).getD j 0 := by omega
        obtain ⟨c, hc, hle, hab⟩ := pair a b (by omega) (by omega) (by omega)
        have hjc : j ≤ c := by
          apply Decidable.byContradiction
          intro q
          have := hfirst c (by omega); omega
        have hL : L = piece s ((sufOrd s).getD c 0) ((overL s).getD j 0) := by
          rw [hlen] at q2
          rcases hab with e | e
          · rw [e]; exact q2
          · rw [e, q2]
            have := piece_eq (s := s) (a := a) (b := b) (by omega) (by omega) (by omega)
            rwa [q1, hlen] at this
        have hle2 : ¬ L < piece s ((sufOrd s).getD j 0) ((overL s).getD j 0) := by
          rw [hL]
          exact take_le _ (order_le s hjc hc)
        rcases txt_tri L (piece s ((sufOrd s).getD j 0) ((overL s).getD j 0)) with q3 | q3 | q3
        · exact absurd q3 hle2
        · exact q3
        · exact absurd q3 (own.2 (by omega))
end Go.Proofs.Ytppelnlocfcgfaa.P
namespace Go.Proofs.Ytppelnlocfcgfaa.P
open Go.RowKit Go.Proofs.YtppelnlocfcgfaaW.PrintWords Go.Proofs.YtppelnlocfcgfaaW.PrintLast Go.Proofs.YtppelnlocfcgfaaW.PrintMore
open Go.Proofs.Fnd
set_option linter.unusedVariables false
set_option linter.unusedSimpArgs false
theorem bytesLess_is : ∀ (x y : List UInt8), Op.bytesLess x y = decide (x < y)
  | [], [] => by simp [Op.bytesLess]
  | a :: x, [] => by simp [Op.bytesLess]
  | [], b :: y => by simp [Op.bytesLess]
  | a :: x, b :: y => by
    rw [Op.bytesLess, bytesLess_is x y]
    by_cases h1 : a < b
    · simp [h1, List.cons_lt_cons_iff]
    · by_cases h2 : a = b
      · subst h2; simp [List.cons_lt_cons_iff]
      · simp [h1, h2, List.cons_lt_cons_iff]
/-- the text that a list of bytes is -/
def txt (l : List UInt8) : ByteArray := ⟨l.toArray⟩
theorem txt_size (l : List UInt8) : (txt l).size = l.length := List.size_toArray
theorem txt_list (l : List UInt8) : (txt l).toList = l := by rw [ByteArray.toList_eq]; rfl
theorem txt_data (l : List UInt8) : (txt l).data.toList = l := rfl
theorem extract_txt (t : ByteArray) (a m : Nat) : t.extract a (a + m) = txt (piece t.data.toList a m) := by
  rw [← bytes_back (t.extract a (a + m)), extract_list, show a + m - a = m by omega]; rfl
where bytes_back (t : ByteArray) : (⟨t.data.toList.toArray⟩ : ByteArray) = t := by rw [Array.toArray_toList]
theorem refrep_l1 (t : ByteArray) (ht : t.size ≤ 4096) (i : Nat) (hi : i < t.size) (r : ByteArray × Int × Int)
    (hgo : ∀ L, Best t.data.toList (i + 1) 0 L → Ev (fun K => silversideref07_Repeat.l0 K t (txt L) ((i + 1 : Nat) : Int)) r) :
    ∀ (d k : Nat) (L : List UInt8), k + d = i → Best t.data.toList i k L → Ev (fun K => silversideref07_Repeat.l1 K t (txt L) (i : Int) (k : Int)) r := by
  have hl := data_length t
  intro d
  induction d with
  | zero =>
    intro k L hk hL
    obtain rfl : k = i := by omega
    refine Ev.step (fun K => by rw [silversideref07_Repeat.l1, if_neg (by omega), w64 (by omega) (by omega)]) ?_
    exact hgo L hL.row
  | succ d ih =>
    intro k L hk hL
    have hc := common_ev t t (by omega) (by omega) i k (by omega) (by omega)
    rw [cpl_at t hi (by omega) (by omega)] at hc
    have hn := ih (k + 1) _ (by omega) (hL.next (by omega) (by omega))
    have hin := ((lcp_is t.data.toList i k (by omega) (by omega) (by omega)).inside (by omega) (by omega) (by omega)).1
    refine Ev.step (fun K => by rw [silversideref07_Repeat.l1, if_pos (by omega)]) ?_
    refine Ev.bind hc ?_
    generalize lcp t.data.toList i k = m at *
    have e1 : wrap64 ((i : Int) + (m : Int)) = ((i + m : Nat) : Int) := by rw [w64 (by omega) (by omega)]; omega
    rw [e1, txt_size, w64 (x := (k : Int) + 1) (by omega) (by omega), Int.toNat_natCast, Int.toNat_natCast, extract_txt, txt_list, txt_list, bytesLess_is]
    by_cases c1 : L.length < m
    · rw [if_pos c1] at hn
      exact ev_pos (by omega) (ev_pos (by omega) (ev_pos (by omega) (ev_pos (by omega) hn)))
    · rw [if_neg c1] at hn
      refine ev_neg (by omega) ?_
      by_cases c2 : m = L.length
      · refine ev_pos (by omega) (ev_pos (by omega) (ev_pos (by omega) (ev_pos (by omega) ?_)))
        by_cases c3 : piece t.data.toList i m < L
        · rw [if_pos ⟨c2, c3⟩] at hn
          exact ev_pos (by rw [decide_eq_true_eq]; exact c3) hn
        · rw [if_neg (fun q => c3 q.2)] at hn
          exact ev_neg (by rw [decide_eq_true_eq]; exact c3) hn
      · rw [if_neg (fun q => c2 q.1)] at hn
        exact ev_neg (by omega) hn
theorem refrep_l0 (t : ByteArray) (ht : t.size ≤ 4096) : ∀ (d i : Nat) (L : List UInt8), i + d = t.size → Best t.data.toList i 0 L → Ev (fun K => silversideref07_Repeat.l0 K t (txt L) (i : Int)) (repeatA t) := by
  have hl := data_length t
  intro d
  induction d with
  | zero =>
    intro i L hi hL
    obtain rfl : i = t.size := by omega
    have hin := best_in t t.size (Nat.le_refl _)
    have hR : repeatA t = if (bestOf (sufOrd t.data.toList) (overL t.data.toList) t.size).1 = 0 then ((⟨#[]⟩ : ByteArray), 0, 6) else (t.extract (bestOf (sufOrd t.data.toList) (overL t.data.toList) t.size).2 ((bestOf (sufOrd t.data.toList) (overL t.data.toList) t.size).2 + (bestOf (sufOrd t.data.toList) (overL t.data.toList) t.size).1), (upto t.data.toList (t.extract (bestOf (sufOrd t.data.toList) (overL t.data.toList) t.size).2 ((bestOf (sufOrd t.data.toList) (overL t.data.toList) t.size).2 + (bestOf (sufOrd t.data.toList) (overL t.data.toList) t.size).1)).data.toList : Int) - (below t.data.toList (t.extract (bestOf (sufOrd t.data.toList) (overL t.data.toList) t.size).2 ((bestOf (sufOrd t.data.toList) (overL t.data.toList) t.size).2 + (bestOf (sufOrd t.data.toList) (overL t.data.toList) t.size).1)).data.toList : Int), 0) := rfl
    rw [← hl] at hL
    have hd := hL.done
    rw [hl] at hd
    rw [hR]
    generalize bestOf (sufOrd t.data.toList) (overL t.data.toList) t.size = b at *
    rw [extract_txt, ← hd, txt_data, upto_below]
    have hLl : L.length = b.1 := by rw [hd]; exact begin_len _ _ _ (by omega)
    refine Ev.step (fun K => by rw [silversideref07_Repeat.l0, if_neg (by omega)]) ?_
    rw [txt_list]
    by_cases h0 : b.1 = 0
    · rw [if_pos h0]
      exact ev_pos (List.eq_nil_of_length_eq_zero (by omega)) (Ev.now _)
    · rw [if_neg h0]
      refine ev_neg (fun e => h0 (by rw [e] at hLl; simpa using hLl.symm)) (Ev.bind (reffind_ev t (txt L) (by omega) (by rw [txt_size]; omega)) ?_)
      rw [txt_data, nI_length, occL_len, show ((below t.data.toList L + occN t.data.toList L : Nat) : Int) - (below t.data.toList L : Int) = (occN t.data.toList L : Int) by omega]
      exact Ev.now _
  | succ d ih =>
    intro i L hi hL
    refine Ev.step (fun K => by rw [silversideref07_Repeat.l0, if_pos (by omega)]) ?_
    exact refrep_l1 t ht i (by omega) _ (fun L' hL' => ih (i + 1) L' (by omega) hL') i 0 L (by omega) hL
theorem refrep_ev (t : ByteArray) (ht : t.size ≤ 4096) : Ev (fun K => silversideref07_Repeat.f K t) (repeatA t) :=
  refrep_l0 t ht t.size 0 [] (by omega) ⟨fun a b hm => by unfold MetP at hm; omega, .inl rfl⟩
/-- how many of a list stand again behind -/
def dup {κ : Type} [DecidableEq κ] : List κ → Nat
  | [] => 0
  | x :: l => (if x ∈ l then 1 else 0) + dup l
theorem dup_perm {κ : Type} [DecidableEq κ] {l l' : List κ} (h : l.Perm l') : dup l = dup l' := by
  induction h with
  | nil => rfl
  | cons x h ih => unfold dup; rw [ih]; simp only [h.mem_iff]
  | swap x y l =>
    unfold dup dup
    by_cases e : x = y
    · subst e; rfl
    · have e' : ¬ y = x := fun q => e q.symm
      simp only [List.mem_cons, e, e', false_or]; omega
  | trans _ _ h1 h2 => exact h1.trans h2
/-- how many have one before that is like them -/
theorem dup_count {κ : Type} [DecidableEq κ] (g : Nat → κ) : ∀ n, (List.range n).countP (fun a => decide (∃ q, q < a ∧ g q = g a)) = dup ((List.range n).map g).reverse
  | 0 => rfl
  | n + 1 => by
    rw [List.range_succ, List.countP_append, dup_count g n, List.map_append, List.reverse_append]
    show _ = (if g n ∈ ((List.range n).map g).reverse then 1 else 0) + dup ((List.range n).map g).reverse
    rw [Nat.add_comm]
    congr 1
    have : g n ∈ ((List.range n).map g).reverse ↔ ∃ q, q < n ∧ g q = g n := by
      rw [List.mem_reverse, List.mem_map]
      constructor
      · rintro ⟨q, hq, e⟩; exact ⟨q, List.mem_range.1 hq, e⟩
      · rintro ⟨q, hq, e⟩; exact ⟨q, List.mem_range.2 hq, e⟩
    by_cases c : ∃ q, q < n ∧ g q = g n
    · rw [if_pos (this.2 c)]; simp [c]
    · rw [if_neg (fun q => c (this.1 q))]; simp [c]
/-- a sum, and the same sum layer by layer -/
def sumF (f : Nat → Nat) : Nat → Nat
  | 0 => 0
  | k + 1 => sumF f k + f k
theorem sumF_congr {f g : Nat → Nat} : ∀ n, (∀ i, i < n → f i = g i) → sumF f n = sumF g n
  | 0, _ => rfl
  | n + 1, h => by unfold sumF; rw [sumF_congr n (fun i hi => h i (by omega)), h n (by omega)]
theorem sumF_add (f g : Nat → Nat) : ∀ n, sumF (fun i => f i + g i) n = sumF f n + sumF g n
  | 0 => rfl
  | n + 1 => by unfold sumF; rw [sumF_add f g n]; omega
theorem sumF_ones (x : Nat) : ∀ N, x ≤ N → sumF (fun L => if L < x then 1 else 0) N = x
  | 0, h => by unfold sumF; omega
  | N + 1, h => by
    unfold sumF
    by_cases e : x = N + 1
    · subst e
      rw [if_pos (by omega), sumF_congr (g := fun L => if L < N then 1 else 0) N (fun i hi => by rw [if_pos (by omega), if_pos hi]), sumF_ones N N (Nat.le_refl _)]
    · rw [if_neg (by omega), sumF_ones x N (by omega), Nat.add_zero]
theorem layers (f : Nat → Nat) (N : Nat) : ∀ n, (∀ i, i < n → f i ≤ N) → sumF f n = sumF (fun L => (List.range n).countP fun a => decide (L < f a)) N
  | 0, _ => by
    have : ∀ N, sumF (fun L => (List.range 0).countP fun a => decide (L < f a)) N = 0 := by
      intro N
      induction N with
      | zero => rfl
      | succ N ih => unfold sumF; rw [ih]; rfl
    rw [this]; rfl
  | n + 1, h => by
    have e : sumF (fun L => (List.range (n + 1)).countP fun a => decide (L < f a)) N = sumF (fun L => ((List.range n).countP fun a => decide (L < f a)) + (if L < f n then 1 else 0)) N :=
      sumF_congr N fun L _ => by
        rw [List.range_succ, List.countP_append]
        congr 1
        by_cases c : L < f n
        · rw [if_pos c]; simp [c]
        · rw [if_neg c]; simp [c]
    rw [e, sumF_add, ← layers f N n (fun i hi => h i (by omega)), sumF_ones (f n) N (h n (by omega))]
    rfl
/-- the most that a place shares with an earlier one -/
def mxTo (s : List UInt8) (i : Nat) : Nat → Nat
  | 0 => 0
  | k + 1 => max (mxTo s i k) (lcp s i k)
theorem mxTo_lt (s : List UInt8) (i : Nat) (L : Nat) : ∀ k, L < mxTo s i k ↔ ∃ b, b < k ∧ L < lcp s i b
  | 0 => by simp [mxTo]
  | k + 1 => by
    have := mxTo_lt s i L k
    unfold mxTo
    constructor
    · intro h
      by_cases c : L < mxTo s i k
      · obtain ⟨b, hb, q⟩ := this.1 c; exact ⟨b, by omega, q⟩
      · exact ⟨k, by omega, by omega⟩
    · rintro ⟨b, hb, q⟩
      by_cases e : b = k
      · subst e; omega
      · have := this.2 ⟨b, by omega, q⟩; omega
theorem mxTo_in (s : List UInt8) {i : Nat} (hi : i < s.length) : ∀ k, k ≤ i → i + mxTo s i k ≤ s.length
  | 0, _ => by unfold mxTo; omega
  | k + 1, hk => by
    have := mxTo_in s hi k (by omega)
    have := ((lcp_is s i k (by omega) (by omega) (by omega)).inside (by omega) (by omega) (by omega)).1
    unfold mxTo; omega
theorem key_eq (s : List UInt8) {a b L : Nat} (ha : a < s.length) (hb : b < s.length) (h : a ≠ b) : beginning s (L + 1) b = beginning s (L + 1) a ↔ L < lcp s a b := by
  have hl := lcp_is s a b (by omega) (by omega) h
  constructor
  · intro e
    apply Decidable.byContradiction
    intro q
    have h1 := (eq_iff_ch _ _).1 e (lcp s a b)
    unfold beginning at h1
    rw [ch_begin, ch_begin, if_pos (by omega), if_pos (by omega)] at h1
    exact hl.diff h1.symm
  · intro q
    refine (eq_iff_ch _ _).2 fun t => ?_
    unfold beginning
    rw [ch_begin, ch_begin]
    split
    · exact (hl.same t (by omega)).symm
    · rfl
theorem countP_congr' {P Q : Nat → Bool} {n : Nat} (h : ∀ a, a < n → (P a = true ↔ Q a = true)) : (List.range n).countP P = (List.range n).countP Q := by
  refine List.countP_congr fun a ha => h a (List.mem_range.1 ha)
theorem sums_same (s : List UInt8) : sumF (fun i => mxTo s i i) s.length = sumF (fun k => (overL s).getD k 0) s.length := by
  rw [layers (fun i => mxTo s i i) s.length s.length (fun i hi => by have := mxTo_in s hi i (Nat.le_refl _); show mxTo s i i ≤ _; omega)]
  rw [layers (fun k => (overL s).getD k 0) s.length s.length (fun k hk => by have := over_in s k hk; show (overL s).getD k 0 ≤ _; omega)]
  refine sumF_congr _ fun L _ => ?_
  have e1 : (List.range s.length).countP (fun a => decide (L < mxTo s a a)) = (List.range s.length).countP (fun a => decide (∃ q, q < a ∧ beginning s (L + 1) q = beginning s (L + 1) a)) := by
    refine countP_congr' fun a ha => ?_
    rw [decide_eq_true_eq, decide_eq_true_eq, mxTo_lt]
    constructor
    · rintro ⟨b, hb, q⟩; exact ⟨b, hb, (key_eq s ha (by omega) (by omega)).2 q⟩
    · rintro ⟨b, hb, q⟩; exact ⟨b, hb, (key_eq s ha (by omega) (by omega)).1 q⟩
  have e2 : (List.range s.length).countP (fun k => decide (L < (overL s).getD k 0)) = (List.range s.length).countP (fun k => decide (∃ q, q < k ∧ beginning s (L + 1) ((sufOrd s).getD q 0) = beginning s (L + 1) ((sufOrd s).getD k 0))) := by
    refine countP_congr' fun k hk => ?_
    rw [decide_eq_true_eq, decide_eq_true_eq]
    have lk := ord_lt s k hk
    have ne : ∀ q, q < k → (sufOrd s).getD k 0 ≠ (sufOrd s).getD q 0 := fun q hq e => by have := ord_inj s hk (by omega) e; omega
    constructor
    · intro h
      have h0 : k ≠ 0 := fun e => by rw [e, overL_at s 0 (by omega), if_pos rfl] at h; omega
      have lq := ord_lt s (k - 1) (by omega)
      refine ⟨k - 1, by omega, (key_eq s lk lq (ne _ (by omega))).2 ?_⟩
      rw [overL_at s k hk, if_neg h0] at h
      rw [lcp_symm s _ _ (by omega) (by omega) (ne _ (by omega))]
      exact h
    · rintro ⟨q, hq, e⟩
      have lq := ord_lt s q (by omega)
      have h1 := (key_eq s lk lq (ne _ hq)).1 e
      rw [lcp_symm s _ _ (by omega) (by omega) (ne _ hq)] at h1
      have := lcp_up s hq hk
      omega
  rw [e1, e2, dup_count (fun q => beginning s (L + 1) q), dup_count (fun q => beginning s (L + 1) ((sufOrd s).getD q 0))]
  refine dup_perm ?_
  refine (List.reverse_perm _).trans (List.Perm.trans ?_ (List.reverse_perm _).symm)
  have e3 : (List.range s.length).map (fun q => beginning s (L + 1) ((sufOrd s).getD q 0)) = (sufOrd s).map (fun a => beginning s (L + 1) a) := by
    refine List.ext_getElem (by simp [sufOrd_length]) fun i h1 h2 => ?_
    simp only [List.length_map, List.length_range] at h1
    simp [List.getElem?_eq_getElem (show i < (sufOrd s).length by rw [sufOrd_length]; exact h1)]
  rw [e3]
  exact ((sufOrd_isOrd s).perm.map _).symm
theorem sumTo_F (s : List UInt8) : ∀ k, sumTo (overL s) k = sumF (fun k => (overL s).getD k 0) k
  | 0 => rfl
  | k + 1 => by unfold sumTo sumF; rw [sumTo_F s k]
/-- the reference's count -/
def refSum (t : ByteArray) (i : Nat) : Int := sumF (fun a => t.size - a - mxTo t.data.toList a a) i
theorem refdis_l1 (t : ByteArray) (ht : t.size ≤ 4096) (i : Nat) (hi : i < t.size) (x : Nat) (hx : x ≤ 16777216) (r : Int)
    (hgo : Ev (fun K => silversideref07_Distinct.l0 K t ((x + (t.size - i - mxTo t.data.toList i i) : Nat) : Int) ((i + 1 : Nat) : Int)) r) :
    ∀ (d k : Nat), k + d = i → Ev (fun K => silversideref07_Distinct.l1 K t (x : Int) (i : Int) (mxTo t.data.toList i k : Int) (k : Int)) r := by
  have hl := data_length t
  intro d
  induction d with
  | zero =>
    intro k hk
    obtain rfl : k = i := by omega
    have hin := mxTo_in t.data.toList (i := k) (by omega) k (Nat.le_refl _)
    refine Ev.step (fun K => by rw [silversideref07_Distinct.l1, if_neg (by omega), w64 (x := (x : Int) + (t.size : Int)) (by omega) (by omega), w64 (x := (x : Int) + (t.size : Int) - (k : Int)) (by omega) (by omega), w64 (x := (k : Int) + 1) (by omega) (by omega), w64 (by omega) (by omega)]) ?_
    rw [show (x : Int) + (t.size : Int) - (k : Int) - (mxTo t.data.toList k k : Int) = ((x + (t.size - k - mxTo t.data.toList k k) : Nat) : Int) by omega]
    exact hgo
  | succ d ih =>
    intro k hk
    have hc := common_ev t t (by omega) (by omega) i k (by omega) (by omega)
    rw [cpl_at t hi (by omega) (by omega)] at hc
    refine Ev.step (fun K => by rw [silversideref07_Distinct.l1, if_pos (by omega)]) (Ev.bind hc ?_)
    rw [mx_nat, w64 (by omega) (by omega)]
    exact ih (k + 1) (by omega)
theorem refdis_l0 (t : ByteArray) (ht : t.size ≤ 4096) : ∀ (d i : Nat), i + d = t.size → Ev (fun K => silversideref07_Distinct.l0 K t ((sumF (fun a => t.size - a - mxTo t.data.toList a a) i : Nat) : Int) (i : Int)) ((sumF (fun a => t.size - a - mxTo t.data.toList a a) t.size : Nat) : Int) := by
  have bound : ∀ i, i ≤ t.size → sumF (fun a => t.size - a - mxTo t.data.toList a a) i ≤ i * 4096 := by
    intro i
    induction i with
    | zero => intro _; exact Nat.le_refl _
    | succ i ih => intro hi; have := ih (by omega); unfold sumF; rw [Nat.succ_mul]; omega
  intro d
  induction d with
  | zero =>
    intro i hi
    obtain rfl : i = t.size := by omega
    exact Ev.step (fun K => by rw [silversideref07_Distinct.l0, if_neg (by omega)]) (Ev.now _)
  | succ d ih =>
    intro i hi
    have hb := bound i (by omega)
    refine Ev.step (fun K => by rw [silversideref07_Distinct.l0, if_pos (by omega)]) ?_
    exact refdis_l1 t ht i (by omega) (sumF (fun a => t.size - a - mxTo t.data.toList a a) i) (by omega) _ (ih (i + 1) (by omega)) i 0 (by omega)
theorem tri_sum (n : Nat) : ∀ i, i ≤ n → 2 * sumF (fun a => n - a) i = i * (2 * n - i + 1)
  | 0, _ => by simp [sumF]
  | i + 1, h => by
    have := tri_sum n i (by omega)
    unfold sumF
    rw [Nat.mul_add, this]
    obtain ⟨d, rfl⟩ : ∃ d, n = i + 1 + d := ⟨n - (i + 1), by omega⟩
    rw [show 2 * (i + 1 + d) - i + 1 = i + 3 + 2 * d by omega, show 2 * (i + 1 + d) - (i + 1) + 1 = i + 2 + 2 * d by omega, show i + 1 + d - i = 1 + d by omega, show (i + 1) * (i + 2 + 2 * d) = i * (i + 2 + 2 * d) + (i + 2 + 2 * d) from Nat.succ_mul _ _]
    have : i * (i + 3 + 2 * d) = i * (i + 2 + 2 * d) + i := by rw [show i + 3 + 2 * d = (i + 2 + 2 * d) + 1 by omega, Nat.mul_succ]
    omega
theorem refdis_ev (t : ByteArray) (ht : t.size ≤ 4096) : Ev (fun K => silversideref07_Distinct.f K t) (distinctA t) := by
  have hl := data_length t
  have h := refdis_l0 t ht t.size 0 (by omega)
  have e : ((sumF (fun a => t.size - a - mxTo t.data.toList a a) t.size : Nat) : Int) = distinctA t := by
    unfold distinctA
    have h1 : sumF (fun a => (t.size - a - mxTo t.data.toList a a) + mxTo t.data.toList a a) t.size = sumF (fun a => t.size - a) t.size :=
      sumF_congr _ fun a ha => by have := mxTo_in t.data.toList (i := a) (by omega) a (Nat.le_refl _); omega
    rw [sumF_add] at h1
    have h2 := tri_sum t.size t.size (Nat.le_refl _)
    have h3 := sums_same t.data.toList
    rw [hl] at h3
    rw [h3] at h1
    have h4 := sumTo_F t.data.toList t.size
    rw [show 2 * t.size - t.size + 1 = t.size + 1 by omega] at h2
    have h5 : t.size * (t.size + 1) / 2 = sumF (fun a => t.size - a) t.size := by omega
    rw [h5, ← h1, h4]
    omega
  rw [← e]
  exact h
end Go.Proofs.Ytppelnlocfcgfaa.P
namespace Go.Proofs.Ytppelnlocfcgfaa.Pure
open Go.RowKit Go.Proofs.Ytppelnlocfcgfaa.P Go.Proofs.YtppelnlocfcgfaaW.PrintWords Go.Proofs.YtppelnlocfcgfaaW.PrintLast
open Go.Proofs.Fnd
theorem FindFinds : silversidelaw07_FindFinds.Pure := by
  intro a0 a1 _ hp
  refine Ev.rounds ?_
  unfold silversidelaw07_FindFinds.f
  have hm := mn_nat a0.size 400
  rw [show ((400 : Nat) : Int) = 400 from rfl] at hm
  rw [hm]
  refine ev_pos (by omega) (ev_pos (by omega) ?_)
  rw [Int.toNat_natCast]
  have ht : (a0.extract 0 (min a0.size 400)).size ≤ 4096 := by rw [ByteArray.size_extract]; omega
  generalize a0.extract 0 (min a0.size 400) = t at *
  have hf : find_Index_Find.f t (ordI t) (overI t) a1 = some (nI (occL t.data.toList a1.data.toList t.data.toList.length)) := by
    unfold find_Index_Find.f
    rw [if_pos ⟨ht, hp, rfl⟩]; rfl
  have hc := count_occ t a1 ht hp
  have hl : ((nI (occL t.data.toList a1.data.toList t.data.toList.length)).length : Int) = (occN t.data.toList a1.data.toList : Int) := by rw [nI_length, occL_len]
  have hle := occL_le t.data.toList a1.data.toList t.data.toList.length
  refine Ev.bind (find_New_ev t ht) (Ev.bind (reffind_ev t a1 (by omega) hp) (ev_pos (by trivial) ?_))
  dsimp only
  simp only [hf, hc, Option.bind_some]
  refine Ev.bind (ints_ev _ (by rw [nI_length]; have := data_length t; omega)) (ev_pos rfl (ev_pos hl.symm (Ev.bind awake_ev (Ev.now _))))
end Go.Proofs.Ytppelnlocfcgfaa.Pure
