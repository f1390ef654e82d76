/- Proved here: what functions that the law reaches compute, and plain laws of that. No conditions but those that the theorems state. -/
import Derived.Test.YtppelnlocfcgfaaProg
import Derived.Below
import Derived.Deep.Draws
import Derived.Deep.AppendLies
import Derived.Maps.AppendAt
import Derived.OwnWalk
import Derived.Laws.BytesArg
import Derived.Laws.MakeOwn
import Derived.Laws.OwnMore
import Derived.Deep.OwnRows
import Derived.Tactics
import Derived.Lib.ConvBytes
import Derived.Laws.Slices
import Derived.WalkKit
import Derived.KernelRfl
import Derived.RowKit3
import Derived.Deep.LoopGhost
import Derived.Deep.QuietTactic
import Derived.BigQuiet
import Derived.WideLaws
import Derived.Deep.DeepCutAuto
import Derived.Deep.CutBlock
import Derived.Deep.RegionHeld3
import Derived.Laws.Rows
import Derived.Lib.AppendStr
import Derived.ArgAppend
import Derived.Laws.IdiomCopy
import Derived.OrdersHeld
import Derived.Laws.BitsLemmas
import Derived.RowKit
import Derived.Test.YtppelnlocfcgfaaV1
import Derived.Outline
import Derived.Deep.DeepMust
import Derived.Laws.CopyOwn
set_option linter.unusedVariables false
set_option linter.unusedSimpArgs false
namespace Go.Proofs.Ytppelnlocfcgfaa.P
open Go.RowKit Go.Proofs.YtppelnlocfcgfaaW.PrintWords Go.Proofs.YtppelnlocfcgfaaW.PrintLast Go.Proofs.YtppelnlocfcgfaaW.PrintMore
attribute [local go_sem] max2_int min2_int max_two min_two max_three min_three max_four min_four   -- for this text's walks alone



def errW : Option Int → Value
  | none => .nilIface
  | some c => .iface 0 (.int .i64 c)
theorem errW_none : errW none = .nilIface := rfl
theorem errW_some (c : Int) : errW (some c) = .iface 0 (.int .i64 c) := rfl

theorem info3 : (Try.prog.info? 3).map (fun i => (i.zero, i.size, i.bytes)) = some (some (.int .i64 0), 1, 8) := by kernel_rfl
theorem info4 : (Try.prog.info? 4).map (fun i => (i.zero, i.size, i.bytes)) = some (some (.bool false), 1, 1) := by kernel_rfl
theorem info5 : (Try.prog.info? 5).map (fun i => (i.zero, i.size, i.bytes)) = some (some (.int .u8 0), 1, 1) := by kernel_rfl
-- the values' own types
def rd_L2 (xs : List (List Int)) (i : Int) : (List Int) := xs.getD i.toNat ([] : List Int)
theorem at_L2 {w : World} {A : Option Addr} {n : Nat} {xs : List (List Int)} (h : Kd.C (Kd.slice 3 (Kd.int .i64)) w A n xs) (i : Int) (h0 : 0 ≤ i) (h1 : i < n) : ∃ ad A0 c0, A = some ad ∧ w.cell? (ad.add i.toNat) = some (.slice A0 (rd_L2 xs i).length c0) ∧ (rd_L2 xs i).length ≤ c0 ∧ (Kd.int .i64).C w A0 (rd_L2 xs i).length (rd_L2 xs i) := by
  obtain ⟨ad, c, e, _, hK, hc0⟩ := Kd.C_get h ([] : List Int) i h0 h1
  have hc : ∀ j u, c[j]? = some u → w.cell? (ad.add (i.toNat * 1 + j)) = some u := hc0
  obtain ⟨A0, c0, rfl, l0, g0⟩ := hK
  exact ⟨ad, A0, c0, e, by have hq := hc 0 _ rfl; rwa [Nat.mul_one, Nat.add_zero] at hq, l0, g0⟩


/-! ### find_common: function 69 -/
def find_common.l0 : Nat → ByteArray → Int → Int → Int → Option (Int)
 | 0, _, _, _, _ => none
 | k + 1, x0, x1, x2, x3 => if (wrap64 (x1 + x3)) < (x0.size : Int) then (if (wrap64 (x2 + x3)) < (x0.size : Int) then (if 0 ≤ (wrap64 (x1 + x3)) then (if 0 ≤ (wrap64 (x2 + x3)) then (if (bt x0 (wrap64 (x1 + x3))) = (bt x0 (wrap64 (x2 + x3))) then (find_common.l0 k x0 x1 x2 (wrap64 (x3 + 1))) else (some x3)) else (none)) else (none)) else (some x3)) else (some x3)
def find_common.f (k : Nat) (a0 : ByteArray) (a1 : Int) (a2 : Int) (a3 : Int) : Option (Int) := find_common.l0 k a0 a1 a2 a3
theorem find_common.mono_l : ∀ k, (∀ y0 y1 y2 y3, LeO (find_common.l0 k y0 y1 y2 y3) (find_common.l0 (k + 1) y0 y1 y2 y3))
 | 0 => fun _ _ _ _ r h => by simp [find_common.l0] at h
 | k + 1 => by
  have ih0 := find_common.mono_l k
  ·intro y0 y1 y2 y3
   unfold find_common.l0
   repeat' first
   | (with_reducible exact ih0 _ _ _ _)
   | (with_reducible exact LeO.refl _)
   | (with_reducible exact LeO.none _)
   | (with_reducible refine LeO.ite ?_ ?_)
   | (with_reducible refine LeO.bind ?_ (fun _ => ?_))
   | exact ih0 _ _ _ _
   | exact LeO.none _
   | refine LeO.ite ?_ ?_
   | refine LeO.bind ?_ (fun _ => ?_)
theorem find_common.mono : ∀ a0 a1 a2 a3 k, LeO (find_common.f k a0 a1 a2 a3) (find_common.f (k + 1) a0 a1 a2 a3) := by
 intro a0 a1 a2 a3 k
 have ih0 := find_common.mono_l k
 unfold find_common.f
 repeat' first
   | (with_reducible exact ih0 _ _ _ _)
   | (with_reducible exact LeO.refl _)
   | (with_reducible exact LeO.none _)
   | (with_reducible refine LeO.ite ?_ ?_)
   | (with_reducible refine LeO.bind ?_ (fun _ => ?_))
   | exact ih0 _ _ _ _
   | exact LeO.none _
   | refine LeO.ite ?_ ?_
   | refine LeO.bind ?_ (fun _ => ?_)
set_option maxHeartbeats 8000000 in
set_option maxRecDepth 100000 in
theorem find_common.calls (k : Nat) (a0 : ByteArray) (a1 : Int) (a2 : Int) (a3 : Int) (r : Int) (w : World) (h : find_common.f k a0 a1 a2 a3 = some r) :
  Calls Try.prog 69 #[.string a0, .int .i64 a1, .int .i64 a2, .int .i64 a3] w fun e w' => e = .returned (.int .i64 r) ∧ Drawn0 w w' := by
 have H : (find_common.l0 k a0 a1 a2 a3) = some r := h
 clear h
 have H' := Aside0.mk H
 clear H
 go_enter Try.func69, Try.ntmps69
 go_wp2
 repeat (go_quiet (fail); try go_wp2)
 go_loopg [3] k (fun kq v3 w' => ∃ (x3_1 : Int), v3 = .int .i64 x3_1 ∧ Aside0 (find_common.l0 kq a0 a1 a2 x3_1 = some r) ∧ Aside0 (kq ≤ k) ∧ Drawn0 w w')
 case atStart => exact ⟨(a3), (by first | rfl | (simp; done) | (simp [*]; done)), H', ⟨Nat.le_refl _⟩, by repeat (first | exact Drawn0.refl _ | apply Drawn0.step)⟩
 case round =>
  clear H'
  try clear p2
  obtain ⟨x3_1, rfl, HA, HK1, ⟨m1, rfl⟩⟩ := hrel
  cases gk with
  | zero => exact absurd HA.out (by simp [find_common.l0])
  | succ k1 =>
   have H := HA.out
   clear HA
   simp only [find_common.l0] at H
   by_cases c5 : (wrap64 (a1 + x3_1)) < (a0.size : Int)
   ·rw [if_pos c5] at H
    have c5b0 : decide ((wrap64 (a1 + x3_1)) < (a0.size : Int)) = true := decide_eq_true c5
    clear c5
    by_cases c6 : (wrap64 (a2 + x3_1)) < (a0.size : Int)
    ·rw [if_pos c6] at H
     have c6b0 : decide ((wrap64 (a2 + x3_1)) < (a0.size : Int)) = true := decide_eq_true c6
     clear c6
     obtain ⟨ji7, hji7⟩ : ∃ j_ : Int, (wrap64 (a1 + x3_1)) = j_ := ⟨_, rfl⟩
     replace H : (if 0 ≤ (ji7) then (if 0 ≤ (wrap64 (a2 + x3_1)) then (if (bt a0 (ji7)) = (bt a0 (wrap64 (a2 + x3_1))) then (find_common.l0 k1 a0 a1 a2 (wrap64 (x3_1 + 1))) else (some x3_1)) else (none)) else (none)) = some r := by first | (rw [hji7] at H; exact H) | (simp only [hji7] at H ⊢; exact H)
     (try rw [hji7] at c5b0)
     have hji7w : (IntKind.i64.wrap (a1 + x3_1)) = ji7 := (i64_w _).trans hji7
     by_cases c8 : 0 ≤ (ji7)
     ·rw [if_pos c8] at H
      have c8b0 : decide (0 ≤ (ji7)) = true := decide_eq_true c8
      clear c8
      obtain ⟨ji10, hji10⟩ : ∃ j_ : Int, (wrap64 (a2 + x3_1)) = j_ := ⟨_, rfl⟩
      replace H : (if 0 ≤ (ji10) then (if (bt a0 (ji7)) = (bt a0 (ji10)) then (find_common.l0 k1 a0 a1 a2 (wrap64 (x3_1 + 1))) else (some x3_1)) else (none)) = some r := by first | (rw [hji10] at H; exact H) | (simp only [hji10] at H ⊢; exact H)
      (try rw [hji10] at c6b0)
      have hji10w : (IntKind.i64.wrap (a2 + x3_1)) = ji10 := (i64_w _).trans hji10
      by_cases c11 : 0 ≤ (ji10)
      ·rw [if_pos c11] at H
       have c11b0 : decide (0 ≤ (ji10)) = true := decide_eq_true c11
       clear c11
       by_cases c13 : (bt a0 (ji7)) = (bt a0 (ji10))
       ·rw [if_pos c13] at H
        have c13b0 : ((bt a0 (ji7)) == (bt a0 (ji10))) = true := beq_iff_eq.mpr c13
        have c13b1 : ((bt a0 (ji7)) != (bt a0 (ji10))) = false := bne_eq_false_iff_eq.mpr c13
        clear c13
        have H' := Aside0.mk H
        clear H
        have p9 : 0 ≤ ((ji7) : Int) := of_decide_eq_true (by first | (with_reducible assumption) | assumption)
        have q9 : (ji7) < (a0.size : Int) := of_decide_eq_true (by first | (with_reducible assumption) | assumption)
        have hx9 := bt_at a0 (ji7)
        replace p9 := eq_true p9
        replace q9 := eq_true q9
        have p12 : 0 ≤ ((ji10) : Int) := of_decide_eq_true (by first | (with_reducible assumption) | assumption)
        have q12 : (ji10) < (a0.size : Int) := of_decide_eq_true (by first | (with_reducible assumption) | assumption)
        have hx12 := bt_at a0 (ji10)
        replace p12 := eq_true p12
        replace q12 := eq_true q12
        go_wp2
        repeat (go_quiet (fail); try go_wp2)
        go_roundg k1
        case measure => have := HK1.out; omega
        case rel => exact ⟨(wrap64 (x3_1 + 1)), (by first | rfl | (simp; done) | (simp [*]; done)), H', ⟨by have := HK1.out; omega⟩, by repeat (first | exact Drawn0.refl _ | apply Drawn0.step)⟩
       ·rw [if_neg c13] at H
        have c13b0 : ((bt a0 (ji7)) == (bt a0 (ji10))) = false := beq_eq_false_iff_ne.mpr c13
        have c13b1 : ((bt a0 (ji7)) != (bt a0 (ji10))) = true := bne_iff_ne.mpr c13
        obtain rfl := Option.some.inj H
        have p9 : 0 ≤ ((ji7) : Int) := of_decide_eq_true (by first | (with_reducible assumption) | assumption)
        have q9 : (ji7) < (a0.size : Int) := of_decide_eq_true (by first | (with_reducible assumption) | assumption)
        have hx9 := bt_at a0 (ji7)
        replace p9 := eq_true p9
        replace q9 := eq_true q9
        have p12 : 0 ≤ ((ji10) : Int) := of_decide_eq_true (by first | (with_reducible assumption) | assumption)
        have q12 : (ji10) < (a0.size : Int) := of_decide_eq_true (by first | (with_reducible assumption) | assumption)
        have hx12 := bt_at a0 (ji10)
        replace p12 := eq_true p12
        replace q12 := eq_true q12
        go_wp2
        repeat (go_quiet (fail); try go_wp2)
        go_ret
        exact ⟨by first | rfl | (simp; done) | (simp only [← hji7, ← hji10] <;> (first | rfl | simp)) | (simp [*]; done), by repeat (first | exact Drawn0.refl _ | apply Drawn0.step)⟩
      ·rw [if_neg c11] at H
       exact absurd H (by simp)
     ·rw [if_neg c8] at H
      exact absurd H (by simp)
    ·rw [if_neg c6] at H
     have c6b0 : decide ((wrap64 (a2 + x3_1)) < (a0.size : Int)) = false := decide_eq_false c6
     clear c6
     obtain rfl := Option.some.inj H
     go_wp2
     repeat (go_quiet (fail); try go_wp2)
     go_ret
     exact ⟨by first | rfl | (simp; done) | (simp [*]; done), by repeat (first | exact Drawn0.refl _ | apply Drawn0.step)⟩
   ·rw [if_neg c5] at H
    have c5b0 : decide ((wrap64 (a1 + x3_1)) < (a0.size : Int)) = false := decide_eq_false c5
    clear c5
    obtain rfl := Option.some.inj H
    go_wp2
    repeat (go_quiet (fail); try go_wp2)
    go_ret
    exact ⟨by first | rfl | (simp; done) | (simp [*]; done), by repeat (first | exact Drawn0.refl _ | apply Drawn0.step)⟩


/-! ### find_overlaps: function 55 -/
mutual
def find_overlaps.l0 : Nat → ByteArray → List Int → List Int → List Int → Int → Int → Option (List Int)
 | 0, _, _, _, _, _, _ => none
 | k + 1, x0, x1, x5, x14, x15, x16 => if x16 < x15 then (if 0 ≤ x16 then (if x16 < (x14.length : Int) then (if 0 ≤ (rd x14 x16) then (if (rd x14 x16) < (x5.length : Int) then (find_overlaps.l0 k x0 x1 (x5.set ((rd x14 x16) : Int).toNat x16) x14 x15 (wrap64 (x16 + 1))) else (none)) else (none)) else (none)) else (none)) else (if 0 ≤ (x0.size : Int) then (if ((x0.size : Int) : Int).toNat ≤ 35184372088832 then (find_overlaps.l1 k x0 x1 x5 (List.replicate ((x0.size : Int) : Int).toNat 0) 0 (x0.size : Int) 0) else (none)) else (none))
def find_overlaps.l1 : Nat → ByteArray → List Int → List Int → List Int → Int → Int → Int → Option (List Int)
 | 0, _, _, _, _, _, _, _ => none
 | k + 1, x0, x1, x5, x8, x9, x30, x31 => if x31 < x30 then (if 0 ≤ x31 then (if x31 < (x5.length : Int) then (if (rd x5 x31) = 0 then (find_overlaps.l1 k x0 x1 x5 x8 0 x30 (wrap64 (x31 + 1))) else (if 0 ≤ (wrap64 ((rd x5 x31) - 1)) then (if (wrap64 ((rd x5 x31) - 1)) < (x1.length : Int) then ((find_common.f k x0 x31 (rd x1 (wrap64 ((rd x5 x31) - 1))) x9).bind fun t112 => (if 0 ≤ (rd x5 x31) then (if (rd x5 x31) < (x8.length : Int) then (find_overlaps.l1 k x0 x1 x5 (x8.set ((rd x5 x31) : Int).toNat t112) (mx 0 (wrap64 (t112 - 1))) x30 (wrap64 (x31 + 1))) else (none)) else (none))) else (none)) else (none))) else (none)) else (none)) else (some x8)
end
def find_overlaps.f (k : Nat) (a0 : ByteArray) (l1 : List Int) : Option (List Int) := if 0 ≤ (a0.size : Int) then (if ((a0.size : Int) : Int).toNat ≤ 35184372088832 then (find_overlaps.l0 k a0 l1 (List.replicate ((a0.size : Int) : Int).toNat 0) l1 (l1.length : Int) 0) else (none)) else (none)
theorem find_overlaps.mono_l : ∀ k, (∀ y0 y1 y2 y3 y4 y5, LeO (find_overlaps.l0 k y0 y1 y2 y3 y4 y5) (find_overlaps.l0 (k + 1) y0 y1 y2 y3 y4 y5)) ∧ (∀ y0 y1 y2 y3 y4 y5 y6, LeO (find_overlaps.l1 k y0 y1 y2 y3 y4 y5 y6) (find_overlaps.l1 (k + 1) y0 y1 y2 y3 y4 y5 y6))
 | 0 => ⟨fun _ _ _ _ _ _ r h => by simp [find_overlaps.l0] at h, fun _ _ _ _ _ _ _ r h => by simp [find_overlaps.l1] at h⟩
 | k + 1 => by
  obtain ⟨ih0, ih1⟩ := find_overlaps.mono_l k
  refine ⟨?_, ?_⟩
  ·intro y0 y1 y2 y3 y4 y5
   unfold find_overlaps.l0
   repeat' first
   | (with_reducible exact ih0 _ _ _ _ _ _)
   | (with_reducible exact ih1 _ _ _ _ _ _ _)
   | (with_reducible exact find_common.mono _ _ _ _ _)
   | (with_reducible exact LeO.refl _)
   | (with_reducible exact LeO.none _)
   | (with_reducible refine LeO.ite ?_ ?_)
   | (with_reducible refine LeO.bind ?_ (fun _ => ?_))
   | exact ih0 _ _ _ _ _ _
   | exact ih1 _ _ _ _ _ _ _
   | exact find_common.mono _ _ _ _ _
   | exact LeO.none _
   | refine LeO.ite ?_ ?_
   | refine LeO.bind ?_ (fun _ => ?_)
  ·intro y0 y1 y2 y3 y4 y5 y6
   unfold find_overlaps.l1
   repeat' first
   | (with_reducible exact ih0 _ _ _ _ _ _)
   | (with_reducible exact ih1 _ _ _ _ _ _ _)
   | (with_reducible exact find_common.mono _ _ _ _ _)
   | (with_reducible exact LeO.refl _)
   | (with_reducible exact LeO.none _)
   | (with_reducible refine LeO.ite ?_ ?_)
   | (with_reducible refine LeO.bind ?_ (fun _ => ?_))
   | exact ih0 _ _ _ _ _ _
   | exact ih1 _ _ _ _ _ _ _
   | exact find_common.mono _ _ _ _ _
   | exact LeO.none _
   | refine LeO.ite ?_ ?_
   | refine LeO.bind ?_ (fun _ => ?_)
theorem find_overlaps.mono : ∀ a0 a1 k, LeO (find_overlaps.f k a0 a1) (find_overlaps.f (k + 1) a0 a1) := by
 intro a0 a1 k
 obtain ⟨ih0, ih1⟩ := find_overlaps.mono_l k
 unfold find_overlaps.f
 repeat' first
   | (with_reducible exact ih0 _ _ _ _ _ _)
   | (with_reducible exact ih1 _ _ _ _ _ _ _)
   | (with_reducible exact find_common.mono _ _ _ _ _)
   | (with_reducible exact LeO.refl _)
   | (with_reducible exact LeO.none _)
   | (with_reducible refine LeO.ite ?_ ?_)
   | (with_reducible refine LeO.bind ?_ (fun _ => ?_))
   | exact ih0 _ _ _ _ _ _
   | exact ih1 _ _ _ _ _ _ _
   | exact find_common.mono _ _ _ _ _
   | exact LeO.none _
   | refine LeO.ite ?_ ?_
   | refine LeO.bind ?_ (fun _ => ?_)
set_option maxHeartbeats 8000000 in
set_option maxRecDepth 100000 in
theorem find_overlaps.calls (k : Nat) (a0 : ByteArray) (A1 : Option Addr) (c1 : Nat) (l1 : List Int) (r : List Int) (w : World) (hr1 : Kd.C (Kd.int .i64) w A1 l1.length l1) (hc1 : l1.length ≤ c1) (h : find_overlaps.f k a0 l1 = some r) :
  Calls Try.prog 55 #[.string a0, .slice A1 l1.length c1] w fun e w' => ∃ v0_ : Value, e = .returned (v0_) ∧ Kd.R (Kd.int .i64) 3 w' w.heap.size (fun _ => True) v0_ r ∧ Below w.heap.size w w' := by
 have HR1 := Aside0.mk hr1
 have HC1 := Aside0.mk hc1
 clear hr1 hc1
 have HB := Aside0.mk (Below.refl w.heap.size w)
 have H : (if 0 ≤ (a0.size : Int) then (if ((a0.size : Int) : Int).toNat ≤ 35184372088832 then (find_overlaps.l0 k a0 l1 (List.replicate ((a0.size : Int) : Int).toNat 0) l1 (l1.length : Int) 0) else (none)) else (none)) = some r := h
 clear h
 by_cases c3 : 0 ≤ (a0.size : Int)
 ·rw [if_pos c3] at H
  have c3b0 := eq_true c3
  have c3b1 : decide (0 ≤ (a0.size : Int)) = true := decide_eq_true c3
  clear c3
  by_cases c4 : ((a0.size : Int) : Int).toNat ≤ 35184372088832
  ·rw [if_pos c4] at H
   have c4b0 := eq_true c4
   have c4b1 : decide (((a0.size : Int) : Int).toNat ≤ 35184372088832) = true := decide_eq_true c4
   clear c4
   obtain ⟨y101, hy101⟩ : ∃ y_ : List Int, y_ = (List.replicate ((a0.size : Int) : Int).toNat 0) := ⟨_, rfl⟩
   replace H : (find_overlaps.l0 k a0 l1 y101 l1 (l1.length : Int) 0) = some r := by first | (rw [hy101]; with_reducible exact H) | (have H2_ := (Option.bind_some _ _).symm.trans H; rw [hy101]; with_reducible exact H2_) | (have H2_ := (Option.bind_some _ _).symm.trans H; with_reducible exact H2_) | with_reducible exact H | (rw [hy101]; exact H) | exact H
   have Ny101 := Aside0.mk hy101
   clear hy101
   have H' := Aside0.mk H
   clear H
   go_enter Try.func55, Try.ntmps55
   go_wp2_with (first | ((with_reducible refine gate_dst (N := 13) rfl ?_); refine Kd.R_make (Kd.int .i64) _ 3 rfl (N := 13) rfl 22 _ _ rfl (a0.size : Int) rfl rfl Try.underlying22 (.int .i64 0) 8 info3 rfl (by decide) (by omega) 0 (ok := fun _ => True) (okp := fun _ => True) rfl (fun _ hk => hk) trivial (of_decide_eq_true (by first | (with_reducible assumption) | assumption)) (Nat.le_trans (Nat.mul_le_mul_right _ (of_decide_eq_true (by first | (with_reducible assumption) | assumption) : (a0.size : Int).toNat ≤ 35184372088832)) (by omega)) (Below.refl _ _) (Nat.le_refl _) ?_; intro v102 w5 ho6 hb hg_ hnew_; clear hg_ hnew_; (first | rw [← Ny101.out] at ho6 | (simp only [Int.reduceToNat] at ho6; rw [← Ny101.out] at ho6)); have n0_ := Aside0.mk (Kd.R_lower ho6 (below_size (by repeat (first | (with_reducible first | exact HB.out | apply below_alloc | apply pw_below_drewN | apply below_drew1) | exact HB.out)))); have n1_ := Aside0.mk (below_step (by repeat (first | (with_reducible first | exact HB.out | apply below_alloc | apply pw_below_drewN | apply below_drew1) | exact HB.out)) hb); clear HB; have HO103 := n0_; have HB := n1_; clear n0_ n1_; clear hb ho6))
   go_loopg [16] k (fun kq v16 w' => ∃ (x5_1 : List Int) (x16_1 : Int), v16 = .int .i64 x16_1 ∧ Aside0 (find_overlaps.l0 kq a0 l1 x5_1 l1 (l1.length : Int) x16_1 = some r) ∧ Aside0 (kq ≤ k) ∧ Aside0 (Kd.R (Kd.int .i64) 3 w' w.heap.size (fun _ => True) v102 x5_1) ∧ Aside0 (Below w.heap.size w w'))
   case atStart => exact ⟨(y101), (0), (by first | rfl | (simp; done) | (simp [*]; done)), H', ⟨Nat.le_refl _⟩, ⟨by (with_reducible repeat (first | apply Kd.R_alloc | apply Kd.R_drewN | apply Kd.R_drew)); exact HO103.out⟩, ⟨by repeat (first | (with_reducible first | exact HB.out | apply below_alloc | apply pw_below_drewN | apply below_drew1) | exact HB.out)⟩⟩
   case round =>
    clear H'
    try clear c1
    try clear p2
    try clear c3
    try clear c3b0
    try clear c3b1
    try clear c4
    try clear c4b0
    try clear c4b1
    try clear c5
    obtain ⟨x5_1, x16_1, rfl, HA, HK1, HO_5, HB⟩ := hrel
    cases gk with
    | zero => exact absurd HA.out (by simp [find_overlaps.l0])
    | succ k1 =>
     have H := HA.out
     clear HA
     simp only [find_overlaps.l0] at H
     by_cases c7 : x16_1 < (l1.length : Int)
     ·rw [if_pos c7] at H
      have c7b0 : decide (x16_1 < (l1.length : Int)) = true := decide_eq_true c7
      clear c7
      by_cases c8 : 0 ≤ x16_1
      ·rw [if_pos c8] at H
       have c8b0 : decide (0 ≤ x16_1) = true := decide_eq_true c8
       clear c8
       by_cases c9 : x16_1 < (l1.length : Int)
       ·rw [if_pos c9] at H
        have c9b0 : decide (x16_1 < (l1.length : Int)) = true := decide_eq_true c9
        clear c9
        by_cases c10 : 0 ≤ (rd l1 x16_1)
        ·rw [if_pos c10] at H
         have c10b0 : decide (0 ≤ (rd l1 x16_1)) = true := decide_eq_true c10
         clear c10
         by_cases c11 : (rd l1 x16_1) < (x5_1.length : Int)
         ·rw [if_pos c11] at H
          have c11b0 : decide ((rd l1 x16_1) < (x5_1.length : Int)) = true := decide_eq_true c11
          clear c11
          obtain ⟨y105, hy105⟩ : ∃ y_ : List Int, y_ = (x5_1.set ((rd l1 x16_1) : Int).toNat x16_1) := ⟨_, rfl⟩
          replace H : (find_overlaps.l0 k1 a0 l1 y105 l1 (l1.length : Int) (wrap64 (x16_1 + 1))) = some r := by first | (rw [hy105]; with_reducible exact H) | (have H2_ := (Option.bind_some _ _).symm.trans H; rw [hy105]; with_reducible exact H2_) | (have H2_ := (Option.bind_some _ _).symm.trans H; with_reducible exact H2_) | with_reducible exact H | (rw [hy105]; exact H) | exact H
          have Ny105 := Aside0.mk hy105
          clear hy105
          have H' := Aside0.mk H
          clear H
          have p104 : 0 ≤ (x16_1 : Int) := of_decide_eq_true (by first | (with_reducible assumption) | assumption)
          have q104 : x16_1 < (l1.length : Int) := of_decide_eq_true (by first | (with_reducible assumption) | assumption)
          obtain ⟨ad104, e104, hx104_0⟩ := Kd.at_int HR1.out x16_1 p104 q104
          cases e104
          replace hx104_0 := (HB.out.cell (World.block_lt_of_cell? w _ hx104_0)).trans hx104_0
          replace p104 := eq_true p104
          replace q104 := eq_true q104
          have p12 : 0 ≤ ((rd l1 x16_1) : Int) := of_decide_eq_true (by first | (with_reducible assumption) | assumption)
          have q12 : ((rd l1 x16_1) : Int) < ((x5_1.length : Int) : Int) := of_decide_eq_true (by first | (with_reducible assumption) | assumption)
          obtain ⟨go12, co12, eo12, gb12, gl12, cl12, HG12⟩ := Kd.R_form HO_5.out (by omega)
          (first | cases eo12 | (injection eo12 with ea_ en_ ec_; (first | subst ea_ | (injection ea_ with ea_; subst ea_)); subst ec_; clear en_))
          have GB12 := Aside0.mk gb12
          have GG12 := Aside0.mk HG12
          clear gb12 gl12 HG12
          obtain ⟨hx12_0, hf12_0⟩ := Kd.R_celln 0 HO_5.out ((rd l1 x16_1) : Int) p12 q12
          replace p12 := eq_true p12
          replace q12 := eq_true q12
          have HP13 := Kd.R_putg HO_5.out ((rd l1 x16_1) : Int) x16_1
          go_wp2_with (first | ((with_reducible refine gate_store (t := 3) (p := 24) rfl ?_); refine store_event (t := 3) (p := 24) (v := ?vo_w14) (w1 := (wr.setCell ⟨go12, ((rd l1 x16_1) : Int).toNat, none⟩ (.int .i64 x16_1))) ?hg ?ho ?hn ?hr ?_; (case ho => rfl); (case hg => rfl); (case hn => rfl); (case hr => first | (go_simp; done) | (go_simp; rfl)); intro w14 hw; have hg : wr.grownBy w14 (some go12) := (by rw [hw]; exact HP13.2); have hp_ : Kd.R (Kd.int .i64) 3 w14 w.heap.size (fun _ => True) (.slice (some ⟨go12, 0, none⟩) x5_1.length co12) y105 := (by rw [hw, Ny105.out]; exact HP13.1); clear HP13; have n0_ := Aside0.mk (hp_); have n1_ := Aside0.mk ((by rw [hw]; exact below_set (HB.out) GB12.out : Below w.heap.size w w14)); clear HO_5; clear HB; have HO_5 := n0_; have HB := n1_; clear n0_ n1_; clear hg hw hp_))
          go_roundg k1
          case measure => have := HK1.out; omega
          case rel => exact ⟨(y105), (wrap64 (x16_1 + 1)), (by first | rfl | (simp; done) | (simp [*]; done)), H', ⟨by have := HK1.out; omega⟩, ⟨by (with_reducible repeat (first | apply Kd.R_alloc | apply Kd.R_drewN | apply Kd.R_drew)); exact HO_5.out⟩, ⟨by repeat (first | (with_reducible first | exact HB.out | apply below_alloc | apply pw_below_drewN | apply below_drew1) | exact HB.out)⟩⟩
         ·rw [if_neg c11] at H
          exact absurd H (by simp)
        ·rw [if_neg c10] at H
         exact absurd H (by simp)
       ·rw [if_neg c9] at H
        exact absurd H (by simp)
      ·rw [if_neg c8] at H
       exact absurd H (by simp)
     ·rw [if_neg c7] at H
      have c7b0 : decide (x16_1 < (l1.length : Int)) = false := decide_eq_false c7
      clear c7
      by_cases c15 : 0 ≤ (a0.size : Int)
      ·rw [if_pos c15] at H
       have c15b0 := eq_true c15
       have c15b1 : decide (0 ≤ (a0.size : Int)) = true := decide_eq_true c15
       clear c15
       by_cases c16 : ((a0.size : Int) : Int).toNat ≤ 35184372088832
       ·rw [if_pos c16] at H
        have c16b0 := eq_true c16
        have c16b1 : decide (((a0.size : Int) : Int).toNat ≤ 35184372088832) = true := decide_eq_true c16
        clear c16
        obtain ⟨y106, hy106⟩ : ∃ y_ : List Int, y_ = (List.replicate ((a0.size : Int) : Int).toNat 0) := ⟨_, rfl⟩
        replace H : (find_overlaps.l1 k1 a0 l1 x5_1 y106 0 (a0.size : Int) 0) = some r := by first | (rw [hy106]; with_reducible exact H) | (have H2_ := (Option.bind_some _ _).symm.trans H; rw [hy106]; with_reducible exact H2_) | (have H2_ := (Option.bind_some _ _).symm.trans H; with_reducible exact H2_) | with_reducible exact H | (rw [hy106]; exact H) | exact H
        have Ny106 := Aside0.mk hy106
        clear hy106
        have H' := Aside0.mk H
        clear H
        go_wp2_with (first | ((with_reducible refine gate_dst (N := 28) rfl ?_); refine Kd.R_make (Kd.int .i64) _ 3 rfl (N := 28) rfl 22 _ _ rfl (a0.size : Int) rfl rfl Try.underlying22 (.int .i64 0) 8 info3 rfl (by decide) (by omega) 0 (ok := fun _ => True) (okp := fun _ => True) rfl (fun _ hk => hk) trivial (of_decide_eq_true (by first | (with_reducible assumption) | assumption)) (Nat.le_trans (Nat.mul_le_mul_right _ (of_decide_eq_true (by first | (with_reducible assumption) | assumption) : (a0.size : Int).toNat ≤ 35184372088832)) (by omega)) (Below.refl _ _) (Nat.le_refl _) ?_; intro v107 w17 ho18 hb hg_ hnew_; clear hg_ hnew_; (first | rw [← Ny106.out] at ho18 | (simp only [Int.reduceToNat] at ho18; rw [← Ny106.out] at ho18)); have n0_ := Aside0.mk (Kd.R_elder' (by (with_reducible repeat (first | apply Kd.R_alloc | apply Kd.R_drewN | apply Kd.R_drew)); exact HO_5.out) (Kd.R_base ho18) hb); have n1_ := Aside0.mk (Kd.R_lower (Kd.R_new' ho18 (Kd.R_lt (by (with_reducible repeat (first | apply Kd.R_alloc | apply Kd.R_drewN | apply Kd.R_drew)); exact HO_5.out))) (below_size (by repeat (first | (with_reducible first | exact HB.out | apply below_alloc | apply pw_below_drewN | apply below_drew1) | exact HB.out)))); have n2_ := Aside0.mk (below_step (by repeat (first | (with_reducible first | exact HB.out | apply below_alloc | apply pw_below_drewN | apply below_drew1) | exact HB.out)) hb); clear HO_5; clear HB; have HO_5 := n0_; have HO108 := n1_; have HB := n2_; clear n0_ n1_ n2_; clear hb ho18))
        go_loopg [9, 31] k1 (fun kq v9 v31 w' => ∃ (x8_2 : List Int) (x9_2 : Int) (x31_2 : Int), v9 = .int .i64 x9_2 ∧ v31 = .int .i64 x31_2 ∧ Aside0 (find_overlaps.l1 kq a0 l1 x5_1 x8_2 x9_2 (a0.size : Int) x31_2 = some r) ∧ Aside0 (kq ≤ k1) ∧ Aside0 (Kd.R (Kd.int .i64) 3 w' w.heap.size (fun k_ => some k_ ≠ (v107 : Value).ownBlock) v102 x5_1) ∧ Aside0 (Kd.R (Kd.int .i64) 3 w' w.heap.size (fun k_ => some k_ ≠ (v102 : Value).ownBlock) v107 x8_2) ∧ Aside0 (Below w.heap.size w w'))
        case atStart => exact ⟨(y106), (0), (0), (by first | rfl | (simp; done) | (simp [*]; done)), (by first | rfl | (simp; done) | (simp [*]; done)), H', ⟨Nat.le_refl _⟩, ⟨by (with_reducible repeat (first | apply Kd.R_alloc | apply Kd.R_drewN | apply Kd.R_drew)); exact Kd.R_mono HO_5.out (fun _ hk => hk.2)⟩, ⟨by (with_reducible repeat (first | apply Kd.R_alloc | apply Kd.R_drewN | apply Kd.R_drew)); exact Kd.R_mono HO108.out (fun _ hk => hk.2)⟩, ⟨by repeat (first | (with_reducible first | exact HB.out | apply below_alloc | apply pw_below_drewN | apply below_drew1) | exact HB.out)⟩⟩
        case round =>
         clear H'
         try clear c1
         try clear p1
         try clear q1
         try clear hx1
         try clear p2
         try clear c3
         try clear c3b0
         try clear c3b1
         try clear c4
         try clear c4b0
         try clear c4b1
         try clear c5
         try clear p6
         try clear c7
         try clear c7b0
         try clear c8
         try clear c8b0
         try clear c9
         try clear c9b0
         try clear c10
         try clear c10b0
         try clear p10
         try clear q10
         try clear hx10
         try clear c11
         try clear c11b0
         try clear p12
         try clear q12
         try clear hx12
         try clear hf12
         try clear c15
         try clear c15b0
         try clear c15b1
         try clear c16
         try clear c16b0
         try clear c16b1
         try clear hx104_0
         try clear hx12_0
         try clear p104
         try clear p12
         try clear p2
         try clear q104
         try clear q12
         obtain ⟨x8_2, x9_2, x31_2, rfl, rfl, HA, HK2, HO_5, HO_8, HB⟩ := hrel
         cases gk with
         | zero => exact absurd HA.out (by simp [find_overlaps.l1])
         | succ k2 =>
          have H := HA.out
          clear HA
          simp only [find_overlaps.l1] at H
          by_cases c19 : x31_2 < (a0.size : Int)
          ·rw [if_pos c19] at H
           have c19b0 : decide (x31_2 < (a0.size : Int)) = true := decide_eq_true c19
           clear c19
           by_cases c20 : 0 ≤ x31_2
           ·rw [if_pos c20] at H
            have c20b0 : decide (0 ≤ x31_2) = true := decide_eq_true c20
            clear c20
            by_cases c21 : x31_2 < (x5_1.length : Int)
            ·rw [if_pos c21] at H
             have c21b0 : decide (x31_2 < (x5_1.length : Int)) = true := decide_eq_true c21
             clear c21
             by_cases c22 : (rd x5_1 x31_2) = 0
             ·rw [if_pos c22] at H
              have c22b0 : ((rd x5_1 x31_2) == 0) = true := beq_iff_eq.mpr c22
              have c22b1 : ((rd x5_1 x31_2) != 0) = false := bne_eq_false_iff_eq.mpr c22
              clear c22
              have H' := Aside0.mk H
              clear H
              obtain ⟨Ao23, co23, eo23⟩ := Kd.R_slice HO_5.out
              subst eo23
              have p109 : 0 ≤ (x31_2 : Int) := of_decide_eq_true (by first | (with_reducible assumption) | assumption)
              have q109 : x31_2 < (x5_1.length : Int) := of_decide_eq_true (by first | (with_reducible assumption) | assumption)
              obtain ⟨ad109, e109, hx109_0⟩ := Kd.at_int (Kd.R_reads' HO_5.out).2.2 x31_2 p109 q109
              cases e109
              replace p109 := eq_true p109
              replace q109 := eq_true q109
              go_wp2
              go_roundg k2
              case measure => have := HK1.out; have := HK2.out; omega
              case rel => exact ⟨(x8_2), (0), (wrap64 (x31_2 + 1)), (by first | rfl | (simp; done) | (simp [*]; done)), (by first | rfl | (simp; done) | (simp [*]; done)), H', ⟨by have := HK1.out; have := HK2.out; omega⟩, ⟨by (with_reducible repeat (first | apply Kd.R_alloc | apply Kd.R_drewN | apply Kd.R_drew)); exact HO_5.out⟩, ⟨by (with_reducible repeat (first | apply Kd.R_alloc | apply Kd.R_drewN | apply Kd.R_drew)); exact HO_8.out⟩, ⟨by repeat (first | (with_reducible first | exact HB.out | apply below_alloc | apply pw_below_drewN | apply below_drew1) | exact HB.out)⟩⟩
             ·rw [if_neg c22] at H
              have c22b0 : ((rd x5_1 x31_2) == 0) = false := beq_eq_false_iff_ne.mpr c22
              have c22b1 : ((rd x5_1 x31_2) != 0) = true := bne_iff_ne.mpr c22
              obtain ⟨ji24, hji24⟩ : ∃ j_ : Int, (wrap64 ((rd x5_1 x31_2) - 1)) = j_ := ⟨_, rfl⟩
              replace H : (if 0 ≤ (ji24) then (if (ji24) < (l1.length : Int) then ((find_common.f k2 a0 x31_2 (rd l1 (ji24)) x9_2).bind fun t112 => (if 0 ≤ (rd x5_1 x31_2) then (if (rd x5_1 x31_2) < (x8_2.length : Int) then (find_overlaps.l1 k2 a0 l1 x5_1 (x8_2.set ((rd x5_1 x31_2) : Int).toNat t112) (mx 0 (wrap64 (t112 - 1))) (a0.size : Int) (wrap64 (x31_2 + 1))) else (none)) else (none))) else (none)) else (none)) = some r := by first | (rw [hji24] at H; exact H) | (simp only [hji24] at H ⊢; exact H)
              have hji24w : (IntKind.i64.wrap ((rd x5_1 x31_2) - 1)) = ji24 := (i64_w _).trans hji24
              by_cases c25 : 0 ≤ (ji24)
              ·rw [if_pos c25] at H
               have c25b0 : decide (0 ≤ (ji24)) = true := decide_eq_true c25
               clear c25
               by_cases c26 : (ji24) < (l1.length : Int)
               ·rw [if_pos c26] at H
                have c26b0 : decide ((ji24) < (l1.length : Int)) = true := decide_eq_true c26
                clear c26
                replace H := Option.bind_eq_some_iff.mp H
                obtain ⟨t112, A270, H⟩ := H
                replace H : (if 0 ≤ (rd x5_1 x31_2) then (if (rd x5_1 x31_2) < (x8_2.length : Int) then (find_overlaps.l1 k2 a0 l1 x5_1 (x8_2.set ((rd x5_1 x31_2) : Int).toNat t112) (mx 0 (wrap64 (t112 - 1))) (a0.size : Int) (wrap64 (x31_2 + 1))) else (none)) else (none)) = some r := H
                have A27 := Aside0.mk A270
                clear A270
                by_cases c28 : 0 ≤ (rd x5_1 x31_2)
                ·rw [if_pos c28] at H
                 have c28b0 : decide (0 ≤ (rd x5_1 x31_2)) = true := decide_eq_true c28
                 clear c28
                 by_cases c29 : (rd x5_1 x31_2) < (x8_2.length : Int)
                 ·rw [if_pos c29] at H
                  have c29b0 : decide ((rd x5_1 x31_2) < (x8_2.length : Int)) = true := decide_eq_true c29
                  clear c29
                  obtain ⟨y114, hy114⟩ : ∃ y_ : List Int, y_ = (x8_2.set ((rd x5_1 x31_2) : Int).toNat t112) := ⟨_, rfl⟩
                  replace H : (find_overlaps.l1 k2 a0 l1 x5_1 y114 (mx 0 (wrap64 (t112 - 1))) (a0.size : Int) (wrap64 (x31_2 + 1))) = some r := by first | (rw [hy114]; with_reducible exact H) | (have H2_ := (Option.bind_some _ _).symm.trans H; rw [hy114]; with_reducible exact H2_) | (have H2_ := (Option.bind_some _ _).symm.trans H; with_reducible exact H2_) | with_reducible exact H | (rw [hy114]; exact H) | exact H
                  have Ny114 := Aside0.mk hy114
                  clear hy114
                  obtain ⟨ji31, hji31⟩ : ∃ j_ : Int, (mx 0 (wrap64 (t112 - 1))) = j_ := ⟨_, rfl⟩
                  replace H : (find_overlaps.l1 k2 a0 l1 x5_1 y114 ji31 (a0.size : Int) (wrap64 (x31_2 + 1))) = some r := by first | (rw [hji31] at H; exact H) | (simp only [hji31] at H ⊢; exact H)
                  (try rw [hji31] at A27)
                  (try (have hji31l : 0 ≤ ji31 := by (rw [← hji31]; unfold mx; (repeat' split) <;> omega)))
                  (try (have hji31m : 0 ≤ ji31 := by omega))
                  have hji31_ : (if 0 < (wrap64 (t112 - 1)) then (wrap64 (t112 - 1)) else 0) = ji31 := hji31
                  have H' := Aside0.mk H
                  clear H
                  obtain ⟨Ao32, co32, eo32⟩ := Kd.R_slice HO_5.out
                  subst eo32
                  have p109 : 0 ≤ (x31_2 : Int) := of_decide_eq_true (by first | (with_reducible assumption) | assumption)
                  have q109 : x31_2 < (x5_1.length : Int) := of_decide_eq_true (by first | (with_reducible assumption) | assumption)
                  obtain ⟨ad109, e109, hx109_0⟩ := Kd.at_int (Kd.R_reads' HO_5.out).2.2 x31_2 p109 q109
                  cases e109
                  replace p109 := eq_true p109
                  replace q109 := eq_true q109
                  have p110 : 0 ≤ (x31_2 : Int) := of_decide_eq_true (by first | (with_reducible assumption) | assumption)
                  have q110 : x31_2 < (x5_1.length : Int) := of_decide_eq_true (by first | (with_reducible assumption) | assumption)
                  obtain ⟨ad110, e110, hx110_0⟩ := Kd.at_int (Kd.R_reads' HO_5.out).2.2 x31_2 p110 q110
                  obtain rfl : ad109 = ad110 := (by injection e110)
                  replace p110 := eq_true p110
                  replace q110 := eq_true q110
                  have p111 : 0 ≤ ((ji24) : Int) := of_decide_eq_true (by first | (with_reducible assumption) | assumption)
                  have q111 : (ji24) < (l1.length : Int) := of_decide_eq_true (by first | (with_reducible assumption) | assumption)
                  obtain ⟨ad111, e111, hx111_0⟩ := Kd.at_int HR1.out (ji24) p111 q111
                  cases e111
                  replace hx111_0 := (HB.out.cell (World.block_lt_of_cell? w _ hx111_0)).trans hx111_0
                  replace p111 := eq_true p111
                  replace q111 := eq_true q111
                  go_wp2_with (first | ((with_reducible refine gate_callee (f := 69) rfl ?_); refine goesL_ (some 50) rfl rfl Try.func69 (by kernel_rfl) rfl #[.string a0, .int .i64 x31_2, .int .i64 (rd l1 (ji24)), .int .i64 x9_2] rfl (by (try simp only [List.map_toArray, List.map_cons, List.map_nil]); first | done | (simp only [hji24]; rfl) | rfl | (simp only [List.length_drop, List.length_take]; rfl)) ?_; (with_reducible refine (find_common.calls k2 a0 x31_2 (rd l1 (ji24)) x9_2 t112 _ A27.out).mono ?_); rintro e w' ⟨rfl, ⟨nd, rfl⟩⟩; refine ⟨_, rfl, ?_⟩; (try (rw [drewN_self wr]; generalize hq_ : World.drewN wr _ = wr; have n0_ : Aside0 (Kd.R (Kd.int .i64) 3 wr w.heap.size (fun k_ => some k_ ≠ (v107 : Value).ownBlock) (.slice (some ad109) x5_1.length co32) x5_1) := ⟨by rw [← hq_]; exact (by (with_reducible repeat (first | apply Kd.R_alloc | apply Kd.R_drewN | apply Kd.R_drew)); exact HO_5.out)⟩; have n1_ : Aside0 (Kd.R (Kd.int .i64) 3 wr w.heap.size (fun k_ => some k_ ≠ (.slice (some ad109) x5_1.length co32 : Value).ownBlock) v107 x8_2) := ⟨by rw [← hq_]; exact (by (with_reducible repeat (first | apply Kd.R_alloc | apply Kd.R_drewN | apply Kd.R_drew)); exact HO_8.out)⟩; have n2_ : Aside0 (Below w.heap.size w wr) := ⟨by rw [← hq_]; exact (by repeat (first | (with_reducible first | exact HB.out | apply below_alloc | apply pw_below_drewN | apply below_drew1) | exact HB.out))⟩; clear HO_5 HO_8 HB hq_; have HO_5 := n0_; have HO_8 := n1_; have HB := n2_; clear n0_ n1_ n2_)); have p113 : 0 ≤ (x31_2 : Int) := of_decide_eq_true (by first | (with_reducible assumption) | assumption); have q113 : x31_2 < (x5_1.length : Int) := of_decide_eq_true (by first | (with_reducible assumption) | assumption); obtain ⟨ad113, e113, hx113_0⟩ := Kd.at_int (Kd.R_reads' HO_5.out).2.2 x31_2 p113 q113; obtain rfl : ad109 = ad113 := (by injection e113); replace p113 := eq_true p113; replace q113 := eq_true q113; have p30 : 0 ≤ ((rd x5_1 x31_2) : Int) := of_decide_eq_true (by first | (with_reducible assumption) | assumption); have q30 : ((rd x5_1 x31_2) : Int) < ((x8_2.length : Int) : Int) := of_decide_eq_true (by first | (with_reducible assumption) | assumption); obtain ⟨go30, co30, eo30, gb30, gl30, cl30, HG30⟩ := Kd.R_form HO_8.out (by omega); (first | cases eo30 | (injection eo30 with ea_ en_ ec_; (first | subst ea_ | (injection ea_ with ea_; subst ea_)); subst ec_; clear en_)); have GB30 := Aside0.mk gb30; have GG30 := Aside0.mk HG30; clear gb30 gl30 HG30; obtain ⟨hx30_0, hf30_0⟩ := Kd.R_celln 0 HO_8.out ((rd x5_1 x31_2) : Int) p30 q30; replace p30 := eq_true p30; replace q30 := eq_true q30; obtain ⟨hy33_, hz33_⟩ := Kd.R_celln 0 HO_8.out ((rd x5_1 x31_2) : Int) (of_decide_eq_true (by first | (with_reducible assumption) | assumption)) (of_decide_eq_true (by first | (with_reducible assumption) | assumption)); have HP33 := Kd.R_putg HO_8.out ((rd x5_1 x31_2) : Int) t112) | ((with_reducible refine gate_store (t := 3) (p := 57) rfl ?_); refine store_event (t := 3) (p := 57) (v := ?vo_w34) (w1 := (wr.setCell ⟨go30, ((rd x5_1 x31_2) : Int).toNat, none⟩ (.int .i64 t112))) ?hg ?ho ?hn ?hr ?_; (case ho => rfl); (case hg => rfl); (case hn => rfl); (case hr => first | (go_simp; done) | (go_simp; rfl)); intro w34 hw; have hg : wr.grownBy w34 (some go30) := (by rw [hw]; exact HP33.2); have hp_ : Kd.R (Kd.int .i64) 3 w34 w.heap.size (fun k_ => some k_ ≠ (.slice (some ad109) x5_1.length co32 : Value).ownBlock) (.slice (some ⟨go30, 0, none⟩) x8_2.length co30) y114 := (by rw [hw, Ny114.out]; exact HP33.1); clear HP33; have n0_ := Aside0.mk (Kd.R_after (v := (.slice (some ⟨go30, 0, none⟩) x8_2.length co30)) (v1 := (.slice (some ⟨go30, 0, none⟩) x8_2.length co30)) (ok := (fun _ => True)) (by (with_reducible repeat (first | apply Kd.R_alloc | apply Kd.R_drewN | apply Kd.R_drew)); exact Kd.R_mono HO_5.out (fun _ hk => ⟨trivial, hk⟩)) hg (.inl rfl)); have n1_ := Aside0.mk (hp_); have n2_ := Aside0.mk ((by rw [hw]; exact below_set (HB.out) GB30.out : Below w.heap.size w w34)); clear HO_5; clear HO_8; clear HB; have HO_5 := n0_; have HO_8 := n1_; have HB := n2_; clear n0_ n1_ n2_; clear hg hw hp_))
                  go_roundg k2
                  case measure => have := HK1.out; have := HK2.out; omega
                  case rel => exact ⟨(y114), (ji31), (wrap64 (x31_2 + 1)), (by first | rfl | (simp; done) | (simp only [← hji31] <;> (first | rfl | simp)) | (simp [*]; done)), (by first | rfl | (simp; done) | (simp [*]; done)), H', ⟨by have := HK1.out; have := HK2.out; omega⟩, ⟨by (with_reducible repeat (first | apply Kd.R_alloc | apply Kd.R_drewN | apply Kd.R_drew)); exact Kd.R_mono HO_5.out (fun _ hk => hk.2)⟩, ⟨by (with_reducible repeat (first | apply Kd.R_alloc | apply Kd.R_drewN | apply Kd.R_drew)); exact HO_8.out⟩, ⟨by repeat (first | (with_reducible first | exact HB.out | apply below_alloc | apply pw_below_drewN | apply below_drew1) | exact HB.out)⟩⟩
                 ·rw [if_neg c29] at H
                  exact absurd H (by simp)
                ·rw [if_neg c28] at H
                 exact absurd H (by simp)
               ·rw [if_neg c26] at H
                exact absurd H (by simp)
              ·rw [if_neg c25] at H
               exact absurd H (by simp)
            ·rw [if_neg c21] at H
             exact absurd H (by simp)
           ·rw [if_neg c20] at H
            exact absurd H (by simp)
          ·rw [if_neg c19] at H
           have c19b0 : decide (x31_2 < (a0.size : Int)) = false := decide_eq_false c19
           clear c19
           obtain rfl := Option.some.inj H
           go_wp2
           go_ret
           exact ⟨_, by first | rfl | (simp [errW_none, errW_some] <;> rfl) | (simp [*, errW_none, errW_some] <;> rfl), by (with_reducible repeat (first | apply Kd.R_alloc | apply Kd.R_drewN | apply Kd.R_drew)); exact Kd.R_mono HO_8.out (fun _ hk => trivial), by repeat (first | (with_reducible first | exact HB.out | apply below_alloc | apply pw_below_drewN | apply below_drew1) | exact HB.out)⟩
       ·rw [if_neg c16] at H
        exact absurd H (by simp)
      ·rw [if_neg c15] at H
       exact absurd H (by simp)
  ·rw [if_neg c4] at H
   exact absurd H (by simp)
 ·rw [if_neg c3] at H
  exact absurd H (by simp)


/-! ### find_Index_Distinct: function 19 -/
def find_Index_Distinct.l0 : Nat → Int → List Int → Int → Int → Option (Int)
 | 0, _, _, _, _ => none
 | k + 1, x3, x16, x17, x18 => if x18 < x17 then (if 0 ≤ x18 then (if x18 < (x16.length : Int) then (find_Index_Distinct.l0 k (wrap64 (x3 - (rd x16 x18))) x16 x17 (wrap64 (x18 + 1))) else (none)) else (none)) else (some x3)
def find_Index_Distinct.f (k : Nat) (a0_0 : ByteArray) (l0_1 : List Int) (l0_2 : List Int) : Option (Int) := find_Index_Distinct.l0 k (wrap64 (Int.tdiv (wrap64 ((a0_0.size : Int) * (wrap64 ((a0_0.size : Int) + 1)))) 2)) l0_2 (l0_2.length : Int) 0
theorem find_Index_Distinct.mono_l : ∀ k, (∀ y0 y1 y2 y3, LeO (find_Index_Distinct.l0 k y0 y1 y2 y3) (find_Index_Distinct.l0 (k + 1) y0 y1 y2 y3))
 | 0 => fun _ _ _ _ r h => by simp [find_Index_Distinct.l0] at h
 | k + 1 => by
  have ih0 := find_Index_Distinct.mono_l k
  ·intro y0 y1 y2 y3
   unfold find_Index_Distinct.l0
   repeat' first
   | (with_reducible exact ih0 _ _ _ _)
   | (with_reducible exact LeO.refl _)
   | (with_reducible exact LeO.none _)
   | (with_reducible refine LeO.ite ?_ ?_)
   | (with_reducible refine LeO.bind ?_ (fun _ => ?_))
   | exact ih0 _ _ _ _
   | exact LeO.none _
   | refine LeO.ite ?_ ?_
   | refine LeO.bind ?_ (fun _ => ?_)
theorem find_Index_Distinct.mono : ∀ a0 a1 a2 k, LeO (find_Index_Distinct.f k a0 a1 a2) (find_Index_Distinct.f (k + 1) a0 a1 a2) := by
 intro a0 a1 a2 k
 have ih0 := find_Index_Distinct.mono_l k
 unfold find_Index_Distinct.f
 repeat' first
   | (with_reducible exact ih0 _ _ _ _)
   | (with_reducible exact LeO.refl _)
   | (with_reducible exact LeO.none _)
   | (with_reducible refine LeO.ite ?_ ?_)
   | (with_reducible refine LeO.bind ?_ (fun _ => ?_))
   | exact ih0 _ _ _ _
   | exact LeO.none _
   | refine LeO.ite ?_ ?_
   | refine LeO.bind ?_ (fun _ => ?_)
set_option maxHeartbeats 8000000 in
set_option maxRecDepth 100000 in
theorem find_Index_Distinct.calls (k : Nat) (a0_0 : ByteArray) (A0_1 : Option Addr) (c0_1 : Nat) (l0_1 : List Int) (A0_2 : Option Addr) (c0_2 : Nat) (l0_2 : List Int) (r : Int) (w : World) (hr0_1 : Kd.C (Kd.int .i64) w A0_1 l0_1.length l0_1) (hc0_1 : l0_1.length ≤ c0_1) (hr0_2 : Kd.C (Kd.int .i64) w A0_2 l0_2.length l0_2) (hc0_2 : l0_2.length ≤ c0_2) (h : find_Index_Distinct.f k a0_0 l0_1 l0_2 = some r) :
  Calls Try.prog 19 #[.agg #[.string a0_0, .slice A0_1 l0_1.length c0_1, .slice A0_2 l0_2.length c0_2]] w fun e w' => e = .returned (.int .i64 r) ∧ Below w.heap.size w w' := by
 have hu24 := Try.underlying24
 have HR0_1 := Aside0.mk hr0_1
 have HC0_1 := Aside0.mk hc0_1
 clear hr0_1 hc0_1
 have HR0_2 := Aside0.mk hr0_2
 have HC0_2 := Aside0.mk hc0_2
 clear hr0_2 hc0_2
 have HB := Aside0.mk (Below.refl w.heap.size w)
 have H : (find_Index_Distinct.l0 k (wrap64 (Int.tdiv (wrap64 ((a0_0.size : Int) * (wrap64 ((a0_0.size : Int) + 1)))) 2)) l0_2 (l0_2.length : Int) 0) = some r := h
 clear h
 have H' := Aside0.mk H
 clear H
 go_enter Try.func19, Try.ntmps19
 go_wp2_with (first | ((with_reducible refine gate_dst (N := 1) rfl ?_); refine box_event ?hg (N := 1) ?hd (cs := #[.string a0_0, .slice A0_1 l0_1.length c0_1, .slice A0_2 l0_2.length c0_2]) (t := 24) ?hr ?_; (case hd => rfl); (case hg => rfl); (case hr => first | (go_simp; done) | (go_simp; rfl)); intro gb145 hg w2 hbox hb; have n0_ := Aside0.mk (below_step (by repeat (first | (with_reducible first | exact HB.out | apply below_alloc | apply pw_below_drewN | apply below_drew1) | exact HB.out)) hb); have n1_ := Aside0.mk (hbox); have n2_ := Aside0.mk ((by rw [hg]; exact (below_size (by repeat (first | (with_reducible first | exact HB.out | apply below_alloc | apply pw_below_drewN | apply below_drew1) | exact HB.out))) : w.heap.size ≤ gb145)); have n3_ := Aside0.mk ((by rw [hg]; exact (below_size (by repeat (first | (with_reducible first | exact HB.out | apply below_alloc | apply pw_below_drewN | apply below_drew1) | exact HB.out))) : w.heap.size ≤ gb145)); clear HB; have HB := n0_; have BK145 := n1_; have GW145 := n2_; have GE145 := n3_; clear n0_ n1_ n2_ n3_; clear hb hbox hg; have hcz3_0 : w2.cell? ⟨gb145, 0, none⟩ = some (.string a0_0) := (blk_cell BK145.out 0).trans rfl; have hcz3_1 : w2.cell? ⟨gb145, 1, none⟩ = some (.slice A0_1 l0_1.length c0_1) := (blk_cell BK145.out 1).trans rfl; have hcz3_2 : w2.cell? ⟨gb145, 2, none⟩ = some (.slice A0_2 l0_2.length c0_2) := (blk_cell BK145.out 2).trans rfl; have hfz3_0 := blk_frozen BK145.out 0; have hfz3_1 := blk_frozen BK145.out 1; have hfz3_2 := blk_frozen BK145.out 2))
 go_loopg [3, 18] k (fun kq v3 v18 w' => ∃ (x3_1 : Int) (x18_1 : Int), v3 = .int .i64 x3_1 ∧ v18 = .int .i64 x18_1 ∧ Aside0 (find_Index_Distinct.l0 kq x3_1 l0_2 (l0_2.length : Int) x18_1 = some r) ∧ Aside0 (kq ≤ k) ∧ Aside0 (w'.heap[gb145]? = some (.cells #[.string a0_0, (.slice A0_1 l0_1.length c0_1), (.slice A0_2 l0_2.length c0_2)] 24 (0, 0))) ∧ Aside0 (Below w.heap.size w w'))
 case atStart => exact ⟨(wrap64 (Int.tdiv (wrap64 ((a0_0.size : Int) * (wrap64 ((a0_0.size : Int) + 1)))) 2)), (0), (by first | rfl | (simp; done) | (simp [*]; done)), (by first | rfl | (simp; done) | (simp [*]; done)), H', ⟨Nat.le_refl _⟩, ⟨by (with_reducible repeat (first | refine blk_drewN ?_ _ | refine blk_drew ?_ | refine blk_alloc ?_ _)); exact BK145.out⟩, ⟨by repeat (first | (with_reducible first | exact HB.out | apply below_alloc | apply pw_below_drewN | apply below_drew1 | refine below_set ?_ GE145.out) | exact HB.out)⟩⟩
 case round =>
  clear H'
  try clear c1
  try clear p2
  try clear hcz3_0
  try clear hcz3_1
  try clear hcz3_2
  try clear hfz3_0
  try clear hfz3_1
  try clear hfz3_2
  obtain ⟨x3_1, x18_1, rfl, rfl, HA, HK1, BK145, HB⟩ := hrel
  cases gk with
  | zero => exact absurd HA.out (by simp [find_Index_Distinct.l0])
  | succ k1 =>
   have H := HA.out
   clear HA
   simp only [find_Index_Distinct.l0] at H
   by_cases c4 : x18_1 < (l0_2.length : Int)
   ·rw [if_pos c4] at H
    have c4b0 : decide (x18_1 < (l0_2.length : Int)) = true := decide_eq_true c4
    clear c4
    by_cases c5 : 0 ≤ x18_1
    ·rw [if_pos c5] at H
     have c5b0 : decide (0 ≤ x18_1) = true := decide_eq_true c5
     clear c5
     by_cases c6 : x18_1 < (l0_2.length : Int)
     ·rw [if_pos c6] at H
      have c6b0 : decide (x18_1 < (l0_2.length : Int)) = true := decide_eq_true c6
      clear c6
      have H' := Aside0.mk H
      clear H
      have p146 : 0 ≤ (x18_1 : Int) := of_decide_eq_true (by first | (with_reducible assumption) | assumption)
      have q146 : x18_1 < (l0_2.length : Int) := of_decide_eq_true (by first | (with_reducible assumption) | assumption)
      obtain ⟨ad146, e146, hx146_0⟩ := Kd.at_int HR0_2.out x18_1 p146 q146
      cases e146
      replace hx146_0 := (HB.out.cell (World.block_lt_of_cell? w _ hx146_0)).trans hx146_0
      replace p146 := eq_true p146
      replace q146 := eq_true q146
      go_wp2
      go_roundg k1
      case measure => have := HK1.out; omega
      case rel => exact ⟨(wrap64 (x3_1 - (rd l0_2 x18_1))), (wrap64 (x18_1 + 1)), (by first | rfl | (simp; done) | (simp [*]; done)), (by first | rfl | (simp; done) | (simp [*]; done)), H', ⟨by have := HK1.out; omega⟩, ⟨by (with_reducible repeat (first | refine blk_drewN ?_ _ | refine blk_drew ?_ | refine blk_alloc ?_ _)); exact BK145.out⟩, ⟨by repeat (first | (with_reducible first | exact HB.out | apply below_alloc | apply pw_below_drewN | apply below_drew1 | refine below_set ?_ GE145.out) | exact HB.out)⟩⟩
     ·rw [if_neg c6] at H
      exact absurd H (by simp)
    ·rw [if_neg c5] at H
     exact absurd H (by simp)
   ·rw [if_neg c4] at H
    have c4b0 : decide (x18_1 < (l0_2.length : Int)) = false := decide_eq_false c4
    clear c4
    obtain rfl := Option.some.inj H
    go_wp2
    go_ret
    exact ⟨by first | rfl | (simp [errW_none, errW_some] <;> rfl) | (simp [*, errW_none, errW_some] <;> rfl), by repeat (first | (with_reducible first | exact HB.out | apply below_alloc | apply pw_below_drewN | apply below_drew1 | refine below_set ?_ GE145.out) | exact HB.out)⟩


/-! ### silversideref07_Common: function 43 -/
def silversideref07_Common.l0 : Nat → ByteArray → Int → ByteArray → Int → Int → Option (Int)
 | 0, _, _, _, _, _ => none
 | k + 1, x0, x1, x2, x3, x9 => if (wrap64 (x1 + x9)) < (x0.size : Int) then (if (wrap64 (x3 + x9)) < (x2.size : Int) then (if 0 ≤ (wrap64 (x1 + x9)) then (if 0 ≤ (wrap64 (x3 + x9)) then (if (bt x0 (wrap64 (x1 + x9))) = (bt x2 (wrap64 (x3 + x9))) then (silversideref07_Common.l0 k x0 x1 x2 x3 (wrap64 (x9 + 1))) else (some x9)) else (none)) else (none)) else (some x9)) else (some x9)
def silversideref07_Common.f (k : Nat) (a0 : ByteArray) (a1 : Int) (a2 : ByteArray) (a3 : Int) : Option (Int) := silversideref07_Common.l0 k a0 a1 a2 a3 0
theorem silversideref07_Common.mono_l : ∀ k, (∀ y0 y1 y2 y3 y4, LeO (silversideref07_Common.l0 k y0 y1 y2 y3 y4) (silversideref07_Common.l0 (k + 1) y0 y1 y2 y3 y4))
 | 0 => fun _ _ _ _ _ r h => by simp [silversideref07_Common.l0] at h
 | k + 1 => by
  have ih0 := silversideref07_Common.mono_l k
  ·intro y0 y1 y2 y3 y4
   unfold silversideref07_Common.l0
   repeat' first
   | (with_reducible exact ih0 _ _ _ _ _)
   | (with_reducible exact LeO.refl _)
   | (with_reducible exact LeO.none _)
   | (with_reducible refine LeO.ite ?_ ?_)
   | (with_reducible refine LeO.bind ?_ (fun _ => ?_))
   | exact ih0 _ _ _ _ _
   | exact LeO.none _
   | refine LeO.ite ?_ ?_
   | refine LeO.bind ?_ (fun _ => ?_)
theorem silversideref07_Common.mono : ∀ a0 a1 a2 a3 k, LeO (silversideref07_Common.f k a0 a1 a2 a3) (silversideref07_Common.f (k + 1) a0 a1 a2 a3) := by
 intro a0 a1 a2 a3 k
 have ih0 := silversideref07_Common.mono_l k
 unfold silversideref07_Common.f
 repeat' first
   | (with_reducible exact ih0 _ _ _ _ _)
   | (with_reducible exact LeO.refl _)
   | (with_reducible exact LeO.none _)
   | (with_reducible refine LeO.ite ?_ ?_)
   | (with_reducible refine LeO.bind ?_ (fun _ => ?_))
   | exact ih0 _ _ _ _ _
   | exact LeO.none _
   | refine LeO.ite ?_ ?_
   | refine LeO.bind ?_ (fun _ => ?_)
set_option maxHeartbeats 8000000 in
set_option maxRecDepth 100000 in
theorem silversideref07_Common.calls (k : Nat) (a0 : ByteArray) (a1 : Int) (a2 : ByteArray) (a3 : Int) (r : Int) (w : World) (h : silversideref07_Common.f k a0 a1 a2 a3 = some r) :
  Calls Try.prog 43 #[.string a0, .int .i64 a1, .string a2, .int .i64 a3] w fun e w' => e = .returned (.int .i64 r) ∧ Drawn0 w w' := by
 have H : (silversideref07_Common.l0 k a0 a1 a2 a3 0) = some r := h
 clear h
 have H' := Aside0.mk H
 clear H
 go_enter Try.func43, Try.ntmps43
 go_wp2
 repeat (go_quiet (fail); try go_wp2)
 go_loopg [9] k (fun kq v9 w' => ∃ (x9_1 : Int), v9 = .int .i64 x9_1 ∧ Aside0 (silversideref07_Common.l0 kq a0 a1 a2 a3 x9_1 = some r) ∧ Aside0 (kq ≤ k) ∧ Drawn0 w w')
 case atStart => exact ⟨(0), (by first | rfl | (simp; done) | (simp [*]; done)), H', ⟨Nat.le_refl _⟩, by repeat (first | exact Drawn0.refl _ | apply Drawn0.step)⟩
 case round =>
  clear H'
  try clear p2
  try clear c4
  obtain ⟨x9_1, rfl, HA, HK1, ⟨m1, rfl⟩⟩ := hrel
  cases gk with
  | zero => exact absurd HA.out (by simp [silversideref07_Common.l0])
  | succ k1 =>
   have H := HA.out
   clear HA
   simp only [silversideref07_Common.l0] at H
   by_cases c5 : (wrap64 (a1 + x9_1)) < (a0.size : Int)
   ·rw [if_pos c5] at H
    have c5b0 : decide ((wrap64 (a1 + x9_1)) < (a0.size : Int)) = true := decide_eq_true c5
    clear c5
    by_cases c6 : (wrap64 (a3 + x9_1)) < (a2.size : Int)
    ·rw [if_pos c6] at H
     have c6b0 : decide ((wrap64 (a3 + x9_1)) < (a2.size : Int)) = true := decide_eq_true c6
     clear c6
     obtain ⟨ji7, hji7⟩ : ∃ j_ : Int, (wrap64 (a1 + x9_1)) = j_ := ⟨_, rfl⟩
     replace H : (if 0 ≤ (ji7) then (if 0 ≤ (wrap64 (a3 + x9_1)) then (if (bt a0 (ji7)) = (bt a2 (wrap64 (a3 + x9_1))) then (silversideref07_Common.l0 k1 a0 a1 a2 a3 (wrap64 (x9_1 + 1))) else (some x9_1)) else (none)) else (none)) = some r := by first | (rw [hji7] at H; exact H) | (simp only [hji7] at H ⊢; exact H)
     (try rw [hji7] at c5b0)
     have hji7w : (IntKind.i64.wrap (a1 + x9_1)) = ji7 := (i64_w _).trans hji7
     by_cases c8 : 0 ≤ (ji7)
     ·rw [if_pos c8] at H
      have c8b0 : decide (0 ≤ (ji7)) = true := decide_eq_true c8
      clear c8
      obtain ⟨ji10, hji10⟩ : ∃ j_ : Int, (wrap64 (a3 + x9_1)) = j_ := ⟨_, rfl⟩
      replace H : (if 0 ≤ (ji10) then (if (bt a0 (ji7)) = (bt a2 (ji10)) then (silversideref07_Common.l0 k1 a0 a1 a2 a3 (wrap64 (x9_1 + 1))) else (some x9_1)) else (none)) = some r := by first | (rw [hji10] at H; exact H) | (simp only [hji10] at H ⊢; exact H)
      (try rw [hji10] at c6b0)
      have hji10w : (IntKind.i64.wrap (a3 + x9_1)) = ji10 := (i64_w _).trans hji10
      by_cases c11 : 0 ≤ (ji10)
      ·rw [if_pos c11] at H
       have c11b0 : decide (0 ≤ (ji10)) = true := decide_eq_true c11
       clear c11
       by_cases c13 : (bt a0 (ji7)) = (bt a2 (ji10))
       ·rw [if_pos c13] at H
        have c13b0 : ((bt a0 (ji7)) == (bt a2 (ji10))) = true := beq_iff_eq.mpr c13
        have c13b1 : ((bt a0 (ji7)) != (bt a2 (ji10))) = false := bne_eq_false_iff_eq.mpr c13
        clear c13
        have H' := Aside0.mk H
        clear H
        have p9 : 0 ≤ ((ji7) : Int) := of_decide_eq_true (by first | (with_reducible assumption) | assumption)
        have q9 : (ji7) < (a0.size : Int) := of_decide_eq_true (by first | (with_reducible assumption) | assumption)
        have hx9 := bt_at a0 (ji7)
        replace p9 := eq_true p9
        replace q9 := eq_true q9
        have p12 : 0 ≤ ((ji10) : Int) := of_decide_eq_true (by first | (with_reducible assumption) | assumption)
        have q12 : (ji10) < (a2.size : Int) := of_decide_eq_true (by first | (with_reducible assumption) | assumption)
        have hx12 := bt_at a2 (ji10)
        replace p12 := eq_true p12
        replace q12 := eq_true q12
        go_wp2
        repeat (go_quiet (fail); try go_wp2)
        go_roundg k1
        case measure => have := HK1.out; omega
        case rel => exact ⟨(wrap64 (x9_1 + 1)), (by first | rfl | (simp; done) | (simp [*]; done)), H', ⟨by have := HK1.out; omega⟩, by repeat (first | exact Drawn0.refl _ | apply Drawn0.step)⟩
       ·rw [if_neg c13] at H
        have c13b0 : ((bt a0 (ji7)) == (bt a2 (ji10))) = false := beq_eq_false_iff_ne.mpr c13
        have c13b1 : ((bt a0 (ji7)) != (bt a2 (ji10))) = true := bne_iff_ne.mpr c13
        obtain rfl := Option.some.inj H
        have p9 : 0 ≤ ((ji7) : Int) := of_decide_eq_true (by first | (with_reducible assumption) | assumption)
        have q9 : (ji7) < (a0.size : Int) := of_decide_eq_true (by first | (with_reducible assumption) | assumption)
        have hx9 := bt_at a0 (ji7)
        replace p9 := eq_true p9
        replace q9 := eq_true q9
        have p12 : 0 ≤ ((ji10) : Int) := of_decide_eq_true (by first | (with_reducible assumption) | assumption)
        have q12 : (ji10) < (a2.size : Int) := of_decide_eq_true (by first | (with_reducible assumption) | assumption)
        have hx12 := bt_at a2 (ji10)
        replace p12 := eq_true p12
        replace q12 := eq_true q12
        go_wp2
        repeat (go_quiet (fail); try go_wp2)
        go_ret
        exact ⟨by first | rfl | (simp; done) | (simp only [← hji7, ← hji10] <;> (first | rfl | simp)) | (simp [*]; done), by repeat (first | exact Drawn0.refl _ | apply Drawn0.step)⟩
      ·rw [if_neg c11] at H
       exact absurd H (by simp)
     ·rw [if_neg c8] at H
      exact absurd H (by simp)
    ·rw [if_neg c6] at H
     have c6b0 : decide ((wrap64 (a3 + x9_1)) < (a2.size : Int)) = false := decide_eq_false c6
     clear c6
     obtain rfl := Option.some.inj H
     go_wp2
     repeat (go_quiet (fail); try go_wp2)
     go_ret
     exact ⟨by first | rfl | (simp; done) | (simp [*]; done), by repeat (first | exact Drawn0.refl _ | apply Drawn0.step)⟩
   ·rw [if_neg c5] at H
    have c5b0 : decide ((wrap64 (a1 + x9_1)) < (a0.size : Int)) = false := decide_eq_false c5
    clear c5
    obtain rfl := Option.some.inj H
    go_wp2
    repeat (go_quiet (fail); try go_wp2)
    go_ret
    exact ⟨by first | rfl | (simp; done) | (simp [*]; done), by repeat (first | exact Drawn0.refl _ | apply Drawn0.step)⟩


/-! ### silversideref07_less: function 50 -/
def silversideref07_less.f (k : Nat) (a0 : ByteArray) (a1 : Int) (a2 : Int) : Option (Bool) := (silversideref07_Common.f k a0 a1 a0 a2).bind fun t184 => (if (wrap64 (a1 + t184)) = (a0.size : Int) then (some (decide (a1 > a2))) else (if (wrap64 (a2 + t184)) = (a0.size : Int) then (some (decide (a1 > a2))) else (if 0 ≤ (wrap64 (a1 + t184)) then (if (wrap64 (a1 + t184)) < (a0.size : Int) then (if 0 ≤ (wrap64 (a2 + t184)) then (if (wrap64 (a2 + t184)) < (a0.size : Int) then (some (decide ((bt a0 (wrap64 (a1 + t184))) < (bt a0 (wrap64 (a2 + t184)))))) else (none)) else (none)) else (none)) else (none))))
theorem silversideref07_less.mono : ∀ a0 a1 a2 k, LeO (silversideref07_less.f k a0 a1 a2) (silversideref07_less.f (k + 1) a0 a1 a2) := by
 intro a0 a1 a2 k
 unfold silversideref07_less.f
 repeat' first
   | (with_reducible exact silversideref07_Common.mono _ _ _ _ _)
   | (with_reducible exact LeO.refl _)
   | (with_reducible exact LeO.none _)
   | (with_reducible refine LeO.ite ?_ ?_)
   | (with_reducible refine LeO.bind ?_ (fun _ => ?_))
   | exact silversideref07_Common.mono _ _ _ _ _
   | exact LeO.none _
   | refine LeO.ite ?_ ?_
   | refine LeO.bind ?_ (fun _ => ?_)
set_option maxHeartbeats 8000000 in
set_option maxRecDepth 100000 in
theorem silversideref07_less.calls (k : Nat) (a0 : ByteArray) (a1 : Int) (a2 : Int) (r : Bool) (w : World) (h : silversideref07_less.f k a0 a1 a2 = some r) :
  Calls Try.prog 50 #[.string a0, .int .i64 a1, .int .i64 a2] w fun e w' => e = .returned (.bool r) ∧ Drawn0 w w' := by
 have H : ((silversideref07_Common.f k a0 a1 a0 a2).bind fun t184 => (if (wrap64 (a1 + t184)) = (a0.size : Int) then (some (decide (a1 > a2))) else (if (wrap64 (a2 + t184)) = (a0.size : Int) then (some (decide (a1 > a2))) else (if 0 ≤ (wrap64 (a1 + t184)) then (if (wrap64 (a1 + t184)) < (a0.size : Int) then (if 0 ≤ (wrap64 (a2 + t184)) then (if (wrap64 (a2 + t184)) < (a0.size : Int) then (some (decide ((bt a0 (wrap64 (a1 + t184))) < (bt a0 (wrap64 (a2 + t184)))))) else (none)) else (none)) else (none)) else (none))))) = some r := h
 clear h
 replace H := Option.bind_eq_some_iff.mp H
 obtain ⟨t184, A40, H⟩ := H
 replace H : (if (wrap64 (a1 + t184)) = (a0.size : Int) then (some (decide (a1 > a2))) else (if (wrap64 (a2 + t184)) = (a0.size : Int) then (some (decide (a1 > a2))) else (if 0 ≤ (wrap64 (a1 + t184)) then (if (wrap64 (a1 + t184)) < (a0.size : Int) then (if 0 ≤ (wrap64 (a2 + t184)) then (if (wrap64 (a2 + t184)) < (a0.size : Int) then (some (decide ((bt a0 (wrap64 (a1 + t184))) < (bt a0 (wrap64 (a2 + t184)))))) else (none)) else (none)) else (none)) else (none)))) = some r := H
 have A4 := Aside0.mk A40
 clear A40
 by_cases c5 : (wrap64 (a1 + t184)) = (a0.size : Int)
 ·rw [if_pos c5] at H
  have c5b0 : ((wrap64 (a1 + t184)) == (a0.size : Int)) = true := beq_iff_eq.mpr c5
  have c5b1 : ((wrap64 (a1 + t184)) != (a0.size : Int)) = false := bne_eq_false_iff_eq.mpr c5
  clear c5
  obtain rfl := Option.some.inj H
  go_enter Try.func50, Try.ntmps50
  go_wp2_with (first | (go_at_call 43; (with_reducible refine (silversideref07_Common.calls k a0 a1 a0 a2 t184 _ A4.out).mono ?_); rintro e w' ⟨rfl, ⟨nd, rfl⟩⟩; (try first | exact ⟨rfl, _, World.drewN_drewN _ _ _⟩ | exact ⟨rfl, _, Eq.trans (World.drewN_drewN _ _ _) (congrArg (World.drewN _) (Nat.add_assoc _ _ _))⟩)))
  repeat (go_quiet (first | (go_at_call 43; (with_reducible refine (silversideref07_Common.calls k a0 a1 a0 a2 t184 _ A4.out).mono ?_); rintro e w' ⟨rfl, ⟨nd, rfl⟩⟩; (try first | exact ⟨rfl, _, World.drewN_drewN _ _ _⟩ | exact ⟨rfl, _, Eq.trans (World.drewN_drewN _ _ _) (congrArg (World.drewN _) (Nat.add_assoc _ _ _))⟩))); try go_wp2_with (first | (go_at_call 43; (with_reducible refine (silversideref07_Common.calls k a0 a1 a0 a2 t184 _ A4.out).mono ?_); rintro e w' ⟨rfl, ⟨nd, rfl⟩⟩; (try first | exact ⟨rfl, _, World.drewN_drewN _ _ _⟩ | exact ⟨rfl, _, Eq.trans (World.drewN_drewN _ _ _) (congrArg (World.drewN _) (Nat.add_assoc _ _ _))⟩))))
  go_ret
  exact ⟨by first | rfl | (simp; done) | (simp [*]; done), by repeat (first | exact Drawn0.refl _ | apply Drawn0.step)⟩
 ·rw [if_neg c5] at H
  have c5b0 : ((wrap64 (a1 + t184)) == (a0.size : Int)) = false := beq_eq_false_iff_ne.mpr c5
  have c5b1 : ((wrap64 (a1 + t184)) != (a0.size : Int)) = true := bne_iff_ne.mpr c5
  by_cases c6 : (wrap64 (a2 + t184)) = (a0.size : Int)
  ·rw [if_pos c6] at H
   have c6b0 : ((wrap64 (a2 + t184)) == (a0.size : Int)) = true := beq_iff_eq.mpr c6
   have c6b1 : ((wrap64 (a2 + t184)) != (a0.size : Int)) = false := bne_eq_false_iff_eq.mpr c6
   clear c6
   obtain rfl := Option.some.inj H
   go_enter Try.func50, Try.ntmps50
   go_wp2_with (first | (go_at_call 43; (with_reducible refine (silversideref07_Common.calls k a0 a1 a0 a2 t184 _ A4.out).mono ?_); rintro e w' ⟨rfl, ⟨nd, rfl⟩⟩; (try first | exact ⟨rfl, _, World.drewN_drewN _ _ _⟩ | exact ⟨rfl, _, Eq.trans (World.drewN_drewN _ _ _) (congrArg (World.drewN _) (Nat.add_assoc _ _ _))⟩)))
   repeat (go_quiet (first | (go_at_call 43; (with_reducible refine (silversideref07_Common.calls k a0 a1 a0 a2 t184 _ A4.out).mono ?_); rintro e w' ⟨rfl, ⟨nd, rfl⟩⟩; (try first | exact ⟨rfl, _, World.drewN_drewN _ _ _⟩ | exact ⟨rfl, _, Eq.trans (World.drewN_drewN _ _ _) (congrArg (World.drewN _) (Nat.add_assoc _ _ _))⟩))); try go_wp2_with (first | (go_at_call 43; (with_reducible refine (silversideref07_Common.calls k a0 a1 a0 a2 t184 _ A4.out).mono ?_); rintro e w' ⟨rfl, ⟨nd, rfl⟩⟩; (try first | exact ⟨rfl, _, World.drewN_drewN _ _ _⟩ | exact ⟨rfl, _, Eq.trans (World.drewN_drewN _ _ _) (congrArg (World.drewN _) (Nat.add_assoc _ _ _))⟩))))
   go_ret
   exact ⟨by first | rfl | (simp; done) | (simp [*]; done), by repeat (first | exact Drawn0.refl _ | apply Drawn0.step)⟩
  ·rw [if_neg c6] at H
   have c6b0 : ((wrap64 (a2 + t184)) == (a0.size : Int)) = false := beq_eq_false_iff_ne.mpr c6
   have c6b1 : ((wrap64 (a2 + t184)) != (a0.size : Int)) = true := bne_iff_ne.mpr c6
   obtain ⟨ji7, hji7⟩ : ∃ j_ : Int, (wrap64 (a1 + t184)) = j_ := ⟨_, rfl⟩
   replace H : (if 0 ≤ (ji7) then (if (ji7) < (a0.size : Int) then (if 0 ≤ (wrap64 (a2 + t184)) then (if (wrap64 (a2 + t184)) < (a0.size : Int) then (some (decide ((bt a0 (ji7)) < (bt a0 (wrap64 (a2 + t184)))))) else (none)) else (none)) else (none)) else (none)) = some r := by first | (rw [hji7] at H; exact H) | (simp only [hji7] at H ⊢; exact H)
   (try rw [hji7] at c5b0)
   (try rw [hji7] at c5b1)
   (try rw [hji7] at A4)
   have hji7w : (IntKind.i64.wrap (a1 + t184)) = ji7 := (i64_w _).trans hji7
   by_cases c8 : 0 ≤ (ji7)
   ·rw [if_pos c8] at H
    have c8b0 : decide (0 ≤ (ji7)) = true := decide_eq_true c8
    clear c8
    by_cases c9 : (ji7) < (a0.size : Int)
    ·rw [if_pos c9] at H
     have c9b0 : decide ((ji7) < (a0.size : Int)) = true := decide_eq_true c9
     clear c9
     obtain ⟨ji11, hji11⟩ : ∃ j_ : Int, (wrap64 (a2 + t184)) = j_ := ⟨_, rfl⟩
     replace H : (if 0 ≤ (ji11) then (if (ji11) < (a0.size : Int) then (some (decide ((bt a0 (ji7)) < (bt a0 (ji11))))) else (none)) else (none)) = some r := by first | (rw [hji11] at H; exact H) | (simp only [hji11] at H ⊢; exact H)
     (try rw [hji11] at c6b0)
     (try rw [hji11] at c6b1)
     (try rw [hji11] at A4)
     have hji11w : (IntKind.i64.wrap (a2 + t184)) = ji11 := (i64_w _).trans hji11
     by_cases c12 : 0 ≤ (ji11)
     ·rw [if_pos c12] at H
      have c12b0 : decide (0 ≤ (ji11)) = true := decide_eq_true c12
      clear c12
      by_cases c13 : (ji11) < (a0.size : Int)
      ·rw [if_pos c13] at H
       have c13b0 : decide ((ji11) < (a0.size : Int)) = true := decide_eq_true c13
       clear c13
       obtain rfl := Option.some.inj H
       go_enter Try.func50, Try.ntmps50
       go_wp2_with (first | (go_at_call 43; (with_reducible refine (silversideref07_Common.calls k a0 a1 a0 a2 t184 _ A4.out).mono ?_); rintro e w' ⟨rfl, ⟨nd, rfl⟩⟩; (try first | exact ⟨rfl, _, World.drewN_drewN _ _ _⟩ | exact ⟨rfl, _, Eq.trans (World.drewN_drewN _ _ _) (congrArg (World.drewN _) (Nat.add_assoc _ _ _))⟩); have p10 : 0 ≤ ((ji7) : Int) := of_decide_eq_true (by first | (with_reducible assumption) | assumption); have q10 : (ji7) < (a0.size : Int) := of_decide_eq_true (by first | (with_reducible assumption) | assumption); have hx10 := bt_at a0 (ji7); replace p10 := eq_true p10; replace q10 := eq_true q10; have p14 : 0 ≤ ((ji11) : Int) := of_decide_eq_true (by first | (with_reducible assumption) | assumption); have q14 : (ji11) < (a0.size : Int) := of_decide_eq_true (by first | (with_reducible assumption) | assumption); have hx14 := bt_at a0 (ji11); replace p14 := eq_true p14; replace q14 := eq_true q14))
       repeat (go_quiet (first | (go_at_call 43; (with_reducible refine (silversideref07_Common.calls k a0 a1 a0 a2 t184 _ A4.out).mono ?_); rintro e w' ⟨rfl, ⟨nd, rfl⟩⟩; (try first | exact ⟨rfl, _, World.drewN_drewN _ _ _⟩ | exact ⟨rfl, _, Eq.trans (World.drewN_drewN _ _ _) (congrArg (World.drewN _) (Nat.add_assoc _ _ _))⟩); have p10 : 0 ≤ ((ji7) : Int) := of_decide_eq_true (by first | (with_reducible assumption) | assumption); have q10 : (ji7) < (a0.size : Int) := of_decide_eq_true (by first | (with_reducible assumption) | assumption); have hx10 := bt_at a0 (ji7); replace p10 := eq_true p10; replace q10 := eq_true q10; have p14 : 0 ≤ ((ji11) : Int) := of_decide_eq_true (by first | (with_reducible assumption) | assumption); have q14 : (ji11) < (a0.size : Int) := of_decide_eq_true (by first | (with_reducible assumption) | assumption); have hx14 := bt_at a0 (ji11); replace p14 := eq_true p14; replace q14 := eq_true q14)); try go_wp2_with (first | (go_at_call 43; (with_reducible refine (silversideref07_Common.calls k a0 a1 a0 a2 t184 _ A4.out).mono ?_); rintro e w' ⟨rfl, ⟨nd, rfl⟩⟩; (try first | exact ⟨rfl, _, World.drewN_drewN _ _ _⟩ | exact ⟨rfl, _, Eq.trans (World.drewN_drewN _ _ _) (congrArg (World.drewN _) (Nat.add_assoc _ _ _))⟩); have p10 : 0 ≤ ((ji7) : Int) := of_decide_eq_true (by first | (with_reducible assumption) | assumption); have q10 : (ji7) < (a0.size : Int) := of_decide_eq_true (by first | (with_reducible assumption) | assumption); have hx10 := bt_at a0 (ji7); replace p10 := eq_true p10; replace q10 := eq_true q10; have p14 : 0 ≤ ((ji11) : Int) := of_decide_eq_true (by first | (with_reducible assumption) | assumption); have q14 : (ji11) < (a0.size : Int) := of_decide_eq_true (by first | (with_reducible assumption) | assumption); have hx14 := bt_at a0 (ji11); replace p14 := eq_true p14; replace q14 := eq_true q14)))
       go_ret
       exact ⟨by first | rfl | (simp; done) | (simp only [← hji7, ← hji11] <;> (first | rfl | simp)) | (simp [*]; done), by repeat (first | exact Drawn0.refl _ | apply Drawn0.step)⟩
      ·rw [if_neg c13] at H
       exact absurd H (by simp)
     ·rw [if_neg c12] at H
      exact absurd H (by simp)
    ·rw [if_neg c9] at H
     exact absurd H (by simp)
   ·rw [if_neg c8] at H
    exact absurd H (by simp)


/-! ### silversideref07_Order: function 32 -/
mutual
def silversideref07_Order.l0 : Nat → ByteArray → List Int → Int → Option (List Int)
 | 0, _, _, _ => none
 | k + 1, x0, x3, x4 => if x4 < (x0.size : Int) then (silversideref07_Order.l1 k x0 x3 x4 0 (x3.length : Int)) else (some x3)
def silversideref07_Order.l1 : Nat → ByteArray → List Int → Int → Int → Int → Option (List Int)
 | 0, _, _, _, _, _ => none
 | k + 1, x0, x3, x4, x5, x6 => if x5 < x6 then (if 0 ≤ (wrap64 (Int.tdiv (wrap64 (x5 + x6)) 2)) then (if (wrap64 (Int.tdiv (wrap64 (x5 + x6)) 2)) < (x3.length : Int) then ((silversideref07_less.f k x0 (rd x3 (wrap64 (Int.tdiv (wrap64 (x5 + x6)) 2))) x4).bind fun t186 => (if t186 = true then (silversideref07_Order.l1 k x0 x3 x4 (wrap64 ((wrap64 (Int.tdiv (wrap64 (x5 + x6)) 2)) + 1)) x6) else (silversideref07_Order.l1 k x0 x3 x4 x5 (wrap64 (Int.tdiv (wrap64 (x5 + x6)) 2))))) else (none)) else (none)) else (if x3.length < 17592186044416 then ((some (x3 ++ [0] : List Int)).bind fun y187 => (silversideref07_Order.l2 k x0 y187 x4 x5 (wrap64 ((y187.length : Int) - 1)))) else (none))
def silversideref07_Order.l2 : Nat → ByteArray → List Int → Int → Int → Int → Option (List Int)
 | 0, _, _, _, _, _ => none
 | k + 1, x0, x3, x4, x5, x8 => if x8 > x5 then (if 0 ≤ (wrap64 (x8 - 1)) then (if (wrap64 (x8 - 1)) < (x3.length : Int) then (if 0 ≤ x8 then (if x8 < (x3.length : Int) then (silversideref07_Order.l2 k x0 (x3.set (x8 : Int).toNat (rd x3 (wrap64 (x8 - 1)))) x4 x5 (wrap64 (x8 - 1))) else (none)) else (none)) else (none)) else (none)) else (if 0 ≤ x5 then (if x5 < (x3.length : Int) then (silversideref07_Order.l0 k x0 (x3.set (x5 : Int).toNat x4) (wrap64 (x4 + 1))) else (none)) else (none))
end
def silversideref07_Order.f (k : Nat) (a0 : ByteArray) : Option (List Int) := silversideref07_Order.l0 k a0 ([] : List Int) 0
theorem silversideref07_Order.mono_l : ∀ k, (∀ y0 y1 y2, LeO (silversideref07_Order.l0 k y0 y1 y2) (silversideref07_Order.l0 (k + 1) y0 y1 y2)) ∧ (∀ y0 y1 y2 y3 y4, LeO (silversideref07_Order.l1 k y0 y1 y2 y3 y4) (silversideref07_Order.l1 (k + 1) y0 y1 y2 y3 y4)) ∧ (∀ y0 y1 y2 y3 y4, LeO (silversideref07_Order.l2 k y0 y1 y2 y3 y4) (silversideref07_Order.l2 (k + 1) y0 y1 y2 y3 y4))
 | 0 => ⟨fun _ _ _ r h => by simp [silversideref07_Order.l0] at h, fun _ _ _ _ _ r h => by simp [silversideref07_Order.l1] at h, fun _ _ _ _ _ r h => by simp [silversideref07_Order.l2] at h⟩
 | k + 1 => by
  obtain ⟨ih0, ih1, ih2⟩ := silversideref07_Order.mono_l k
  refine ⟨?_, ?_, ?_⟩
  ·intro y0 y1 y2
   unfold silversideref07_Order.l0
   repeat' first
   | (with_reducible exact ih0 _ _ _)
   | (with_reducible exact ih1 _ _ _ _ _)
   | (with_reducible exact ih2 _ _ _ _ _)
   | (with_reducible exact silversideref07_less.mono _ _ _ _)
   | (with_reducible exact LeO.refl _)
   | (with_reducible exact LeO.none _)
   | (with_reducible refine LeO.ite ?_ ?_)
   | (with_reducible refine LeO.bind ?_ (fun _ => ?_))
   | exact ih0 _ _ _
   | exact ih1 _ _ _ _ _
   | exact ih2 _ _ _ _ _
   | exact silversideref07_less.mono _ _ _ _
   | exact LeO.none _
   | refine LeO.ite ?_ ?_
   | refine LeO.bind ?_ (fun _ => ?_)
  ·intro y0 y1 y2 y3 y4
   unfold silversideref07_Order.l1
   repeat' first
   | (with_reducible exact ih0 _ _ _)
   | (with_reducible exact ih1 _ _ _ _ _)
   | (with_reducible exact ih2 _ _ _ _ _)
   | (with_reducible exact silversideref07_less.mono _ _ _ _)
   | (with_reducible exact LeO.refl _)
   | (with_reducible exact LeO.none _)
   | (with_reducible refine LeO.ite ?_ ?_)
   | (with_reducible refine LeO.bind ?_ (fun _ => ?_))
   | exact ih0 _ _ _
   | exact ih1 _ _ _ _ _
   | exact ih2 _ _ _ _ _
   | exact silversideref07_less.mono _ _ _ _
   | exact LeO.none _
   | refine LeO.ite ?_ ?_
   | refine LeO.bind ?_ (fun _ => ?_)
  ·intro y0 y1 y2 y3 y4
   unfold silversideref07_Order.l2
   repeat' first
   | (with_reducible exact ih0 _ _ _)
   | (with_reducible exact ih1 _ _ _ _ _)
   | (with_reducible exact ih2 _ _ _ _ _)
   | (with_reducible exact silversideref07_less.mono _ _ _ _)
   | (with_reducible exact LeO.refl _)
   | (with_reducible exact LeO.none _)
   | (with_reducible refine LeO.ite ?_ ?_)
   | (with_reducible refine LeO.bind ?_ (fun _ => ?_))
   | exact ih0 _ _ _
   | exact ih1 _ _ _ _ _
   | exact ih2 _ _ _ _ _
   | exact silversideref07_less.mono _ _ _ _
   | exact LeO.none _
   | refine LeO.ite ?_ ?_
   | refine LeO.bind ?_ (fun _ => ?_)
theorem silversideref07_Order.mono : ∀ a0 k, LeO (silversideref07_Order.f k a0) (silversideref07_Order.f (k + 1) a0) := by
 intro a0 k
 obtain ⟨ih0, ih1, ih2⟩ := silversideref07_Order.mono_l k
 unfold silversideref07_Order.f
 repeat' first
   | (with_reducible exact ih0 _ _ _)
   | (with_reducible exact ih1 _ _ _ _ _)
   | (with_reducible exact ih2 _ _ _ _ _)
   | (with_reducible exact silversideref07_less.mono _ _ _ _)
   | (with_reducible exact LeO.refl _)
   | (with_reducible exact LeO.none _)
   | (with_reducible refine LeO.ite ?_ ?_)
   | (with_reducible refine LeO.bind ?_ (fun _ => ?_))
   | exact ih0 _ _ _
   | exact ih1 _ _ _ _ _
   | exact ih2 _ _ _ _ _
   | exact silversideref07_less.mono _ _ _ _
   | exact LeO.none _
   | refine LeO.ite ?_ ?_
   | refine LeO.bind ?_ (fun _ => ?_)
set_option maxHeartbeats 8000000 in
set_option maxRecDepth 100000 in
theorem silversideref07_Order.calls (k : Nat) (a0 : ByteArray) (r : List Int) (w : World) (h : silversideref07_Order.f k a0 = some r) :
  Calls Try.prog 32 #[.string a0] w fun e w' => ∃ v0_ : Value, e = .returned (v0_) ∧ Kd.R (Kd.int .i64) 3 w' w.heap.size (fun _ => True) v0_ r ∧ Below w.heap.size w w' := by
 have HB := Aside0.mk (Below.refl w.heap.size w)
 have H : (silversideref07_Order.l0 k a0 ([] : List Int) 0) = some r := h
 clear h
 have H' := Aside0.mk H
 clear H
 go_enter Try.func32, Try.ntmps32
 go_wp2
 go_loopg [3, 4] k (fun kq v3 v4 w' => ∃ (x3_1 : List Int) (x4_1 : Int), v4 = .int .i64 x4_1 ∧ Aside0 (silversideref07_Order.l0 kq a0 x3_1 x4_1 = some r) ∧ Aside0 (kq ≤ k) ∧ Aside0 (Kd.R (Kd.int .i64) 3 w' w.heap.size (fun _ => True) v3 x3_1) ∧ Aside0 (Below w.heap.size w w'))
 case atStart => exact ⟨(([] : List Int)), (0), (by first | rfl | (simp; done) | (simp [*]; done)), H', ⟨Nat.le_refl _⟩, ⟨by first | exact Kd.R_nil _ _ _ _ _ | exact Kd.N_nil _ _ _ _ _ | exact Kd.V_nil _ _ _ _ _ | exact Kd.Q_nil _ _ _ _ _ | exact Kd.S_nil _ _ _ _ _⟩, ⟨by repeat (first | (with_reducible first | exact HB.out | apply below_alloc | apply pw_below_drewN | apply below_drew1) | exact HB.out)⟩⟩
 case round =>
  clear H'
  obtain ⟨x3_1, x4_1, rfl, HA, HK1, HO_3, HB⟩ := hrel
  cases gk with
  | zero => exact absurd HA.out (by simp [silversideref07_Order.l0])
  | succ k1 =>
   have H := HA.out
   clear HA
   simp only [silversideref07_Order.l0] at H
   by_cases c2 : x4_1 < (a0.size : Int)
   ·rw [if_pos c2] at H
    have c2b0 : decide (x4_1 < (a0.size : Int)) = true := decide_eq_true c2
    clear c2
    have H' := Aside0.mk H
    clear H
    obtain ⟨Ao3, co3, eo3⟩ := Kd.R_slice HO_3.out
    subst eo3
    go_wp2
    go_loopg [5, 6] k1 (fun kq v5 v6 w' => ∃ (x5_2 : Int) (x6_2 : Int), v5 = .int .i64 x5_2 ∧ v6 = .int .i64 x6_2 ∧ Aside0 (silversideref07_Order.l1 kq a0 x3_1 x4_1 x5_2 x6_2 = some r) ∧ Aside0 (kq ≤ k1) ∧ Aside0 (Kd.R (Kd.int .i64) 3 w' w.heap.size (fun _ => True) (.slice Ao3 x3_1.length co3) x3_1) ∧ Aside0 (Below w.heap.size w w'))
    case atStart => exact ⟨(0), ((x3_1.length : Int)), (by first | rfl | (simp; done) | (simp [*]; done)), (by first | rfl | (simp; done) | (simp [*]; done)), H', ⟨Nat.le_refl _⟩, ⟨by (with_reducible repeat (first | apply Kd.R_alloc | apply Kd.R_drewN | apply Kd.R_drew)); exact HO_3.out⟩, ⟨by repeat (first | (with_reducible first | exact HB.out | apply below_alloc | apply pw_below_drewN | apply below_drew1) | exact HB.out)⟩⟩
    case round =>
     clear H'
     try clear c2
     try clear c2b0
     try clear p2
     try clear c3
     obtain ⟨x5_2, x6_2, rfl, rfl, HA, HK2, HO_3, HB⟩ := hrel
     cases gk with
     | zero => exact absurd HA.out (by simp [silversideref07_Order.l1])
     | succ k2 =>
      have H := HA.out
      clear HA
      simp only [silversideref07_Order.l1] at H
      by_cases c4 : x5_2 < x6_2
      ·rw [if_pos c4] at H
       have c4b0 : decide (x5_2 < x6_2) = true := decide_eq_true c4
       clear c4
       obtain ⟨ji5, hji5⟩ : ∃ j_ : Int, (wrap64 (Int.tdiv (wrap64 (x5_2 + x6_2)) 2)) = j_ := ⟨_, rfl⟩
       replace H : (if 0 ≤ (ji5) then (if (ji5) < (x3_1.length : Int) then ((silversideref07_less.f k2 a0 (rd x3_1 (ji5)) x4_1).bind fun t186 => (if t186 = true then (silversideref07_Order.l1 k2 a0 x3_1 x4_1 (wrap64 ((ji5) + 1)) x6_2) else (silversideref07_Order.l1 k2 a0 x3_1 x4_1 x5_2 ji5))) else (none)) else (none)) = some r := by first | (rw [hji5] at H; exact H) | (simp only [hji5] at H ⊢; exact H)
       have hji5w : (IntKind.i64.wrap (Int.tdiv (wrap64 (x5_2 + x6_2)) 2)) = ji5 := (i64_w _).trans hji5
       by_cases c6 : 0 ≤ (ji5)
       ·rw [if_pos c6] at H
        have c6b0 : decide (0 ≤ (ji5)) = true := decide_eq_true c6
        clear c6
        by_cases c7 : (ji5) < (x3_1.length : Int)
        ·rw [if_pos c7] at H
         have c7b0 : decide ((ji5) < (x3_1.length : Int)) = true := decide_eq_true c7
         clear c7
         replace H := Option.bind_eq_some_iff.mp H
         obtain ⟨t186, A80, H⟩ := H
         replace H : (if t186 = true then (silversideref07_Order.l1 k2 a0 x3_1 x4_1 (wrap64 ((ji5) + 1)) x6_2) else (silversideref07_Order.l1 k2 a0 x3_1 x4_1 x5_2 ji5)) = some r := H
         have A8 := Aside0.mk A80
         clear A80
         by_cases c9 : t186 = true
         ·subst c9
          have H1 : (silversideref07_Order.l1 k2 a0 x3_1 x4_1 (wrap64 ((ji5) + 1)) x6_2) = some r := by rw [if_pos rfl] at H; exact H
          clear H
          have H := H1
          clear H1
          have H' := Aside0.mk H
          clear H
          have p185 : 0 ≤ ((ji5) : Int) := of_decide_eq_true (by first | (with_reducible assumption) | assumption)
          have q185 : (ji5) < (x3_1.length : Int) := of_decide_eq_true (by first | (with_reducible assumption) | assumption)
          obtain ⟨ad185, e185, hx185_0⟩ := Kd.at_int (Kd.R_reads' HO_3.out).2.2 (ji5) p185 q185
          cases e185
          replace p185 := eq_true p185
          replace q185 := eq_true q185
          go_wp2_with (first | ((with_reducible refine gate_callee (f := 50) rfl ?_); refine goesL_ (some 30) rfl rfl Try.func50 (by kernel_rfl) rfl #[.string a0, .int .i64 (rd x3_1 (ji5)), .int .i64 x4_1] rfl (by (try simp only [List.map_toArray, List.map_cons, List.map_nil]); first | done | (simp only [hji5]; rfl) | rfl | (simp only [List.length_drop, List.length_take]; rfl)) ?_; (with_reducible refine (silversideref07_less.calls k2 a0 (rd x3_1 (ji5)) x4_1 true _ A8.out).mono ?_); rintro e w' ⟨rfl, ⟨nd, rfl⟩⟩; refine ⟨_, rfl, ?_⟩))
          go_roundg k2
          case measure => have := HK1.out; have := HK2.out; omega
          case rel => exact ⟨(wrap64 ((ji5) + 1)), (x6_2), (by first | rfl | (simp; done) | (simp only [← hji5] <;> (first | rfl | simp)) | (simp [*]; done)), (by first | rfl | (simp; done) | (simp [*]; done)), H', ⟨by have := HK1.out; have := HK2.out; omega⟩, ⟨by (with_reducible repeat (first | apply Kd.R_alloc | apply Kd.R_drewN | apply Kd.R_drew)); exact HO_3.out⟩, ⟨by repeat (first | (with_reducible first | exact HB.out | apply below_alloc | apply pw_below_drewN | apply below_drew1) | exact HB.out)⟩⟩
         ·replace c9 := Bool.eq_false_iff.mpr c9
          subst c9
          have H1 : (silversideref07_Order.l1 k2 a0 x3_1 x4_1 x5_2 ji5) = some r := by rw [if_neg (show ¬ (false = true) by decide)] at H; exact H
          clear H
          have H := H1
          clear H1
          have H' := Aside0.mk H
          clear H
          have p185 : 0 ≤ ((ji5) : Int) := of_decide_eq_true (by first | (with_reducible assumption) | assumption)
          have q185 : (ji5) < (x3_1.length : Int) := of_decide_eq_true (by first | (with_reducible assumption) | assumption)
          obtain ⟨ad185, e185, hx185_0⟩ := Kd.at_int (Kd.R_reads' HO_3.out).2.2 (ji5) p185 q185
          cases e185
          replace p185 := eq_true p185
          replace q185 := eq_true q185
          go_wp2_with (first | ((with_reducible refine gate_callee (f := 50) rfl ?_); refine goesL_ (some 30) rfl rfl Try.func50 (by kernel_rfl) rfl #[.string a0, .int .i64 (rd x3_1 (ji5)), .int .i64 x4_1] rfl (by (try simp only [List.map_toArray, List.map_cons, List.map_nil]); first | done | (simp only [hji5]; rfl) | rfl | (simp only [List.length_drop, List.length_take]; rfl)) ?_; (with_reducible refine (silversideref07_less.calls k2 a0 (rd x3_1 (ji5)) x4_1 false _ A8.out).mono ?_); rintro e w' ⟨rfl, ⟨nd, rfl⟩⟩; refine ⟨_, rfl, ?_⟩))
          go_roundg k2
          case measure => have := HK1.out; have := HK2.out; omega
          case rel => exact ⟨(x5_2), (ji5), (by first | rfl | (simp; done) | (simp [*]; done)), (by first | rfl | (simp; done) | (simp only [← hji5] <;> (first | rfl | simp)) | (simp [*]; done)), H', ⟨by have := HK1.out; have := HK2.out; omega⟩, ⟨by (with_reducible repeat (first | apply Kd.R_alloc | apply Kd.R_drewN | apply Kd.R_drew)); exact HO_3.out⟩, ⟨by repeat (first | (with_reducible first | exact HB.out | apply below_alloc | apply pw_below_drewN | apply below_drew1) | exact HB.out)⟩⟩
        ·rw [if_neg c7] at H
         exact absurd H (by simp)
       ·rw [if_neg c6] at H
        exact absurd H (by simp)
      ·rw [if_neg c4] at H
       have c4b0 : decide (x5_2 < x6_2) = false := decide_eq_false c4
       clear c4
       by_cases c10 : x3_1.length < 17592186044416
       ·rw [if_pos c10] at H
        have LMc10 := Aside0.mk c10
        clear c10
        obtain ⟨y187, hy187⟩ : ∃ y_ : List Int, y_ = (x3_1 ++ [0]) := ⟨_, rfl⟩
        replace H : (silversideref07_Order.l2 k2 a0 y187 x4_1 x5_2 (wrap64 ((y187.length : Int) - 1))) = some r := by first | (rw [hy187]; with_reducible exact H) | (have H2_ := (Option.bind_some _ _).symm.trans H; rw [hy187]; with_reducible exact H2_) | (have H2_ := (Option.bind_some _ _).symm.trans H; with_reducible exact H2_) | with_reducible exact H | (rw [hy187]; exact H) | exact H
        have Ny187 := Aside0.mk hy187
        clear hy187
        have H' := Aside0.mk H
        clear H
        go_wp2_with (first | ((with_reducible refine gate_builtin (b := .append) (xs := #[.tmp 34, .tmp 35]) rfl ?_); at_builtin; refine Kd.R_append (Kd.int .i64) (w0 := w) w.heap.size rfl (.tmp 34) (.tmp 35) 22 3 (.int .i64 0) 8 rfl Try.underlying22 info3 rfl (by decide) (by omega) (.slice Ao3 x3_1.length co3) x3_1 0 [.int .i64 0] (fun _ => True) (fun _ => False) rfl rfl ?aP (fun _ hk => hk.elim) ?aF ?aO ?aB ?aS ?aL ?_; (case aP => exact rfl); (case aB => exact (by repeat (first | (with_reducible first | exact HB.out | apply below_alloc | apply pw_below_drewN | apply below_drew1) | exact HB.out))); (case aF => exact (fun _ _ => trivial)); (case aO => exact (by (with_reducible repeat (first | apply Kd.R_alloc | apply Kd.R_drewN | apply Kd.R_drew)); exact HO_3.out)); (case aS => exact (below_size (by repeat (first | (with_reducible first | exact HB.out | apply below_alloc | apply pw_below_drewN | apply below_drew1) | exact HB.out)))); (case aL => have := LMc10.out; omega); intro v188 w11 ho hb hg hat; rw [← Ny187.out] at ho; have n0_ := Aside0.mk (hb); have n1_ := Aside0.mk (ho); clear HB; clear HO_3; have HB := n0_; have HO189 := n1_; clear n0_ n1_; clear ho hb hg hat; obtain ⟨Ao12, co12, eo12⟩ := Kd.R_slice HO189.out; subst eo12))
        go_loopg [8] k2 (fun kq v8 w' => ∃ (x3_3 : List Int) (x8_3 : Int), v8 = .int .i64 x8_3 ∧ Aside0 (silversideref07_Order.l2 kq a0 x3_3 x4_1 x5_2 x8_3 = some r) ∧ Aside0 (kq ≤ k2) ∧ Aside0 (Kd.R (Kd.int .i64) 3 w' w.heap.size (fun _ => True) (.slice Ao12 y187.length co12) x3_3) ∧ Aside0 (Below w.heap.size w w'))
        case atStart => exact ⟨(y187), (wrap64 ((y187.length : Int) - 1)), (by first | rfl | (simp; done) | (simp [*]; done)), H', ⟨Nat.le_refl _⟩, ⟨by (with_reducible repeat (first | apply Kd.R_alloc | apply Kd.R_drewN | apply Kd.R_drew)); exact HO189.out⟩, ⟨by repeat (first | (with_reducible first | exact HB.out | apply below_alloc | apply pw_below_drewN | apply below_drew1) | exact HB.out)⟩⟩
        case round =>
         clear H'
         try clear c1
         try clear p1
         try clear q1
         try clear hx1
         try clear c2
         try clear c2b0
         try clear p2
         try clear c3
         try clear c4
         try clear c4b0
         try clear c5
         try clear c6
         try clear c6b0
         try clear p6
         try clear c7
         try clear c7b0
         try clear c9
         try clear c10
         try clear hx185_0
         try clear p185
         try clear p2
         try clear q185
         obtain ⟨x3_3, x8_3, rfl, HA, HK3, HO_3, HB⟩ := hrel
         have hl3_3 := (Kd.R_reads' HO_3.out).1
         rw [hl3_3] at HO_3
         (try simp only [hl3_3])
         cases gk with
         | zero => exact absurd HA.out (by simp [silversideref07_Order.l2])
         | succ k3 =>
          have H := HA.out
          clear HA
          simp only [silversideref07_Order.l2] at H
          by_cases c13 : x8_3 > x5_2
          ·rw [if_pos c13] at H
           have c13b0 : decide (x5_2 < x8_3) = true := decide_eq_true c13
           clear c13
           obtain ⟨ji14, hji14⟩ : ∃ j_ : Int, (wrap64 (x8_3 - 1)) = j_ := ⟨_, rfl⟩
           replace H : (if 0 ≤ (ji14) then (if (ji14) < (x3_3.length : Int) then (if 0 ≤ x8_3 then (if x8_3 < (x3_3.length : Int) then (silversideref07_Order.l2 k3 a0 (x3_3.set (x8_3 : Int).toNat (rd x3_3 (ji14))) x4_1 x5_2 ji14) else (none)) else (none)) else (none)) else (none)) = some r := by first | (rw [hji14] at H; exact H) | (simp only [hji14] at H ⊢; exact H)
           have hji14w : (IntKind.i64.wrap (x8_3 - 1)) = ji14 := (i64_w _).trans hji14
           by_cases c15 : 0 ≤ (ji14)
           ·rw [if_pos c15] at H
            have c15b0 : decide (0 ≤ (ji14)) = true := decide_eq_true c15
            clear c15
            by_cases c16 : (ji14) < (x3_3.length : Int)
            ·rw [if_pos c16] at H
             have c16b0 : decide ((ji14) < (x3_3.length : Int)) = true := decide_eq_true c16
             clear c16
             by_cases c17 : 0 ≤ x8_3
             ·rw [if_pos c17] at H
              have c17b0 : decide (0 ≤ x8_3) = true := decide_eq_true c17
              clear c17
              by_cases c18 : x8_3 < (x3_3.length : Int)
              ·rw [if_pos c18] at H
               have c18b0 : decide (x8_3 < (x3_3.length : Int)) = true := decide_eq_true c18
               clear c18
               obtain ⟨y191, hy191⟩ : ∃ y_ : List Int, y_ = (x3_3.set (x8_3 : Int).toNat (rd x3_3 (ji14))) := ⟨_, rfl⟩
               replace H : (silversideref07_Order.l2 k3 a0 y191 x4_1 x5_2 ji14) = some r := by first | (rw [hy191]; with_reducible exact H) | (have H2_ := (Option.bind_some _ _).symm.trans H; rw [hy191]; with_reducible exact H2_) | (have H2_ := (Option.bind_some _ _).symm.trans H; with_reducible exact H2_) | with_reducible exact H | (rw [hy191]; exact H) | exact H
               have Ny191 := Aside0.mk hy191
               clear hy191
               have H' := Aside0.mk H
               clear H
               have p190 : 0 ≤ ((ji14) : Int) := of_decide_eq_true (by first | (with_reducible assumption) | assumption)
               have q190 : (ji14) < (x3_3.length : Int) := of_decide_eq_true (by first | (with_reducible assumption) | assumption)
               obtain ⟨ad190, e190, hx190_0⟩ := Kd.at_int (Kd.R_reads' HO_3.out).2.2 (ji14) p190 q190
               cases e190
               replace p190 := eq_true p190
               replace q190 := eq_true q190
               have p19 : 0 ≤ (x8_3 : Int) := of_decide_eq_true (by first | (with_reducible assumption) | assumption)
               have q19 : (x8_3 : Int) < ((x3_3.length : Int) : Int) := of_decide_eq_true (by first | (with_reducible assumption) | assumption)
               obtain ⟨go19, co19, eo19, gb19, gl19, cl19, HG19⟩ := Kd.R_form HO_3.out (by omega)
               (first | cases eo19 | (injection eo19 with ea_ en_ ec_; (first | subst ea_ | (injection ea_ with ea_; subst ea_)); subst ec_; clear en_))
               have GB19 := Aside0.mk gb19
               have GG19 := Aside0.mk HG19
               clear gb19 gl19 HG19
               (first | simp only [add_plain] at hx190_0 | skip)
               obtain ⟨hx19_0, hf19_0⟩ := Kd.R_celln 0 HO_3.out (x8_3 : Int) p19 q19
               replace p19 := eq_true p19
               replace q19 := eq_true q19
               have HP20 := Kd.R_putg HO_3.out (x8_3 : Int) (rd x3_3 (ji14))
               go_wp2_with (first | ((with_reducible refine gate_store (t := 3) (p := 52) rfl ?_); refine store_event (t := 3) (p := 52) (v := ?vo_w21) (w1 := (wr.setCell ⟨go19, (x8_3 : Int).toNat, none⟩ (.int .i64 (rd x3_3 (ji14))))) ?hg ?ho ?hn ?hr ?_; (case ho => rfl); (case hg => rfl); (case hn => rfl); (case hr => first | (go_simp; done) | (go_simp; rfl)); intro w21 hw; have hg : wr.grownBy w21 (some go19) := (by rw [hw]; exact HP20.2); have hp_ : Kd.R (Kd.int .i64) 3 w21 w.heap.size (fun _ => True) (.slice (some ⟨go19, 0, none⟩) x3_3.length co12) y191 := (by rw [hw, Ny191.out]; exact HP20.1); clear HP20; have n0_ := Aside0.mk (hp_); have n1_ := Aside0.mk ((by rw [hw]; exact below_set (HB.out) GB19.out : Below w.heap.size w w21)); clear HO_3; clear HB; have HO_3 := n0_; have HB := n1_; clear n0_ n1_; clear hg hw hp_))
               (try simp only [← hl3_3])
               go_roundg k3
               case measure => have := HK1.out; have := HK2.out; have := HK3.out; omega
               case rel => exact ⟨(y191), (ji14), (by first | rfl | (simp; done) | (simp only [← hji14] <;> (first | rfl | simp)) | (simp [*]; done)), H', ⟨by have := HK1.out; have := HK2.out; have := HK3.out; omega⟩, ⟨by (try simp only [hl3_3]); (with_reducible repeat (first | apply Kd.R_alloc | apply Kd.R_drewN | apply Kd.R_drew)); exact HO_3.out⟩, ⟨by repeat (first | (with_reducible first | exact HB.out | apply below_alloc | apply pw_below_drewN | apply below_drew1) | exact HB.out)⟩⟩
              ·rw [if_neg c18] at H
               exact absurd H (by simp)
             ·rw [if_neg c17] at H
              exact absurd H (by simp)
            ·rw [if_neg c16] at H
             exact absurd H (by simp)
           ·rw [if_neg c15] at H
            exact absurd H (by simp)
          ·rw [if_neg c13] at H
           have c13b0 : decide (x5_2 < x8_3) = false := decide_eq_false c13
           clear c13
           by_cases c22 : 0 ≤ x5_2
           ·rw [if_pos c22] at H
            have c22b0 : decide (0 ≤ x5_2) = true := decide_eq_true c22
            clear c22
            by_cases c23 : x5_2 < (x3_3.length : Int)
            ·rw [if_pos c23] at H
             have c23b0 : decide (x5_2 < (x3_3.length : Int)) = true := decide_eq_true c23
             clear c23
             obtain ⟨y192, hy192⟩ : ∃ y_ : List Int, y_ = (x3_3.set (x5_2 : Int).toNat x4_1) := ⟨_, rfl⟩
             replace H : (silversideref07_Order.l0 k3 a0 y192 (wrap64 (x4_1 + 1))) = some r := by first | (rw [hy192]; with_reducible exact H) | (have H2_ := (Option.bind_some _ _).symm.trans H; rw [hy192]; with_reducible exact H2_) | (have H2_ := (Option.bind_some _ _).symm.trans H; with_reducible exact H2_) | with_reducible exact H | (rw [hy192]; exact H) | exact H
             have Ny192 := Aside0.mk hy192
             clear hy192
             have H' := Aside0.mk H
             clear H
             have p24 : 0 ≤ (x5_2 : Int) := of_decide_eq_true (by first | (with_reducible assumption) | assumption)
             have q24 : (x5_2 : Int) < ((x3_3.length : Int) : Int) := of_decide_eq_true (by first | (with_reducible assumption) | assumption)
             obtain ⟨go24, co24, eo24, gb24, gl24, cl24, HG24⟩ := Kd.R_form HO_3.out (by omega)
             (first | cases eo24 | (injection eo24 with ea_ en_ ec_; (first | subst ea_ | (injection ea_ with ea_; subst ea_)); subst ec_; clear en_))
             have GB24 := Aside0.mk gb24
             have GG24 := Aside0.mk HG24
             clear gb24 gl24 HG24
             obtain ⟨hx24_0, hf24_0⟩ := Kd.R_celln 0 HO_3.out (x5_2 : Int) p24 q24
             replace p24 := eq_true p24
             replace q24 := eq_true q24
             have HP25 := Kd.R_putg HO_3.out (x5_2 : Int) x4_1
             go_wp2_with (first | ((with_reducible refine gate_store (t := 3) (p := 56) rfl ?_); refine store_event (t := 3) (p := 56) (v := ?vo_w26) (w1 := (wr.setCell ⟨go24, (x5_2 : Int).toNat, none⟩ (.int .i64 x4_1))) ?hg ?ho ?hn ?hr ?_; (case ho => rfl); (case hg => rfl); (case hn => rfl); (case hr => first | (go_simp; done) | (go_simp; rfl)); intro w26 hw; have hg : wr.grownBy w26 (some go24) := (by rw [hw]; exact HP25.2); have hp_ : Kd.R (Kd.int .i64) 3 w26 w.heap.size (fun _ => True) (.slice (some ⟨go24, 0, none⟩) x3_3.length co12) y192 := (by rw [hw, Ny192.out]; exact HP25.1); clear HP25; have n0_ := Aside0.mk (hp_); have n1_ := Aside0.mk ((by rw [hw]; exact below_set (HB.out) GB24.out : Below w.heap.size w w26)); clear HO_3; clear HB; have HO_3 := n0_; have HB := n1_; clear n0_ n1_; clear hg hw hp_))
             (try simp only [← hl3_3])
             go_roundg k3
             case measure => have := HK1.out; have := HK2.out; have := HK3.out; omega
             case rel => exact ⟨(y192), (wrap64 (x4_1 + 1)), (by first | rfl | (simp; done) | (simp [*]; done)), H', ⟨by have := HK1.out; have := HK2.out; have := HK3.out; omega⟩, ⟨by (try simp only [hl3_3]); (with_reducible repeat (first | apply Kd.R_alloc | apply Kd.R_drewN | apply Kd.R_drew)); exact HO_3.out⟩, ⟨by repeat (first | (with_reducible first | exact HB.out | apply below_alloc | apply pw_below_drewN | apply below_drew1) | exact HB.out)⟩⟩
            ·rw [if_neg c23] at H
             exact absurd H (by simp)
           ·rw [if_neg c22] at H
            exact absurd H (by simp)
       ·rw [if_neg c10] at H
        exact absurd H (by simp)
   ·rw [if_neg c2] at H
    have c2b0 : decide (x4_1 < (a0.size : Int)) = false := decide_eq_false c2
    clear c2
    obtain rfl := Option.some.inj H
    go_wp2
    go_ret
    exact ⟨_, by first | rfl | (simp [errW_none, errW_some] <;> rfl) | (simp [*, errW_none, errW_some] <;> rfl), by (with_reducible repeat (first | apply Kd.R_alloc | apply Kd.R_drewN | apply Kd.R_drew)); exact HO_3.out, by repeat (first | (with_reducible first | exact HB.out | apply below_alloc | apply pw_below_drewN | apply below_drew1) | exact HB.out)⟩


/-! ### silversideref07_Overlaps: function 34 -/
def silversideref07_Overlaps.l0 : Nat → ByteArray → List Int → List Int → Int → Option (List Int)
 | 0, _, _, _, _ => none
 | k + 1, x0, x1, x5, x6 => if x6 < (x1.length : Int) then (if x6 > 0 then (if 0 ≤ (wrap64 (x6 - 1)) then (if (wrap64 (x6 - 1)) < (x1.length : Int) then (if 0 ≤ x6 then ((silversideref07_Common.f k x0 (rd x1 (wrap64 (x6 - 1))) x0 (rd x1 x6)).bind fun t267 => (if x5.length < 17592186044416 then (silversideref07_Overlaps.l0 k x0 x1 (x5 ++ [t267]) (wrap64 (x6 + 1))) else (none))) else (none)) else (none)) else (none)) else (if x5.length < 17592186044416 then (silversideref07_Overlaps.l0 k x0 x1 (x5 ++ [0]) (wrap64 (x6 + 1))) else (none))) else (some x5)
def silversideref07_Overlaps.f (k : Nat) (a0 : ByteArray) (l1 : List Int) : Option (List Int) := silversideref07_Overlaps.l0 k a0 l1 ([] : List Int) 0
theorem silversideref07_Overlaps.mono_l : ∀ k, (∀ y0 y1 y2 y3, LeO (silversideref07_Overlaps.l0 k y0 y1 y2 y3) (silversideref07_Overlaps.l0 (k + 1) y0 y1 y2 y3))
 | 0 => fun _ _ _ _ r h => by simp [silversideref07_Overlaps.l0] at h
 | k + 1 => by
  have ih0 := silversideref07_Overlaps.mono_l k
  ·intro y0 y1 y2 y3
   unfold silversideref07_Overlaps.l0
   repeat' first
   | (with_reducible exact ih0 _ _ _ _)
   | (with_reducible exact silversideref07_Common.mono _ _ _ _ _)
   | (with_reducible exact LeO.refl _)
   | (with_reducible exact LeO.none _)
   | (with_reducible refine LeO.ite ?_ ?_)
   | (with_reducible refine LeO.bind ?_ (fun _ => ?_))
   | exact ih0 _ _ _ _
   | exact silversideref07_Common.mono _ _ _ _ _
   | exact LeO.none _
   | refine LeO.ite ?_ ?_
   | refine LeO.bind ?_ (fun _ => ?_)
theorem silversideref07_Overlaps.mono : ∀ a0 a1 k, LeO (silversideref07_Overlaps.f k a0 a1) (silversideref07_Overlaps.f (k + 1) a0 a1) := by
 intro a0 a1 k
 have ih0 := silversideref07_Overlaps.mono_l k
 unfold silversideref07_Overlaps.f
 repeat' first
   | (with_reducible exact ih0 _ _ _ _)
   | (with_reducible exact silversideref07_Common.mono _ _ _ _ _)
   | (with_reducible exact LeO.refl _)
   | (with_reducible exact LeO.none _)
   | (with_reducible refine LeO.ite ?_ ?_)
   | (with_reducible refine LeO.bind ?_ (fun _ => ?_))
   | exact ih0 _ _ _ _
   | exact silversideref07_Common.mono _ _ _ _ _
   | exact LeO.none _
   | refine LeO.ite ?_ ?_
   | refine LeO.bind ?_ (fun _ => ?_)
set_option maxHeartbeats 8000000 in
set_option maxRecDepth 100000 in
theorem silversideref07_Overlaps.calls (k : Nat) (a0 : ByteArray) (A1 : Option Addr) (c1 : Nat) (l1 : List Int) (r : List Int) (w : World) (hr1 : Kd.C (Kd.int .i64) w A1 l1.length l1) (hc1 : l1.length ≤ c1) (h : silversideref07_Overlaps.f k a0 l1 = some r) :
  Calls Try.prog 34 #[.string a0, .slice A1 l1.length c1] w fun e w' => ∃ v0_ : Value, e = .returned (v0_) ∧ Kd.R (Kd.int .i64) 3 w' w.heap.size (fun _ => True) v0_ r ∧ Below w.heap.size w w' := by
 have HR1 := Aside0.mk hr1
 have HC1 := Aside0.mk hc1
 clear hr1 hc1
 have HB := Aside0.mk (Below.refl w.heap.size w)
 have H : (silversideref07_Overlaps.l0 k a0 l1 ([] : List Int) 0) = some r := h
 clear h
 have H' := Aside0.mk H
 clear H
 go_enter Try.func34, Try.ntmps34
 go_wp2
 repeat (go_quiet (fail); try go_wp2)
 go_loopg [5, 6] k (fun kq v5 v6 w' => ∃ (x5_1 : List Int) (x6_1 : Int), v6 = .int .i64 x6_1 ∧ Aside0 (silversideref07_Overlaps.l0 kq a0 l1 x5_1 x6_1 = some r) ∧ Aside0 (kq ≤ k) ∧ Aside0 (Kd.R (Kd.int .i64) 3 w' w.heap.size (fun _ => True) v5 x5_1) ∧ Aside0 (Below w.heap.size w w'))
 case atStart => exact ⟨(([] : List Int)), (0), (by first | rfl | (simp; done) | (simp [*]; done)), H', ⟨Nat.le_refl _⟩, ⟨by first | exact Kd.R_nil _ _ _ _ _ | exact Kd.N_nil _ _ _ _ _ | exact Kd.V_nil _ _ _ _ _ | exact Kd.Q_nil _ _ _ _ _ | exact Kd.S_nil _ _ _ _ _⟩, ⟨by repeat (first | (with_reducible first | exact HB.out | apply below_alloc | apply pw_below_drewN | apply below_drew1) | exact HB.out)⟩⟩
 case round =>
  clear H'
  try clear c1
  try clear p2
  obtain ⟨x5_1, x6_1, rfl, HA, HK1, HO_5, HB⟩ := hrel
  cases gk with
  | zero => exact absurd HA.out (by simp [silversideref07_Overlaps.l0])
  | succ k1 =>
   have H := HA.out
   clear HA
   simp only [silversideref07_Overlaps.l0] at H
   by_cases c3 : x6_1 < (l1.length : Int)
   ·rw [if_pos c3] at H
    have c3b0 : decide (x6_1 < (l1.length : Int)) = true := decide_eq_true c3
    clear c3
    by_cases c4 : x6_1 > 0
    ·rw [if_pos c4] at H
     have c4b0 : decide (0 < x6_1) = true := decide_eq_true c4
     clear c4
     obtain ⟨ji5, hji5⟩ : ∃ j_ : Int, (wrap64 (x6_1 - 1)) = j_ := ⟨_, rfl⟩
     replace H : (if 0 ≤ (ji5) then (if (ji5) < (l1.length : Int) then (if 0 ≤ x6_1 then ((silversideref07_Common.f k1 a0 (rd l1 (ji5)) a0 (rd l1 x6_1)).bind fun t267 => (if x5_1.length < 17592186044416 then (silversideref07_Overlaps.l0 k1 a0 l1 (x5_1 ++ [t267]) (wrap64 (x6_1 + 1))) else (none))) else (none)) else (none)) else (none)) = some r := by first | (rw [hji5] at H; exact H) | (simp only [hji5] at H ⊢; exact H)
     have hji5w : (IntKind.i64.wrap (x6_1 - 1)) = ji5 := (i64_w _).trans hji5
     by_cases c6 : 0 ≤ (ji5)
     ·rw [if_pos c6] at H
      have c6b0 : decide (0 ≤ (ji5)) = true := decide_eq_true c6
      clear c6
      by_cases c7 : (ji5) < (l1.length : Int)
      ·rw [if_pos c7] at H
       have c7b0 : decide ((ji5) < (l1.length : Int)) = true := decide_eq_true c7
       clear c7
       by_cases c8 : 0 ≤ x6_1
       ·rw [if_pos c8] at H
        have c8b0 : decide (0 ≤ x6_1) = true := decide_eq_true c8
        clear c8
        replace H := Option.bind_eq_some_iff.mp H
        obtain ⟨t267, A90, H⟩ := H
        replace H : (if x5_1.length < 17592186044416 then (silversideref07_Overlaps.l0 k1 a0 l1 (x5_1 ++ [t267]) (wrap64 (x6_1 + 1))) else (none)) = some r := H
        have A9 := Aside0.mk A90
        clear A90
        by_cases c10 : x5_1.length < 17592186044416
        ·rw [if_pos c10] at H
         have LMc10 := Aside0.mk c10
         clear c10
         obtain ⟨y268, hy268⟩ : ∃ y_ : List Int, y_ = (x5_1 ++ [t267]) := ⟨_, rfl⟩
         replace H : (silversideref07_Overlaps.l0 k1 a0 l1 y268 (wrap64 (x6_1 + 1))) = some r := by first | (rw [hy268]; with_reducible exact H) | (have H2_ := (Option.bind_some _ _).symm.trans H; rw [hy268]; with_reducible exact H2_) | (have H2_ := (Option.bind_some _ _).symm.trans H; with_reducible exact H2_) | with_reducible exact H | (rw [hy268]; exact H) | exact H
         have Ny268 := Aside0.mk hy268
         clear hy268
         have H' := Aside0.mk H
         clear H
         have p265 : 0 ≤ ((ji5) : Int) := of_decide_eq_true (by first | (with_reducible assumption) | assumption)
         have q265 : (ji5) < (l1.length : Int) := of_decide_eq_true (by first | (with_reducible assumption) | assumption)
         obtain ⟨ad265, e265, hx265_0⟩ := Kd.at_int HR1.out (ji5) p265 q265
         cases e265
         replace hx265_0 := (HB.out.cell (World.block_lt_of_cell? w _ hx265_0)).trans hx265_0
         replace p265 := eq_true p265
         replace q265 := eq_true q265
         have p266 : 0 ≤ (x6_1 : Int) := of_decide_eq_true (by first | (with_reducible assumption) | assumption)
         have q266 : x6_1 < (l1.length : Int) := of_decide_eq_true (by first | (with_reducible assumption) | assumption)
         obtain ⟨ad266, e266, hx266_0⟩ := Kd.at_int HR1.out x6_1 p266 q266
         obtain rfl : ad265 = ad266 := (by injection e266)
         replace hx266_0 := (HB.out.cell (World.block_lt_of_cell? w _ hx266_0)).trans hx266_0
         replace p266 := eq_true p266
         replace q266 := eq_true q266
         go_wp2_with (first | (go_at_call 43; (with_reducible refine (silversideref07_Common.calls k1 a0 (rd l1 (ji5)) a0 (rd l1 x6_1) t267 _ A9.out).mono ?_); rintro e w' ⟨rfl, ⟨nd, rfl⟩⟩; (try first | exact ⟨rfl, _, World.drewN_drewN _ _ _⟩ | exact ⟨rfl, _, Eq.trans (World.drewN_drewN _ _ _) (congrArg (World.drewN _) (Nat.add_assoc _ _ _))⟩)) | ((with_reducible refine gate_builtin (b := .append) (xs := #[.tmp 28, .tmp 30]) rfl ?_); at_builtin; refine Kd.R_append (Kd.int .i64) (w0 := w) w.heap.size rfl (.tmp 28) (.tmp 30) 22 3 (.int .i64 0) 8 rfl Try.underlying22 info3 rfl (by decide) (by omega) u5 x5_1 t267 [.int .i64 t267] (fun _ => True) (fun _ => False) rfl rfl ?aP (fun _ hk => hk.elim) ?aF ?aO ?aB ?aS ?aL ?_; (case aP => exact rfl); (case aB => exact (by repeat (first | (with_reducible first | exact HB.out | apply below_alloc | apply pw_below_drewN | apply below_drew1) | exact HB.out))); (case aF => exact (fun _ _ => trivial)); (case aO => exact (by (with_reducible repeat (first | apply Kd.R_alloc | apply Kd.R_drewN | apply Kd.R_drew)); exact HO_5.out)); (case aS => exact (below_size (by repeat (first | (with_reducible first | exact HB.out | apply below_alloc | apply pw_below_drewN | apply below_drew1) | exact HB.out)))); (case aL => have := LMc10.out; omega); intro v269 w11 ho hb hg hat; rw [← Ny268.out] at ho; have n0_ := Aside0.mk (hb); have n1_ := Aside0.mk (ho); clear HB; clear HO_5; have HB := n0_; have HO270 := n1_; clear n0_ n1_; clear ho hb hg hat))
         repeat (go_quiet (first | (go_at_call 43; (with_reducible refine (silversideref07_Common.calls k1 a0 (rd l1 (ji5)) a0 (rd l1 x6_1) t267 _ A9.out).mono ?_); rintro e w' ⟨rfl, ⟨nd, rfl⟩⟩; (try first | exact ⟨rfl, _, World.drewN_drewN _ _ _⟩ | exact ⟨rfl, _, Eq.trans (World.drewN_drewN _ _ _) (congrArg (World.drewN _) (Nat.add_assoc _ _ _))⟩)) | ((with_reducible refine gate_builtin (b := .append) (xs := #[.tmp 28, .tmp 30]) rfl ?_); at_builtin; refine Kd.R_append (Kd.int .i64) (w0 := w) w.heap.size rfl (.tmp 28) (.tmp 30) 22 3 (.int .i64 0) 8 rfl Try.underlying22 info3 rfl (by decide) (by omega) u5 x5_1 t267 [.int .i64 t267] (fun _ => True) (fun _ => False) rfl rfl ?aP (fun _ hk => hk.elim) ?aF ?aO ?aB ?aS ?aL ?_; (case aP => exact rfl); (case aB => exact (by repeat (first | (with_reducible first | exact HB.out | apply below_alloc | apply pw_below_drewN | apply below_drew1) | exact HB.out))); (case aF => exact (fun _ _ => trivial)); (case aO => exact (by (with_reducible repeat (first | apply Kd.R_alloc | apply Kd.R_drewN | apply Kd.R_drew)); exact HO_5.out)); (case aS => exact (below_size (by repeat (first | (with_reducible first | exact HB.out | apply below_alloc | apply pw_below_drewN | apply below_drew1) | exact HB.out)))); (case aL => have := LMc10.out; omega); intro v269 w11 ho hb hg hat; rw [← Ny268.out] at ho; have n0_ := Aside0.mk (hb); have n1_ := Aside0.mk (ho); clear HB; clear HO_5; have HB := n0_; have HO270 := n1_; clear n0_ n1_; clear ho hb hg hat)); try go_wp2_with (first | (go_at_call 43; (with_reducible refine (silversideref07_Common.calls k1 a0 (rd l1 (ji5)) a0 (rd l1 x6_1) t267 _ A9.out).mono ?_); rintro e w' ⟨rfl, ⟨nd, rfl⟩⟩; (try first | exact ⟨rfl, _, World.drewN_drewN _ _ _⟩ | exact ⟨rfl, _, Eq.trans (World.drewN_drewN _ _ _) (congrArg (World.drewN _) (Nat.add_assoc _ _ _))⟩)) | ((with_reducible refine gate_builtin (b := .append) (xs := #[.tmp 28, .tmp 30]) rfl ?_); at_builtin; refine Kd.R_append (Kd.int .i64) (w0 := w) w.heap.size rfl (.tmp 28) (.tmp 30) 22 3 (.int .i64 0) 8 rfl Try.underlying22 info3 rfl (by decide) (by omega) u5 x5_1 t267 [.int .i64 t267] (fun _ => True) (fun _ => False) rfl rfl ?aP (fun _ hk => hk.elim) ?aF ?aO ?aB ?aS ?aL ?_; (case aP => exact rfl); (case aB => exact (by repeat (first | (with_reducible first | exact HB.out | apply below_alloc | apply pw_below_drewN | apply below_drew1) | exact HB.out))); (case aF => exact (fun _ _ => trivial)); (case aO => exact (by (with_reducible repeat (first | apply Kd.R_alloc | apply Kd.R_drewN | apply Kd.R_drew)); exact HO_5.out)); (case aS => exact (below_size (by repeat (first | (with_reducible first | exact HB.out | apply below_alloc | apply pw_below_drewN | apply below_drew1) | exact HB.out)))); (case aL => have := LMc10.out; omega); intro v269 w11 ho hb hg hat; rw [← Ny268.out] at ho; have n0_ := Aside0.mk (hb); have n1_ := Aside0.mk (ho); clear HB; clear HO_5; have HB := n0_; have HO270 := n1_; clear n0_ n1_; clear ho hb hg hat)))
         go_roundg k1
         case measure => have := HK1.out; omega
         case rel => exact ⟨(y268), (wrap64 (x6_1 + 1)), (by first | rfl | (simp; done) | (simp [*]; done)), H', ⟨by have := HK1.out; omega⟩, ⟨by (with_reducible repeat (first | apply Kd.R_alloc | apply Kd.R_drewN | apply Kd.R_drew)); exact HO270.out⟩, ⟨by repeat (first | (with_reducible first | exact HB.out | apply below_alloc | apply pw_below_drewN | apply below_drew1) | exact HB.out)⟩⟩
        ·rw [if_neg c10] at H
         exact absurd H (by simp)
       ·rw [if_neg c8] at H
        exact absurd H (by simp)
      ·rw [if_neg c7] at H
       exact absurd H (by simp)
     ·rw [if_neg c6] at H
      exact absurd H (by simp)
    ·rw [if_neg c4] at H
     have c4b0 : decide (0 < x6_1) = false := decide_eq_false c4
     clear c4
     by_cases c12 : x5_1.length < 17592186044416
     ·rw [if_pos c12] at H
      have LMc12 := Aside0.mk c12
      clear c12
      obtain ⟨y271, hy271⟩ : ∃ y_ : List Int, y_ = (x5_1 ++ [0]) := ⟨_, rfl⟩
      replace H : (silversideref07_Overlaps.l0 k1 a0 l1 y271 (wrap64 (x6_1 + 1))) = some r := by first | (rw [hy271]; with_reducible exact H) | (have H2_ := (Option.bind_some _ _).symm.trans H; rw [hy271]; with_reducible exact H2_) | (have H2_ := (Option.bind_some _ _).symm.trans H; with_reducible exact H2_) | with_reducible exact H | (rw [hy271]; exact H) | exact H
      have Ny271 := Aside0.mk hy271
      clear hy271
      have H' := Aside0.mk H
      clear H
      go_wp2_with (first | ((with_reducible refine gate_builtin (b := .append) (xs := #[.tmp 28, .tmp 30]) rfl ?_); at_builtin; refine Kd.R_append (Kd.int .i64) (w0 := w) w.heap.size rfl (.tmp 28) (.tmp 30) 22 3 (.int .i64 0) 8 rfl Try.underlying22 info3 rfl (by decide) (by omega) u5 x5_1 0 [.int .i64 0] (fun _ => True) (fun _ => False) rfl rfl ?aP (fun _ hk => hk.elim) ?aF ?aO ?aB ?aS ?aL ?_; (case aP => exact rfl); (case aB => exact (by repeat (first | (with_reducible first | exact HB.out | apply below_alloc | apply pw_below_drewN | apply below_drew1) | exact HB.out))); (case aF => exact (fun _ _ => trivial)); (case aO => exact (by (with_reducible repeat (first | apply Kd.R_alloc | apply Kd.R_drewN | apply Kd.R_drew)); exact HO_5.out)); (case aS => exact (below_size (by repeat (first | (with_reducible first | exact HB.out | apply below_alloc | apply pw_below_drewN | apply below_drew1) | exact HB.out)))); (case aL => have := LMc12.out; omega); intro v272 w13 ho hb hg hat; rw [← Ny271.out] at ho; have n0_ := Aside0.mk (hb); have n1_ := Aside0.mk (ho); clear HB; clear HO_5; have HB := n0_; have HO273 := n1_; clear n0_ n1_; clear ho hb hg hat))
      repeat (go_quiet (first | ((with_reducible refine gate_builtin (b := .append) (xs := #[.tmp 28, .tmp 30]) rfl ?_); at_builtin; refine Kd.R_append (Kd.int .i64) (w0 := w) w.heap.size rfl (.tmp 28) (.tmp 30) 22 3 (.int .i64 0) 8 rfl Try.underlying22 info3 rfl (by decide) (by omega) u5 x5_1 0 [.int .i64 0] (fun _ => True) (fun _ => False) rfl rfl ?aP (fun _ hk => hk.elim) ?aF ?aO ?aB ?aS ?aL ?_; (case aP => exact rfl); (case aB => exact (by repeat (first | (with_reducible first | exact HB.out | apply below_alloc | apply pw_below_drewN | apply below_drew1) | exact HB.out))); (case aF => exact (fun _ _ => trivial)); (case aO => exact (by (with_reducible repeat (first | apply Kd.R_alloc | apply Kd.R_drewN | apply Kd.R_drew)); exact HO_5.out)); (case aS => exact (below_size (by repeat (first | (with_reducible first | exact HB.out | apply below_alloc | apply pw_below_drewN | apply below_drew1) | exact HB.out)))); (case aL => have := LMc12.out; omega); intro v272 w13 ho hb hg hat; rw [← Ny271.out] at ho; have n0_ := Aside0.mk (hb); have n1_ := Aside0.mk (ho); clear HB; clear HO_5; have HB := n0_; have HO273 := n1_; clear n0_ n1_; clear ho hb hg hat)); try go_wp2_with (first | ((with_reducible refine gate_builtin (b := .append) (xs := #[.tmp 28, .tmp 30]) rfl ?_); at_builtin; refine Kd.R_append (Kd.int .i64) (w0 := w) w.heap.size rfl (.tmp 28) (.tmp 30) 22 3 (.int .i64 0) 8 rfl Try.underlying22 info3 rfl (by decide) (by omega) u5 x5_1 0 [.int .i64 0] (fun _ => True) (fun _ => False) rfl rfl ?aP (fun _ hk => hk.elim) ?aF ?aO ?aB ?aS ?aL ?_; (case aP => exact rfl); (case aB => exact (by repeat (first | (with_reducible first | exact HB.out | apply below_alloc | apply pw_below_drewN | apply below_drew1) | exact HB.out))); (case aF => exact (fun _ _ => trivial)); (case aO => exact (by (with_reducible repeat (first | apply Kd.R_alloc | apply Kd.R_drewN | apply Kd.R_drew)); exact HO_5.out)); (case aS => exact (below_size (by repeat (first | (with_reducible first | exact HB.out | apply below_alloc | apply pw_below_drewN | apply below_drew1) | exact HB.out)))); (case aL => have := LMc12.out; omega); intro v272 w13 ho hb hg hat; rw [← Ny271.out] at ho; have n0_ := Aside0.mk (hb); have n1_ := Aside0.mk (ho); clear HB; clear HO_5; have HB := n0_; have HO273 := n1_; clear n0_ n1_; clear ho hb hg hat)))
      go_roundg k1
      case measure => have := HK1.out; omega
      case rel => exact ⟨(y271), (wrap64 (x6_1 + 1)), (by first | rfl | (simp; done) | (simp [*]; done)), H', ⟨by have := HK1.out; omega⟩, ⟨by (with_reducible repeat (first | apply Kd.R_alloc | apply Kd.R_drewN | apply Kd.R_drew)); exact HO273.out⟩, ⟨by repeat (first | (with_reducible first | exact HB.out | apply below_alloc | apply pw_below_drewN | apply below_drew1) | exact HB.out)⟩⟩
     ·rw [if_neg c12] at H
      exact absurd H (by simp)
   ·rw [if_neg c3] at H
    have c3b0 : decide (x6_1 < (l1.length : Int)) = false := decide_eq_false c3
    clear c3
    obtain rfl := Option.some.inj H
    go_wp2
    repeat (go_quiet (fail); try go_wp2)
    go_ret
    exact ⟨_, by first | rfl | (simp [errW_none, errW_some] <;> rfl) | (simp [*, errW_none, errW_some] <;> rfl), by (with_reducible repeat (first | apply Kd.R_alloc | apply Kd.R_drewN | apply Kd.R_drew)); exact HO_5.out, by repeat (first | (with_reducible first | exact HB.out | apply below_alloc | apply pw_below_drewN | apply below_drew1) | exact HB.out)⟩


/-! ### silversideref07_Turn: function 24 -/
mutual
def silversideref07_Turn.j0 : Nat → ByteArray → List Int → List Int → Int → Option (ByteArray × Int)
 | 0, _, _, _, _ => none
 | k + 1, x0, x4, x5, x6 => silversideref07_Turn.l0 k x0 x4 x5 x6 0
def silversideref07_Turn.l0 : Nat → ByteArray → List Int → List Int → Int → Int → Option (ByteArray × Int)
 | 0, _, _, _, _, _ => none
 | k + 1, x0, x4, x5, x6, x7 => if x7 < (x4.length : Int) then (if 0 ≤ x7 then (if (rd x4 x7) = 0 then (silversideref07_Turn.l0 k x0 x4 x5 (wrap64 (x7 + 1)) (wrap64 (x7 + 1))) else (if 0 ≤ (wrap64 ((rd x4 x7) - 1)) then (if (wrap64 ((rd x4 x7) - 1)) < (x0.size : Int) then (if x5.length < 140737488355328 then (silversideref07_Turn.l0 k x0 x4 (x5 ++ [bt x0 (wrap64 ((rd x4 x7) - 1))]) x6 (wrap64 (x7 + 1))) else (none)) else (none)) else (none))) else (none)) else (some (strOfNums x5, x6))
end
def silversideref07_Turn.f (k : Nat) (a0 : ByteArray) : Option (ByteArray × Int) := (silversideref07_Order.f k a0).bind fun t193 => (if (a0.size : Int) > 0 then (if 0 ≤ (wrap64 ((a0.size : Int) - 1)) then (if (wrap64 ((a0.size : Int) - 1)) < (a0.size : Int) then (if ([] : List Int).length < 140737488355328 then (silversideref07_Turn.j0 k a0 t193 (([] : List Int) ++ [bt a0 (wrap64 ((a0.size : Int) - 1))]) 0) else (none)) else (none)) else (none)) else (silversideref07_Turn.j0 k a0 t193 ([] : List Int) 0))
theorem silversideref07_Turn.mono_l : ∀ k, (∀ y0 y1 y2 y3, LeO (silversideref07_Turn.j0 k y0 y1 y2 y3) (silversideref07_Turn.j0 (k + 1) y0 y1 y2 y3)) ∧ (∀ y0 y1 y2 y3 y4, LeO (silversideref07_Turn.l0 k y0 y1 y2 y3 y4) (silversideref07_Turn.l0 (k + 1) y0 y1 y2 y3 y4))
 | 0 => ⟨fun _ _ _ _ r h => by simp [silversideref07_Turn.j0] at h, fun _ _ _ _ _ r h => by simp [silversideref07_Turn.l0] at h⟩
 | k + 1 => by
  obtain ⟨ih0, ih1⟩ := silversideref07_Turn.mono_l k
  refine ⟨?_, ?_⟩
  ·intro y0 y1 y2 y3
   unfold silversideref07_Turn.j0
   repeat' first
   | (with_reducible exact ih0 _ _ _ _)
   | (with_reducible exact ih1 _ _ _ _ _)
   | (with_reducible exact silversideref07_Order.mono _ _)
   | (with_reducible exact LeO.refl _)
   | (with_reducible exact LeO.none _)
   | (with_reducible refine LeO.ite ?_ ?_)
   | (with_reducible refine LeO.bind ?_ (fun _ => ?_))
   | exact ih0 _ _ _ _
   | exact ih1 _ _ _ _ _
   | exact silversideref07_Order.mono _ _
   | exact LeO.none _
   | refine LeO.ite ?_ ?_
   | refine LeO.bind ?_ (fun _ => ?_)
  ·intro y0 y1 y2 y3 y4
   unfold silversideref07_Turn.l0
   repeat' first
   | (with_reducible exact ih0 _ _ _ _)
   | (with_reducible exact ih1 _ _ _ _ _)
   | (with_reducible exact silversideref07_Order.mono _ _)
   | (with_reducible exact LeO.refl _)
   | (with_reducible exact LeO.none _)
   | (with_reducible refine LeO.ite ?_ ?_)
   | (with_reducible refine LeO.bind ?_ (fun _ => ?_))
   | exact ih0 _ _ _ _
   | exact ih1 _ _ _ _ _
   | exact silversideref07_Order.mono _ _
   | exact LeO.none _
   | refine LeO.ite ?_ ?_
   | refine LeO.bind ?_ (fun _ => ?_)
theorem silversideref07_Turn.mono : ∀ a0 k, LeO (silversideref07_Turn.f k a0) (silversideref07_Turn.f (k + 1) a0) := by
 intro a0 k
 obtain ⟨ih0, ih1⟩ := silversideref07_Turn.mono_l k
 unfold silversideref07_Turn.f
 repeat' first
   | (with_reducible exact ih0 _ _ _ _)
   | (with_reducible exact ih1 _ _ _ _ _)
   | (with_reducible exact silversideref07_Order.mono _ _)
   | (with_reducible exact LeO.refl _)
   | (with_reducible exact LeO.none _)
   | (with_reducible refine LeO.ite ?_ ?_)
   | (with_reducible refine LeO.bind ?_ (fun _ => ?_))
   | exact ih0 _ _ _ _
   | exact ih1 _ _ _ _ _
   | exact silversideref07_Order.mono _ _
   | exact LeO.none _
   | refine LeO.ite ?_ ?_
   | refine LeO.bind ?_ (fun _ => ?_)
set_option maxHeartbeats 8000000 in
set_option maxRecDepth 100000 in
theorem silversideref07_Turn.calls (k : Nat) (a0 : ByteArray) (r1 : ByteArray) (r2 : Int) (w : World) (h : silversideref07_Turn.f k a0 = some (r1, r2)) :
  Calls Try.prog 24 #[.string a0] w fun e w' => e = .returned (.tuple #[.string r1, .int .i64 r2]) ∧ Below w.heap.size w w' := by
 have HB := Aside0.mk (Below.refl w.heap.size w)
 have H : ((silversideref07_Order.f k a0).bind fun t193 => (if (a0.size : Int) > 0 then (if 0 ≤ (wrap64 ((a0.size : Int) - 1)) then (if (wrap64 ((a0.size : Int) - 1)) < (a0.size : Int) then (if ([] : List Int).length < 140737488355328 then (silversideref07_Turn.j0 k a0 t193 (([] : List Int) ++ [bt a0 (wrap64 ((a0.size : Int) - 1))]) 0) else (none)) else (none)) else (none)) else (silversideref07_Turn.j0 k a0 t193 ([] : List Int) 0))) = some (r1, r2) := h
 clear h
 replace H := Option.bind_eq_some_iff.mp H
 obtain ⟨t193, A20, H⟩ := H
 replace H : (if (a0.size : Int) > 0 then (if 0 ≤ (wrap64 ((a0.size : Int) - 1)) then (if (wrap64 ((a0.size : Int) - 1)) < (a0.size : Int) then (if ([] : List Int).length < 140737488355328 then (silversideref07_Turn.j0 k a0 t193 (([] : List Int) ++ [bt a0 (wrap64 ((a0.size : Int) - 1))]) 0) else (none)) else (none)) else (none)) else (silversideref07_Turn.j0 k a0 t193 ([] : List Int) 0)) = some (r1, r2) := H
 have A2 := Aside0.mk A20
 clear A20
 have HC3 := Aside0.mk H
 clear H
 go_enter Try.func24, Try.ntmps24
 go_upto_if 12 with (first | ((with_reducible refine gate_callee (f := 32) rfl ?_); refine goesL_ (some 9) rfl rfl Try.func32 (by kernel_rfl) rfl #[.string a0] rfl (by (try simp only [List.map_toArray, List.map_cons, List.map_nil]); first | done | rfl | (simp only [List.length_drop, List.length_take]; rfl)) ?_; (with_reducible refine (silversideref07_Order.calls k a0 t193 _ A2.out).mono ?_); rintro e w4 ⟨v194, rfl, ho0, hb⟩; refine ⟨_, rfl, ?_⟩; have n0_ := Aside0.mk (Kd.R_lower ho0 (below_size (by repeat (first | (with_reducible first | exact HB.out | apply below_alloc | apply pw_below_drewN | apply below_drew1) | exact HB.out)))); have n1_ := Aside0.mk (below_step (by repeat (first | (with_reducible first | exact HB.out | apply below_alloc | apply pw_below_drewN | apply below_drew1) | exact HB.out)) hb); clear HB; have HO195 := n0_; have HB := n1_; clear n0_ n1_; (try clear hb); (try clear hb2); (try clear hk); (try clear hi); (try clear ho0)))
 (try simp only [Act.put, List.setIfInBounds_toArray, List.set_cons_zero, List.set_cons_succ])
 go_cut [5] (fun v5 wc => ∃ (kq : Nat) (x5_2 : List Int), Aside0 (silversideref07_Turn.j0 kq a0 t193 x5_2 0 = some (r1, r2)) ∧ Aside0 (kq ≤ k) ∧ Aside0 (Kd.R (Kd.int .i64) 3 wc w.heap.size (fun _ => True) v194 t193) ∧ Aside0 (Kd.R (Kd.int .u8) 5 wc w.heap.size (fun _ => True) v5 x5_2) ∧ Aside0 (Below w.heap.size w wc))
 case first =>
  have H := HC3.out
  clear HC3
  by_cases c5 : (a0.size : Int) > 0
  ·rw [if_pos c5] at H
   have c5b0 : decide (0 < (a0.size : Int)) = true := decide_eq_true c5
   have c5b1 : decide (0 < a0.size) = true := decide_eq_true (by omega)
   clear c5
   (first | rw [c5b0] | (simp only [i64_w, i32_w]; rw [c5b0]) | rw [c5b1] | skip)
   obtain ⟨ji6, hji6⟩ : ∃ j_ : Int, (wrap64 ((a0.size : Int) - 1)) = j_ := ⟨_, rfl⟩
   replace H : (if 0 ≤ (ji6) then (if (ji6) < (a0.size : Int) then (if ([] : List Int).length < 140737488355328 then (silversideref07_Turn.j0 k a0 t193 (([] : List Int) ++ [bt a0 (ji6)]) 0) else (none)) else (none)) else (none)) = some (r1, r2) := by first | (rw [hji6] at H; exact H) | (simp only [hji6] at H ⊢; exact H)
   have hji6w : (IntKind.i64.wrap ((a0.size : Int) - 1)) = ji6 := (i64_w _).trans hji6
   by_cases c7 : 0 ≤ (ji6)
   ·rw [if_pos c7] at H
    have c7b0 : decide (0 ≤ (ji6)) = true := decide_eq_true c7
    clear c7
    by_cases c8 : (ji6) < (a0.size : Int)
    ·rw [if_pos c8] at H
     have c8b0 : decide ((ji6) < (a0.size : Int)) = true := decide_eq_true c8
     clear c8
     by_cases c10 : ([] : List Int).length < 140737488355328
     ·rw [if_pos c10] at H
      have LMc10 := Aside0.mk c10
      clear c10
      obtain ⟨y196, hy196⟩ : ∃ y_ : List Int, y_ = (([] : List Int) ++ [bt a0 (ji6)]) := ⟨_, rfl⟩
      replace H : (silversideref07_Turn.j0 k a0 t193 y196 0) = some (r1, r2) := by first | (rw [hy196]; with_reducible exact H) | (have H2_ := (Option.bind_some _ _).symm.trans H; rw [hy196]; with_reducible exact H2_) | (have H2_ := (Option.bind_some _ _).symm.trans H; with_reducible exact H2_) | with_reducible exact H | (rw [hy196]; exact H) | exact H
      have Ny196 := Aside0.mk hy196
      clear hy196
      have H' := Aside0.mk H
      clear H
      have p9 : 0 ≤ ((ji6) : Int) := of_decide_eq_true (by first | (with_reducible assumption) | assumption)
      have q9 : (ji6) < (a0.size : Int) := of_decide_eq_true (by first | (with_reducible assumption) | assumption)
      have hx9 := bt_at a0 (ji6)
      replace p9 := eq_true p9
      replace q9 := eq_true q9
      go_wp2_with (first | ((with_reducible refine gate_builtin (b := .append) (xs := #[.tmp 13, .tmp 19]) rfl ?_); at_builtin; refine Kd.R_append (Kd.int .u8) (w0 := w) w.heap.size rfl (.tmp 13) (.tmp 19) 66 5 (.int .u8 0) 1 rfl Try.underlying66 info5 rfl (by decide) (by omega) (.slice none 0 0) ([] : List Int) (bt a0 (ji6)) [.int .u8 (bt a0 (ji6))] (fun _ => True) (fun _ => False) rfl rfl ?aP (fun _ hk => hk.elim) ?aF ?aO ?aB ?aS ?aL ?_; (case aP => exact rfl); (case aB => exact (by repeat (first | (with_reducible first | exact HB.out | apply below_alloc | apply pw_below_drewN | apply below_drew1) | exact HB.out))); (case aF => exact (fun _ _ => trivial)); (case aO => exact ((Kd.R_nil _ _ _ _ (fun _ => True)))); (case aS => exact (below_size (by repeat (first | (with_reducible first | exact HB.out | apply below_alloc | apply pw_below_drewN | apply below_drew1) | exact HB.out)))); (case aL => have := LMc10.out; omega); intro v197 w11 ho hb hg hat; rw [← Ny196.out] at ho; have n0_ := Aside0.mk (Kd.R_grown (by (with_reducible repeat (first | apply Kd.R_alloc | apply Kd.R_drewN | apply Kd.R_drew)); exact HO195.out) hg (fun _ _ => by simp [Value.ownBlock])); have n1_ := Aside0.mk (hb); have n2_ := Aside0.mk (ho); clear HO195; clear HB; have HO195 := n0_; have HB := n1_; have HO198 := n2_; clear n0_ n1_ n2_; clear ho hb hg hat))
      go_meet
      case rel => exact ⟨_, (y196), H', ⟨by first | omega | exact Nat.le_refl _⟩, ⟨by (with_reducible repeat (first | apply Kd.R_alloc | apply Kd.R_drewN | apply Kd.R_drew)); exact HO195.out⟩, ⟨by (with_reducible repeat (first | apply Kd.R_alloc | apply Kd.R_drewN | apply Kd.R_drew)); exact HO198.out⟩, ⟨by repeat (first | (with_reducible first | exact HB.out | apply below_alloc | apply pw_below_drewN | apply below_drew1) | exact HB.out)⟩⟩
     ·rw [if_neg c10] at H
      exact absurd H (by simp)
    ·rw [if_neg c8] at H
     exact absurd H (by simp)
   ·rw [if_neg c7] at H
    exact absurd H (by simp)
  ·rw [if_neg c5] at H
   have c5b0 : decide (0 < (a0.size : Int)) = false := decide_eq_false c5
   have c5b1 : decide (0 < a0.size) = false := decide_eq_false (by omega)
   clear c5
   (first | rw [c5b0] | (simp only [i64_w, i32_w]; rw [c5b0]) | rw [c5b1] | skip)
   have H' := Aside0.mk H
   clear H
   go_wp2
   go_meet
   case rel => exact ⟨_, (([] : List Int)), H', ⟨by first | omega | exact Nat.le_refl _⟩, ⟨by (with_reducible repeat (first | apply Kd.R_alloc | apply Kd.R_drewN | apply Kd.R_drew)); exact HO195.out⟩, ⟨by first | exact Kd.R_nil _ _ _ _ _ | exact Kd.N_nil _ _ _ _ _ | exact Kd.V_nil _ _ _ _ _ | exact Kd.Q_nil _ _ _ _ _ | exact Kd.S_nil _ _ _ _ _⟩, ⟨by repeat (first | (with_reducible first | exact HB.out | apply below_alloc | apply pw_below_drewN | apply below_drew1) | exact HB.out)⟩⟩
 case rest =>
  clear HC3
  try clear c1
  try clear c2
  try clear p2
  try clear c3
  try clear c5
  try clear c5b0
  try clear c5b1
  try clear p6
  try clear c7
  try clear c7b0
  try clear c8
  try clear c8b0
  try clear p9
  try clear q9
  try clear hx9
  try clear c10
  try clear p9
  try clear q9
  obtain ⟨kq, x5_2, HA, HJ2, HO_4, HO_5, HB⟩ := hcut
  cases kq with
  | zero => exact absurd HA.out (by simp [silversideref07_Turn.j0])
  | succ kj2 =>
   have H := HA.out
   clear HA
   simp only [silversideref07_Turn.j0] at H
   have H' := Aside0.mk H
   clear H
   go_wp2
   go_loopg [5, 6, 7] kj2 (fun kq v5 v6 v7 w' => ∃ (x5_2 : List Int) (x6_2 : Int) (x7_2 : Int), v6 = .int .i64 x6_2 ∧ v7 = .int .i64 x7_2 ∧ Aside0 (silversideref07_Turn.l0 kq a0 t193 x5_2 x6_2 x7_2 = some (r1, r2)) ∧ Aside0 (kq ≤ kj2) ∧ Aside0 (Kd.R (Kd.int .i64) 3 w' w.heap.size (fun _ => True) v194 t193) ∧ Aside0 (Kd.R (Kd.int .u8) 5 w' w.heap.size (fun _ => True) v5 x5_2) ∧ Aside0 (Below w.heap.size w w'))
   case atStart => exact ⟨(x5_2), (0), (0), (by first | rfl | (simp; done) | (simp [*]; done)), (by first | rfl | (simp; done) | (simp [*]; done)), H', ⟨Nat.le_refl _⟩, ⟨by (with_reducible repeat (first | apply Kd.R_alloc | apply Kd.R_drewN | apply Kd.R_drew)); exact HO_4.out⟩, ⟨by (with_reducible repeat (first | apply Kd.R_alloc | apply Kd.R_drewN | apply Kd.R_drew)); exact HO_5.out⟩, ⟨by repeat (first | (with_reducible first | exact HB.out | apply below_alloc | apply pw_below_drewN | apply below_drew1) | exact HB.out)⟩⟩
   case round =>
    clear H'
    try clear c1
    try clear c2
    try clear p2
    try clear c3
    try clear c5
    try clear c5b0
    try clear c5b1
    try clear p6
    try clear c7
    try clear c7b0
    try clear c8
    try clear c8b0
    try clear p9
    try clear q9
    try clear hx9
    try clear c10
    try clear p2
    try clear p6
    try clear p9
    try clear q9
    obtain ⟨x5_2, x6_2, x7_2, rfl, rfl, HA, HK2, HO_4, HO_5, HB⟩ := hrel
    cases gk with
    | zero => exact absurd HA.out (by simp [silversideref07_Turn.l0])
    | succ k2 =>
     have H := HA.out
     clear HA
     simp only [silversideref07_Turn.l0] at H
     by_cases c12 : x7_2 < (t193.length : Int)
     ·rw [if_pos c12] at H
      have c12b0 : decide (x7_2 < (t193.length : Int)) = true := decide_eq_true c12
      clear c12
      by_cases c13 : 0 ≤ x7_2
      ·rw [if_pos c13] at H
       have c13b0 : decide (0 ≤ x7_2) = true := decide_eq_true c13
       clear c13
       by_cases c14 : (rd t193 x7_2) = 0
       ·rw [if_pos c14] at H
        have c14b0 : ((rd t193 x7_2) == 0) = true := beq_iff_eq.mpr c14
        have c14b1 : ((rd t193 x7_2) != 0) = false := bne_eq_false_iff_eq.mpr c14
        clear c14
        have H' := Aside0.mk H
        clear H
        obtain ⟨Ao15, co15, eo15⟩ := Kd.R_slice HO_4.out
        subst eo15
        have p199 : 0 ≤ (x7_2 : Int) := of_decide_eq_true (by first | (with_reducible assumption) | assumption)
        have q199 : x7_2 < (t193.length : Int) := of_decide_eq_true (by first | (with_reducible assumption) | assumption)
        obtain ⟨ad199, e199, hx199_0⟩ := Kd.at_int (Kd.R_reads' HO_4.out).2.2 x7_2 p199 q199
        cases e199
        replace p199 := eq_true p199
        replace q199 := eq_true q199
        go_wp2
        go_roundg k2
        case measure => have := HJ2.out; have := HK2.out; omega
        case rel => exact ⟨(x5_2), (wrap64 (x7_2 + 1)), (wrap64 (x7_2 + 1)), (by first | rfl | (simp; done) | (simp [*]; done)), (by first | rfl | (simp; done) | (simp [*]; done)), H', ⟨by have := HJ2.out; have := HK2.out; omega⟩, ⟨by (with_reducible repeat (first | apply Kd.R_alloc | apply Kd.R_drewN | apply Kd.R_drew)); exact HO_4.out⟩, ⟨by (with_reducible repeat (first | apply Kd.R_alloc | apply Kd.R_drewN | apply Kd.R_drew)); exact HO_5.out⟩, ⟨by repeat (first | (with_reducible first | exact HB.out | apply below_alloc | apply pw_below_drewN | apply below_drew1) | exact HB.out)⟩⟩
       ·rw [if_neg c14] at H
        have c14b0 : ((rd t193 x7_2) == 0) = false := beq_eq_false_iff_ne.mpr c14
        have c14b1 : ((rd t193 x7_2) != 0) = true := bne_iff_ne.mpr c14
        obtain ⟨ji16, hji16⟩ : ∃ j_ : Int, (wrap64 ((rd t193 x7_2) - 1)) = j_ := ⟨_, rfl⟩
        replace H : (if 0 ≤ (ji16) then (if (ji16) < (a0.size : Int) then (if x5_2.length < 140737488355328 then (silversideref07_Turn.l0 k2 a0 t193 (x5_2 ++ [bt a0 (ji16)]) x6_2 (wrap64 (x7_2 + 1))) else (none)) else (none)) else (none)) = some (r1, r2) := by first | (rw [hji16] at H; exact H) | (simp only [hji16] at H ⊢; exact H)
        have hji16w : (IntKind.i64.wrap ((rd t193 x7_2) - 1)) = ji16 := (i64_w _).trans hji16
        by_cases c17 : 0 ≤ (ji16)
        ·rw [if_pos c17] at H
         have c17b0 : decide (0 ≤ (ji16)) = true := decide_eq_true c17
         clear c17
         by_cases c18 : (ji16) < (a0.size : Int)
         ·rw [if_pos c18] at H
          have c18b0 : decide ((ji16) < (a0.size : Int)) = true := decide_eq_true c18
          clear c18
          by_cases c20 : x5_2.length < 140737488355328
          ·rw [if_pos c20] at H
           have LMc20 := Aside0.mk c20
           clear c20
           obtain ⟨y201, hy201⟩ : ∃ y_ : List Int, y_ = (x5_2 ++ [bt a0 (ji16)]) := ⟨_, rfl⟩
           replace H : (silversideref07_Turn.l0 k2 a0 t193 y201 x6_2 (wrap64 (x7_2 + 1))) = some (r1, r2) := by first | (rw [hy201]; with_reducible exact H) | (have H2_ := (Option.bind_some _ _).symm.trans H; rw [hy201]; with_reducible exact H2_) | (have H2_ := (Option.bind_some _ _).symm.trans H; with_reducible exact H2_) | with_reducible exact H | (rw [hy201]; exact H) | exact H
           have Ny201 := Aside0.mk hy201
           clear hy201
           have H' := Aside0.mk H
           clear H
           obtain ⟨Ao21, co21, eo21⟩ := Kd.R_slice HO_4.out
           subst eo21
           have p199 : 0 ≤ (x7_2 : Int) := of_decide_eq_true (by first | (with_reducible assumption) | assumption)
           have q199 : x7_2 < (t193.length : Int) := of_decide_eq_true (by first | (with_reducible assumption) | assumption)
           obtain ⟨ad199, e199, hx199_0⟩ := Kd.at_int (Kd.R_reads' HO_4.out).2.2 x7_2 p199 q199
           cases e199
           replace p199 := eq_true p199
           replace q199 := eq_true q199
           have p200 : 0 ≤ (x7_2 : Int) := of_decide_eq_true (by first | (with_reducible assumption) | assumption)
           have q200 : x7_2 < (t193.length : Int) := of_decide_eq_true (by first | (with_reducible assumption) | assumption)
           obtain ⟨ad200, e200, hx200_0⟩ := Kd.at_int (Kd.R_reads' HO_4.out).2.2 x7_2 p200 q200
           obtain rfl : ad199 = ad200 := (by injection e200)
           replace p200 := eq_true p200
           replace q200 := eq_true q200
           have p19 : 0 ≤ ((ji16) : Int) := of_decide_eq_true (by first | (with_reducible assumption) | assumption)
           have q19 : (ji16) < (a0.size : Int) := of_decide_eq_true (by first | (with_reducible assumption) | assumption)
           have hx19 := bt_at a0 (ji16)
           replace p19 := eq_true p19
           replace q19 := eq_true q19
           go_wp2_with (first | ((with_reducible refine gate_builtin (b := .append) (xs := #[.tmp 34, .tmp 42]) rfl ?_); at_builtin; refine Kd.R_append (Kd.int .u8) (w0 := w) w.heap.size rfl (.tmp 34) (.tmp 42) 66 5 (.int .u8 0) 1 rfl Try.underlying66 info5 rfl (by decide) (by omega) u5 x5_2 (bt a0 (ji16)) [.int .u8 (bt a0 (ji16))] (fun _ => True) (fun _ => False) rfl rfl ?aP (fun _ hk => hk.elim) ?aF ?aO ?aB ?aS ?aL ?_; (case aP => exact rfl); (case aB => exact (by repeat (first | (with_reducible first | exact HB.out | apply below_alloc | apply pw_below_drewN | apply below_drew1) | exact HB.out))); (case aF => exact (fun _ _ => trivial)); (case aO => exact (by (with_reducible repeat (first | apply Kd.R_alloc | apply Kd.R_drewN | apply Kd.R_drew)); exact HO_5.out)); (case aS => exact (below_size (by repeat (first | (with_reducible first | exact HB.out | apply below_alloc | apply pw_below_drewN | apply below_drew1) | exact HB.out)))); (case aL => have := LMc20.out; omega); intro v202 w22 ho hb hg hat; rw [← Ny201.out] at ho; have n0_ := Aside0.mk (Kd.R_over' (by (with_reducible repeat (first | apply Kd.R_alloc | apply Kd.R_drewN | apply Kd.R_drew)); exact HO_4.out) (Kd.R_typed (by (with_reducible repeat (first | apply Kd.R_alloc | apply Kd.R_drewN | apply Kd.R_drew)); exact HO_5.out)) (by decide) hg); have n1_ := Aside0.mk (hb); have n2_ := Aside0.mk (ho); clear HO_4; clear HB; clear HO_5; have HO_4 := n0_; have HB := n1_; have HO203 := n2_; clear n0_ n1_ n2_; clear ho hb hg hat))
           go_roundg k2
           case measure => have := HJ2.out; have := HK2.out; omega
           case rel => exact ⟨(y201), (x6_2), (wrap64 (x7_2 + 1)), (by first | rfl | (simp; done) | (simp [*]; done)), (by first | rfl | (simp; done) | (simp [*]; done)), H', ⟨by have := HJ2.out; have := HK2.out; omega⟩, ⟨by (with_reducible repeat (first | apply Kd.R_alloc | apply Kd.R_drewN | apply Kd.R_drew)); exact HO_4.out⟩, ⟨by (with_reducible repeat (first | apply Kd.R_alloc | apply Kd.R_drewN | apply Kd.R_drew)); exact HO203.out⟩, ⟨by repeat (first | (with_reducible first | exact HB.out | apply below_alloc | apply pw_below_drewN | apply below_drew1) | exact HB.out)⟩⟩
          ·rw [if_neg c20] at H
           exact absurd H (by simp)
         ·rw [if_neg c18] at H
          exact absurd H (by simp)
        ·rw [if_neg c17] at H
         exact absurd H (by simp)
      ·rw [if_neg c13] at H
       exact absurd H (by simp)
     ·rw [if_neg c12] at H
      have c12b0 : decide (x7_2 < (t193.length : Int)) = false := decide_eq_false c12
      clear c12
      simp only [Option.some.injEq, Prod.mk.injEq] at H
      obtain ⟨rfl, rfl⟩ := H
      obtain ⟨Ao23, co23, eo23⟩ := Kd.R_slice HO_4.out
      subst eo23
      have hcv24 := own_string (P := Try.prog) Try.underlying66 Try.underlying5 Try.underlying9 (Kd.own_of_R HO_5.out)
      go_wp2
      go_ret2
      exact ⟨by first | rfl | (simp [errW_none, errW_some] <;> rfl) | (simp [*, errW_none, errW_some] <;> rfl), by repeat (first | (with_reducible first | exact HB.out | apply below_alloc | apply pw_below_drewN | apply below_drew1) | exact HB.out)⟩


/-! ### silversidelaw07_short: function 22 -/
def silversidelaw07_short.f (a0 : ByteArray) (a1 : Int) : Option (ByteArray) := if (a0.size : Int) > 4096 then (if 0 ≤ 4097 then (if 4097 ≤ (a0.size : Int) then (some (a0.extract 0 4097)) else (none)) else (none)) else (if 0 ≤ (mn (a0.size : Int) a1) then (if (mn (a0.size : Int) a1) ≤ (a0.size : Int) then (some (a0.extract 0 ((mn (a0.size : Int) a1) : Int).toNat)) else (none)) else (none))
set_option maxHeartbeats 8000000 in
set_option maxRecDepth 100000 in
theorem silversidelaw07_short.calls (a0 : ByteArray) (a1 : Int) (r : ByteArray) (w : World) (h : silversidelaw07_short.f a0 a1 = some r) :
  Calls Try.prog 22 #[.string a0, .int .i64 a1] w fun e w' => e = .returned (.string r) ∧ Below w.heap.size w w' := by
 have HB := Aside0.mk (Below.refl w.heap.size w)
 have H : (if (a0.size : Int) > 4096 then (if 0 ≤ 4097 then (if 4097 ≤ (a0.size : Int) then (some (a0.extract 0 4097)) else (none)) else (none)) else (if 0 ≤ (mn (a0.size : Int) a1) then (if (mn (a0.size : Int) a1) ≤ (a0.size : Int) then (some (a0.extract 0 ((mn (a0.size : Int) a1) : Int).toNat)) else (none)) else (none))) = some r := h
 clear h
 by_cases c3 : (a0.size : Int) > 4096
 ·rw [if_pos c3] at H
  have c3b0 : decide (4096 < (a0.size : Int)) = true := decide_eq_true c3
  have c3b1 : decide (4096 < a0.size) = true := decide_eq_true (by omega)
  clear c3
  by_cases c4 : 0 ≤ 4097
  ·rw [if_pos c4] at H
   have c4b0 := eq_true c4
   have c4b1 : decide (0 ≤ 4097) = true := decide_eq_true c4
   clear c4
   by_cases c5 : 4097 ≤ (a0.size : Int)
   ·rw [if_pos c5] at H
    have c5b0 := eq_true c5
    have c5b1 : decide (4097 ≤ (a0.size : Int)) = true := decide_eq_true c5
    clear c5
    obtain rfl := Option.some.inj H
    go_enter Try.func22, Try.ntmps22
    go_wp2
    go_ret
    exact ⟨by first | rfl | (simp [errW_none, errW_some] <;> rfl) | (simp [*, errW_none, errW_some] <;> rfl), by repeat (first | (with_reducible first | exact HB.out | apply below_alloc | apply pw_below_drewN | apply below_drew1) | exact HB.out)⟩
   ·rw [if_neg c5] at H
    exact absurd H (by simp)
  ·rw [if_neg c4] at H
   exact absurd H (by simp)
 ·rw [if_neg c3] at H
  have c3b0 : decide (4096 < (a0.size : Int)) = false := decide_eq_false c3
  have c3b1 : decide (4096 < a0.size) = false := decide_eq_false (by omega)
  clear c3
  obtain ⟨ji6, hji6⟩ : ∃ j_ : Int, (mn (a0.size : Int) a1) = j_ := ⟨_, rfl⟩
  replace H : (if 0 ≤ (ji6) then (if (ji6) ≤ (a0.size : Int) then (some (a0.extract 0 ((ji6) : Int).toNat)) else (none)) else (none)) = some r := by first | (rw [hji6] at H; exact H) | (simp only [hji6] at H ⊢; exact H)
  have hji6_ : (if a1 < (a0.size : Int) then a1 else (a0.size : Int)) = ji6 := hji6
  by_cases c7 : 0 ≤ (ji6)
  ·rw [if_pos c7] at H
   have c7b0 := eq_true c7
   have c7b1 : decide (0 ≤ (ji6)) = true := decide_eq_true c7
   clear c7
   by_cases c8 : (ji6) ≤ (a0.size : Int)
   ·rw [if_pos c8] at H
    have c8b0 := eq_true c8
    have c8b1 : decide ((ji6) ≤ (a0.size : Int)) = true := decide_eq_true c8
    clear c8
    obtain rfl := Option.some.inj H
    go_enter Try.func22, Try.ntmps22
    go_wp2
    go_ret
    exact ⟨by first | rfl | (simp [errW_none, errW_some] <;> rfl) | (simp only [← hji6]; first | rfl | (simp [errW_none, errW_some] <;> rfl)) | (simp [*, errW_none, errW_some] <;> rfl), by repeat (first | (with_reducible first | exact HB.out | apply below_alloc | apply pw_below_drewN | apply below_drew1) | exact HB.out)⟩
   ·rw [if_neg c8] at H
    exact absurd H (by simp)
  ·rw [if_neg c7] at H
   exact absurd H (by simp)


/-! ### silversidelaw07_ints: function 33 -/
def silversidelaw07_ints.l0 : Nat → List Int → List Int → Int → Option (Bool)
 | 0, _, _, _ => none
 | k + 1, x0, x1, x5 => if x5 < (x0.length : Int) then (if 0 ≤ x5 then (if x5 < (x1.length : Int) then (if (rd x0 x5) = (rd x1 x5) then (silversidelaw07_ints.l0 k x0 x1 (wrap64 (x5 + 1))) else (some false)) else (none)) else (none)) else (some true)
def silversidelaw07_ints.f (k : Nat) (l0 : List Int) (l1 : List Int) : Option (Bool) := if (l0.length : Int) = (l1.length : Int) then (silversidelaw07_ints.l0 k l0 l1 0) else (some false)
theorem silversidelaw07_ints.mono_l : ∀ k, (∀ y0 y1 y2, LeO (silversidelaw07_ints.l0 k y0 y1 y2) (silversidelaw07_ints.l0 (k + 1) y0 y1 y2))
 | 0 => fun _ _ _ r h => by simp [silversidelaw07_ints.l0] at h
 | k + 1 => by
  have ih0 := silversidelaw07_ints.mono_l k
  ·intro y0 y1 y2
   unfold silversidelaw07_ints.l0
   repeat' first
   | (with_reducible exact ih0 _ _ _)
   | (with_reducible exact LeO.refl _)
   | (with_reducible exact LeO.none _)
   | (with_reducible refine LeO.ite ?_ ?_)
   | (with_reducible refine LeO.bind ?_ (fun _ => ?_))
   | exact ih0 _ _ _
   | exact LeO.none _
   | refine LeO.ite ?_ ?_
   | refine LeO.bind ?_ (fun _ => ?_)
theorem silversidelaw07_ints.mono : ∀ a0 a1 k, LeO (silversidelaw07_ints.f k a0 a1) (silversidelaw07_ints.f (k + 1) a0 a1) := by
 intro a0 a1 k
 have ih0 := silversidelaw07_ints.mono_l k
 unfold silversidelaw07_ints.f
 repeat' first
   | (with_reducible exact ih0 _ _ _)
   | (with_reducible exact LeO.refl _)
   | (with_reducible exact LeO.none _)
   | (with_reducible refine LeO.ite ?_ ?_)
   | (with_reducible refine LeO.bind ?_ (fun _ => ?_))
   | exact ih0 _ _ _
   | exact LeO.none _
   | refine LeO.ite ?_ ?_
   | refine LeO.bind ?_ (fun _ => ?_)
set_option maxHeartbeats 8000000 in
set_option maxRecDepth 100000 in
theorem silversidelaw07_ints.calls (k : Nat) (A0 : Option Addr) (c0 : Nat) (l0 : List Int) (A1 : Option Addr) (c1 : Nat) (l1 : List Int) (r : Bool) (w : World) (hr0 : Kd.C (Kd.int .i64) w A0 l0.length l0) (hc0 : l0.length ≤ c0) (hr1 : Kd.C (Kd.int .i64) w A1 l1.length l1) (hc1 : l1.length ≤ c1) (h : silversidelaw07_ints.f k l0 l1 = some r) :
  Calls Try.prog 33 #[.slice A0 l0.length c0, .slice A1 l1.length c1] w fun e w' => e = .returned (.bool r) ∧ Drawn0 w w' := by
 have HR0 := Aside0.mk hr0
 have HC0 := Aside0.mk hc0
 clear hr0 hc0
 have HR1 := Aside0.mk hr1
 have HC1 := Aside0.mk hc1
 clear hr1 hc1
 have H : (if (l0.length : Int) = (l1.length : Int) then (silversidelaw07_ints.l0 k l0 l1 0) else (some false)) = some r := h
 clear h
 by_cases c3 : (l0.length : Int) = (l1.length : Int)
 ·rw [if_pos c3] at H
  have c3b0 : ((l0.length : Int) == (l1.length : Int)) = true := beq_iff_eq.mpr c3
  have c3b1 : ((l0.length : Int) != (l1.length : Int)) = false := bne_eq_false_iff_eq.mpr c3
  have c3b2 : (l0.length == l1.length) = true := by first | simpa using c3 | (simp at c3 ⊢; omega)
  clear c3
  have H' := Aside0.mk H
  clear H
  go_enter Try.func33, Try.ntmps33
  go_wp2
  repeat (go_quiet (fail); try go_wp2)
  go_loopg [5] k (fun kq v5 w' => ∃ (x5_1 : Int), v5 = .int .i64 x5_1 ∧ Aside0 (silversidelaw07_ints.l0 kq l0 l1 x5_1 = some r) ∧ Aside0 (kq ≤ k) ∧ Drawn0 w w')
  case atStart => exact ⟨(0), (by first | rfl | (simp; done) | (simp [*]; done)), H', ⟨Nat.le_refl _⟩, by repeat (first | exact Drawn0.refl _ | apply Drawn0.step)⟩
  case round =>
   clear H'
   try clear c1
   try clear p2
   try clear c3
   try clear c3b0
   try clear c3b1
   try clear c3b2
   obtain ⟨x5_1, rfl, HA, HK1, ⟨m1, rfl⟩⟩ := hrel
   cases gk with
   | zero => exact absurd HA.out (by simp [silversidelaw07_ints.l0])
   | succ k1 =>
    have H := HA.out
    clear HA
    simp only [silversidelaw07_ints.l0] at H
    by_cases c4 : x5_1 < (l0.length : Int)
    ·rw [if_pos c4] at H
     have c4b0 : decide (x5_1 < (l0.length : Int)) = true := decide_eq_true c4
     clear c4
     by_cases c5 : 0 ≤ x5_1
     ·rw [if_pos c5] at H
      have c5b0 : decide (0 ≤ x5_1) = true := decide_eq_true c5
      clear c5
      by_cases c6 : x5_1 < (l1.length : Int)
      ·rw [if_pos c6] at H
       have c6b0 : decide (x5_1 < (l1.length : Int)) = true := decide_eq_true c6
       clear c6
       by_cases c7 : (rd l0 x5_1) = (rd l1 x5_1)
       ·rw [if_pos c7] at H
        have c7b0 : ((rd l0 x5_1) == (rd l1 x5_1)) = true := beq_iff_eq.mpr c7
        have c7b1 : ((rd l0 x5_1) != (rd l1 x5_1)) = false := bne_eq_false_iff_eq.mpr c7
        clear c7
        have H' := Aside0.mk H
        clear H
        have p263 : 0 ≤ (x5_1 : Int) := of_decide_eq_true (by first | (with_reducible assumption) | assumption)
        have q263 : x5_1 < (l0.length : Int) := of_decide_eq_true (by first | (with_reducible assumption) | assumption)
        obtain ⟨ad263, e263, hx263_0⟩ := Kd.at_int HR0.out x5_1 p263 q263
        cases e263
        replace p263 := eq_true p263
        replace q263 := eq_true q263
        have p264 : 0 ≤ (x5_1 : Int) := of_decide_eq_true (by first | (with_reducible assumption) | assumption)
        have q264 : x5_1 < (l1.length : Int) := of_decide_eq_true (by first | (with_reducible assumption) | assumption)
        obtain ⟨ad264, e264, hx264_0⟩ := Kd.at_int HR1.out x5_1 p264 q264
        cases e264
        replace p264 := eq_true p264
        replace q264 := eq_true q264
        go_wp2
        repeat (go_quiet (fail); try go_wp2)
        go_roundg k1
        case measure => have := HK1.out; omega
        case rel => exact ⟨(wrap64 (x5_1 + 1)), (by first | rfl | (simp; done) | (simp [*]; done)), H', ⟨by have := HK1.out; omega⟩, by repeat (first | exact Drawn0.refl _ | apply Drawn0.step)⟩
       ·rw [if_neg c7] at H
        have c7b0 : ((rd l0 x5_1) == (rd l1 x5_1)) = false := beq_eq_false_iff_ne.mpr c7
        have c7b1 : ((rd l0 x5_1) != (rd l1 x5_1)) = true := bne_iff_ne.mpr c7
        obtain rfl := Option.some.inj H
        have p263 : 0 ≤ (x5_1 : Int) := of_decide_eq_true (by first | (with_reducible assumption) | assumption)
        have q263 : x5_1 < (l0.length : Int) := of_decide_eq_true (by first | (with_reducible assumption) | assumption)
        obtain ⟨ad263, e263, hx263_0⟩ := Kd.at_int HR0.out x5_1 p263 q263
        cases e263
        replace p263 := eq_true p263
        replace q263 := eq_true q263
        have p264 : 0 ≤ (x5_1 : Int) := of_decide_eq_true (by first | (with_reducible assumption) | assumption)
        have q264 : x5_1 < (l1.length : Int) := of_decide_eq_true (by first | (with_reducible assumption) | assumption)
        obtain ⟨ad264, e264, hx264_0⟩ := Kd.at_int HR1.out x5_1 p264 q264
        cases e264
        replace p264 := eq_true p264
        replace q264 := eq_true q264
        go_wp2
        repeat (go_quiet (fail); try go_wp2)
        go_ret
        exact ⟨by first | rfl | (simp; done) | (simp [*]; done), by repeat (first | exact Drawn0.refl _ | apply Drawn0.step)⟩
      ·rw [if_neg c6] at H
       exact absurd H (by simp)
     ·rw [if_neg c5] at H
      exact absurd H (by simp)
    ·rw [if_neg c4] at H
     have c4b0 : decide (x5_1 < (l0.length : Int)) = false := decide_eq_false c4
     clear c4
     obtain rfl := Option.some.inj H
     go_wp2
     repeat (go_quiet (fail); try go_wp2)
     go_ret
     exact ⟨by first | rfl | (simp; done) | (simp [*]; done), by repeat (first | exact Drawn0.refl _ | apply Drawn0.step)⟩
 ·rw [if_neg c3] at H
  have c3b0 : ((l0.length : Int) == (l1.length : Int)) = false := beq_eq_false_iff_ne.mpr c3
  have c3b1 : ((l0.length : Int) != (l1.length : Int)) = true := bne_iff_ne.mpr c3
  have c3b2 : (l0.length == l1.length) = false := by first | simpa using c3 | (simp at c3 ⊢; omega)
  obtain rfl := Option.some.inj H
  go_enter Try.func33, Try.ntmps33
  go_wp2
  repeat (go_quiet (fail); try go_wp2)
  go_ret
  exact ⟨by first | rfl | (simp; done) | (simp [*]; done), by repeat (first | exact Drawn0.refl _ | apply Drawn0.step)⟩

end Go.Proofs.Ytppelnlocfcgfaa.P
namespace Go.Proofs.Fnd
/-- how many of the first k bytes of a text are c -/
def occ (s : List UInt8) (k c : Nat) : Nat := (s.take k).countP (fun x => x.toNat == c)
theorem occ_zero (s : List UInt8) (c : Nat) : occ s 0 c = 0 := by simp [occ]
theorem occ_succ (s : List UInt8) (k c : Nat) (h : k < s.length) : occ s (k + 1) c = occ s k c + (if (s[k]).toNat = c then 1 else 0) := by
  unfold occ
  rw [List.take_succ_eq_append_getElem h, List.countP_append]
  by_cases e : (s[k]).toNat = c <;> simp [e]
theorem occ_mono (s : List UInt8) (c : Nat) {i j : Nat} (h : i ≤ j) (hj : j ≤ s.length) : occ s i c ≤ occ s j c := by
  induction j with
  | zero => have : i = 0 := by omega
            subst this; exact Nat.le_refl _
  | succ j ih =>
    by_cases e : i = j + 1
    · subst e; exact Nat.le_refl _
    · have := ih (by omega) (by omega)
      rw [occ_succ s j c (by omega)]
      omega
theorem occ_le (s : List UInt8) (k c : Nat) : occ s k c ≤ k := by
  unfold occ
  exact Nat.le_trans List.countP_le_length (by simp; omega)
/-- how many bytes of a text are less than c -/
def less (s : List UInt8) (c : Nat) : Nat := s.countP (fun x => decide (x.toNat < c))
theorem less_zero (s : List UInt8) : less s 0 = 0 := by simp [less]
theorem less_succ (s : List UInt8) (c : Nat) : less s (c + 1) = less s c + occ s s.length c := by
  unfold less occ
  rw [List.take_length]
  induction s with
  | nil => simp
  | cons a s ih =>
    simp only [List.countP_cons, ih]
    by_cases h1 : a.toNat < c
    · have h2 : a.toNat < c + 1 := by omega
      have h3 : ¬ a.toNat = c := by omega
      simp [h1, h2, h3]; omega
    · by_cases h3 : a.toNat = c
      · have h2 : a.toNat < c + 1 := by omega
        simp [h1, h2, h3]; omega
      · have h2 : ¬ a.toNat < c + 1 := by omega
        simp [h1, h2, h3]
theorem less_mono (s : List UInt8) {a b : Nat} (h : a ≤ b) : less s a ≤ less s b := by
  induction b with
  | zero => have : a = 0 := by omega
            subst this; exact Nat.le_refl _
  | succ b ih =>
    by_cases e : a = b + 1
    · subst e; exact Nat.le_refl _
    · have := ih (by omega)
      rw [less_succ]; omega
theorem less_le (s : List UInt8) (c : Nat) : less s c ≤ s.length := List.countP_le_length
/-- where the byte at a position stands among all bytes, sorted -/
def pos (s : List UInt8) (i : Nat) : Nat := if h : i < s.length then less s (s[i]).toNat + occ s i (s[i]).toNat else 0
theorem pos_eq (s : List UInt8) (i : Nat) (h : i < s.length) : pos s i = less s (s[i]).toNat + occ s i (s[i]).toNat := by simp [pos, h]
theorem pos_lt (s : List UInt8) (i : Nat) (h : i < s.length) : pos s i < s.length := by
  rw [pos_eq s i h]
  have h1 := occ_succ s i (s[i]).toNat h
  simp at h1
  have h2 := occ_mono s (s[i]).toNat (i := i + 1) (j := s.length) (by omega) (Nat.le_refl _)
  have h3 := less_succ s (s[i]).toNat
  have h4 := less_le s ((s[i]).toNat + 1)
  omega
theorem pos_inj (s : List UInt8) (i j : Nat) (hi : i < s.length) (hj : j < s.length) (e : pos s i = pos s j) : i = j := by
  rw [pos_eq s i hi, pos_eq s j hj] at e
  have key : ∀ (i j : Nat) (hi : i < s.length) (hj : j < s.length), (s[i]).toNat < (s[j]).toNat → less s (s[i]).toNat + occ s i (s[i]).toNat < less s (s[j]).toNat + occ s j (s[j]).toNat := by
    intro i j hi hj hlt
    have h1 := occ_succ s i (s[i]).toNat hi
    simp at h1
    have h2 := occ_mono s (s[i]).toNat (i := i + 1) (j := s.length) (by omega) (Nat.le_refl _)
    have h3 := less_succ s (s[i]).toNat
    have h4 := less_mono s (a := (s[i]).toNat + 1) (b := (s[j]).toNat) (by omega)
    omega
  rcases Nat.lt_trichotomy (s[i]).toNat (s[j]).toNat with h | h | h
  · have := key i j hi hj h; omega
  · rw [h] at e
    have e' : occ s i (s[j]).toNat = occ s j (s[j]).toNat := by omega
    rcases Nat.lt_trichotomy i j with q | q | q
    · have h1 := occ_succ s i (s[j]).toNat hi
      simp [h] at h1
      have h2 := occ_mono s (s[j]).toNat (i := i + 1) (j := j) (by omega) (by omega)
      omega
    · exact q
    · have h1 := occ_succ s j (s[j]).toNat hj
      simp at h1
      have h2 := occ_mono s (s[j]).toNat (i := j + 1) (j := i) (by omega) (by omega)
      omega
  · have := key j i hj hi h; omega
theorem perm_of_subset {α : Type} [DecidableEq α] : ∀ (l1 l2 : List α), l1.Nodup → l1 ⊆ l2 → l2.length ≤ l1.length → l1.Perm l2
  | [], l2, _, _, h => by
    have : l2 = [] := List.eq_nil_of_length_eq_zero (by simpa using h)
    subst this; exact List.Perm.refl _
  | a :: t, l2, hn, hs, h => by
    have ha : a ∈ l2 := hs (by simp)
    have hp := List.perm_cons_erase ha
    have ht : t ⊆ l2.erase a := fun x hx => by
      have hx2 : x ∈ l2 := hs (by simp [hx])
      have hne : x ≠ a := fun e => by
        subst e
        exact (List.nodup_cons.1 hn).1 hx
      exact (List.mem_erase_of_ne hne).2 hx2
    have hl : (l2.erase a).length ≤ t.length := by
      have := hp.length_eq
      simp only [List.length_cons] at this h
      omega
    exact (List.Perm.cons a (perm_of_subset t _ (List.nodup_cons.1 hn).2 ht hl)).trans hp.symm
/-- a list that holds each of 0 .. n - 1, of length n, is a permutation of them -/
theorem perm_of_mem {l : List Int} {n : Nat} (hl : l.length = n) (h : ∀ i : Nat, i < n → (i : Int) ∈ l) : l.Perm ((List.range n).map Int.ofNat) := by
  have hn : ((List.range n).map Int.ofNat).Nodup := by
    rw [List.Nodup, List.pairwise_map]
    exact List.nodup_range.imp (fun {a b} hab e => hab (Int.ofNat.inj e))
  have hs : ((List.range n).map Int.ofNat) ⊆ l := by
    intro x hx
    obtain ⟨i, hi, rfl⟩ := List.mem_map.1 hx
    exact h i (List.mem_range.1 hi)
  exact (perm_of_subset _ _ hn hs (by simp [hl])).symm
/-- f is less than g within the first w places -/
def LtW (w : Nat) (f g : Nat → Nat) : Prop := ∃ m, m < w ∧ (∀ t, t < m → f t = g t) ∧ f m < g m
def EqW (w : Nat) (f g : Nat → Nat) : Prop := ∀ t, t < w → f t = g t
theorem tri (w : Nat) (f g : Nat → Nat) : LtW w f g ∨ EqW w f g ∨ LtW w g f := by
  induction w with
  | zero => exact .inr (.inl fun t h => by omega)
  | succ w ih =>
    rcases ih with ⟨m, h1, h2, h3⟩ | h | ⟨m, h1, h2, h3⟩
    · exact .inl ⟨m, by omega, h2, h3⟩
    · rcases Nat.lt_trichotomy (f w) (g w) with q | q | q
      · exact .inl ⟨w, by omega, h, q⟩
      · refine .inr (.inl fun t ht => ?_)
        by_cases e : t = w
        · subst e; exact q
        · exact h t (by omega)
      · exact .inr (.inr ⟨w, by omega, fun t ht => (h t ht).symm, q⟩)
    · exact .inr (.inr ⟨m, by omega, h2, h3⟩)
theorem LtW.irrefl {w : Nat} {f : Nat → Nat} (h : LtW w f f) : False := by
  obtain ⟨m, _, _, h3⟩ := h; omega
theorem LtW.trans {w : Nat} {f g k : Nat → Nat} (h : LtW w f g) (h' : LtW w g k) : LtW w f k := by
  obtain ⟨m, h1, h2, h3⟩ := h
  obtain ⟨m', h1', h2', h3'⟩ := h'
  rcases Nat.lt_trichotomy m m' with q | q | q
  · exact ⟨m, h1, fun t ht => (h2 t ht).trans (h2' t (by omega)), by rw [← h2' m q]; exact h3⟩
  · subst q; exact ⟨m, h1, fun t ht => (h2 t ht).trans (h2' t ht), by omega⟩
  · exact ⟨m', h1', fun t ht => (h2 t (by omega)).trans (h2' t ht), by rw [h2 m' q]; exact h3'⟩
theorem LtW.asymm {w : Nat} {f g : Nat → Nat} (h : LtW w f g) (h' : LtW w g f) : False := (h.trans h').irrefl
theorem EqW.symm {w : Nat} {f g : Nat → Nat} (h : EqW w f g) : EqW w g f := fun t ht => (h t ht).symm
theorem EqW.trans {w : Nat} {f g k : Nat → Nat} (h : EqW w f g) (h' : EqW w g k) : EqW w f k := fun t ht => (h t ht).trans (h' t ht)
theorem EqW.refl (w : Nat) (f : Nat → Nat) : EqW w f f := fun _ _ => rfl
theorem LtW.not_eq {w : Nat} {f g : Nat → Nat} (h : LtW w f g) (h' : EqW w f g) : False := by
  obtain ⟨m, h1, _, h3⟩ := h; have := h' m h1; omega
theorem LtW.eq_right {w : Nat} {f g k : Nat → Nat} (h : LtW w f g) (h' : EqW w g k) : LtW w f k := by
  obtain ⟨m, h1, h2, h3⟩ := h
  exact ⟨m, h1, fun t ht => (h2 t ht).trans (h' t (by omega)), by rw [← h' m h1]; exact h3⟩
theorem LtW.eq_left {w : Nat} {f g k : Nat → Nat} (h : LtW w f g) (h' : EqW w f k) : LtW w k g := by
  obtain ⟨m, h1, h2, h3⟩ := h
  exact ⟨m, h1, fun t ht => (h' t (by omega)).symm.trans (h2 t ht), by rw [← h' m h1]; exact h3⟩
theorem LtW.ntrans {w : Nat} {f g k : Nat → Nat} (h : ¬ LtW w f g) (h' : ¬ LtW w g k) : ¬ LtW w f k := by
  intro q
  rcases tri w f g with a | a | a
  · exact h a
  · exact h' (q.eq_left a)
  · exact h' (a.trans q)
theorem LtW.mono {w w' : Nat} {f g : Nat → Nat} (h : LtW w f g) (hw : w ≤ w') : LtW w' f g := by
  obtain ⟨m, h1, h2, h3⟩ := h; exact ⟨m, by omega, h2, h3⟩
theorem ltW_add (w w' : Nat) (f g : Nat → Nat) : LtW (w + w') f g ↔ LtW w f g ∨ EqW w f g ∧ LtW w' (fun t => f (w + t)) (fun t => g (w + t)) := by
  constructor
  · rintro ⟨m, h1, h2, h3⟩
    by_cases hm : m < w
    · exact .inl ⟨m, hm, h2, h3⟩
    · refine .inr ⟨fun t ht => h2 t (by omega), m - w, by omega, fun t ht => h2 _ (by omega), ?_⟩
      show f (w + (m - w)) < g (w + (m - w))
      rw [show w + (m - w) = m by omega]; exact h3
  · rintro (⟨m, h1, h2, h3⟩ | ⟨he, m, h1, h2, h3⟩)
    · exact ⟨m, by omega, h2, h3⟩
    · refine ⟨w + m, by omega, fun t ht => ?_, h3⟩
      by_cases q : t < w
      · exact he t q
      · have := h2 (t - w) (by omega)
        simp only [show w + (t - w) = t by omega] at this
        exact this
/-- the byte at a place, 0 behind the end -/
def ch (s : List UInt8) (i : Nat) : Nat := match s[i]? with | some b => b.toNat + 1 | none => 0
theorem ch_lt (s : List UInt8) (i : Nat) (h : i < s.length) : ch s i = (s[i]).toNat + 1 := by simp [ch, List.getElem?_eq_getElem h]
theorem ch_ge (s : List UInt8) (i : Nat) (h : s.length ≤ i) : ch s i = 0 := by simp [ch, List.getElem?_eq_none h]
theorem ch_zero (s : List UInt8) (i : Nat) : ch s i = 0 ↔ s.length ≤ i := by
  constructor
  · intro h
    apply Decidable.byContradiction
    intro q
    rw [ch_lt s i (by omega)] at h; omega
  · exact ch_ge s i
/-- the suffix at a place, as a sequence -/
def sq (s : List UInt8) (i : Nat) : Nat → Nat := fun t => ch s (i + t)
/-- two suffixes that agree as far as the text goes are one -/
theorem sq_inj (s : List UInt8) (w i j : Nat) (hw : s.length ≤ w) (hi : i ≤ s.length) (hj : j ≤ s.length) (h : EqW (w + 1) (sq s i) (sq s j)) : i = j := by
  have key : ∀ i j, i ≤ s.length → j ≤ s.length → EqW (w + 1) (sq s i) (sq s j) → i ≤ j := by
    intro i j hi hj h
    have := h (s.length - i) (by omega)
    unfold sq at this
    rw [show i + (s.length - i) = s.length by omega, ch_ge s _ (Nat.le_refl _)] at this
    have := (ch_zero s _).1 this.symm
    omega
  exact Nat.le_antisymm (key i j hi hj h) (key j i hj hi h.symm)
theorem sq_inj' (s : List UInt8) (w i j : Nat) (hw : s.length ≤ w) (hi : i < s.length) (hj : j < s.length) (h : EqW w (sq s i) (sq s j)) : i = j := by
  have key : ∀ i j, i < s.length → j < s.length → EqW w (sq s i) (sq s j) → i ≤ j := by
    intro i j hi hj h
    apply Decidable.byContradiction
    intro q
    have := h (s.length - i) (by omega)
    unfold sq at this
    rw [show i + (s.length - i) = s.length by omega, ch_ge s _ (Nat.le_refl _)] at this
    have := (ch_zero s _).1 this.symm
    omega
  exact Nat.le_antisymm (key i j hi hj h) (key j i hj hi h.symm)
/-- element c of a list of numbers, a name of its own -/
def el (l : List Int) (c : Nat) : Int := l.getD c 0
/-- ranks that tell the order of the first w bytes of the suffixes -/
structure RankOK (s : List UInt8) (w : Nat) (r : List Int) : Prop where
  len : r.length = s.length
  lt : ∀ i j, i < s.length → j < s.length → (el r i < el r j ↔ LtW w (sq s i) (sq s j))
  lo : ∀ i, i < s.length → 0 ≤ el r i
  hi : ∀ i, i < s.length → el r i ≤ 4096
theorem RankOK.eq {s : List UInt8} {w : Nat} {r : List Int} (h : RankOK s w r) {i j : Nat} (hi : i < s.length) (hj : j < s.length) : el r i = el r j ↔ EqW w (sq s i) (sq s j) := by
  have h1 := h.lt i j hi hj
  have h2 := h.lt j i hj hi
  constructor
  · intro e
    rcases tri w (sq s i) (sq s j) with q | q | q
    · have := h1.2 q; omega
    · exact q
    · have := h2.2 q; omega
  · intro e
    rcases Int.lt_trichotomy (el r i) (el r j) with q | q | q
    · exact absurd e (fun e => (h1.1 q).not_eq e)
    · exact q
    · exact absurd e (fun e => (h2.1 q).not_eq e.symm)
/-- the rank behind the first w bytes -/
def bh (n w : Nat) (r : List Int) (i : Nat) : Int := if i + w < n then el r (i + w) + 1 else 0
theorem bh_lt {s : List UInt8} {w : Nat} {r : List Int} (h : RankOK s w r) (hw : 0 < w) (i j : Nat) : bh s.length w r i < bh s.length w r j ↔ LtW w (fun t => sq s i (w + t)) (fun t => sq s j (w + t)) := by
  have e : ∀ i, (fun t => sq s i (w + t)) = sq s (i + w) := fun i => by funext t; unfold sq; rw [Nat.add_assoc]
  rw [e, e]
  unfold bh
  by_cases hi : i + w < s.length
  · by_cases hj : j + w < s.length
    · rw [if_pos hi, if_pos hj, ← h.lt _ _ hi hj]; omega
    · rw [if_pos hi, if_neg hj]
      have := h.lo _ hi
      constructor
      · intro q; omega
      · rintro ⟨m, h1, h2, h3⟩
        unfold sq at h3
        rw [ch_ge s (j + w + m) (by omega)] at h3; omega
  · by_cases hj : j + w < s.length
    · rw [if_neg hi, if_pos hj]
      have := h.lo _ hj
      constructor
      · intro _
        refine ⟨0, hw, fun t ht => by omega, ?_⟩
        unfold sq
        rw [ch_ge s (i + w + 0) (by omega), ch_lt s (j + w + 0) (by omega)]; omega
      · intro _; omega
    · rw [if_neg hi, if_neg hj]
      constructor
      · intro q; omega
      · rintro ⟨m, h1, h2, h3⟩
        unfold sq at h3
        rw [ch_ge s (j + w + m) (by omega)] at h3; omega
/-- how the program compares two places -/
def cmpR (n w : Nat) (r : List Int) (i j : Nat) : Int := if el r i ≠ el r j then el r i - el r j else bh n w r i - bh n w r j
theorem cmpR_lt {s : List UInt8} {w : Nat} {r : List Int} (h : RankOK s w r) (hw : 0 < w) {i j : Nat} (hi : i < s.length) (hj : j < s.length) : cmpR s.length w r i j < 0 ↔ LtW (w + w) (sq s i) (sq s j) := by
  rw [ltW_add, ← bh_lt h hw i j, ← h.lt i j hi hj, ← h.eq hi hj]
  unfold cmpR
  by_cases e : el r i = el r j
  · rw [if_neg (by simpa using e)]; omega
  · rw [if_pos e]; omega
theorem cmp_eq {s : List UInt8} {w : Nat} {r : List Int} (h : RankOK s w r) (hw : 0 < w) {i j : Nat} (hi : i < s.length) (hj : j < s.length) : (el r i = el r j ∧ bh s.length w r i = bh s.length w r j) ↔ EqW (w + w) (sq s i) (sq s j) := by
  have h1 := cmpR_lt h hw hi hj
  have h2 := cmpR_lt h hw hj hi
  unfold cmpR at h1 h2
  constructor
  · rintro ⟨a, b⟩
    rw [if_neg (by simpa using a)] at h1
    rw [if_neg (by simpa using a.symm)] at h2
    rcases tri (w + w) (sq s i) (sq s j) with q | q | q
    · have := h1.2 q; omega
    · exact q
    · have := h2.2 q; omega
  · intro e
    have n1 : ¬ LtW (w + w) (sq s i) (sq s j) := fun q => q.not_eq e
    have n2 : ¬ LtW (w + w) (sq s j) (sq s i) := fun q => q.not_eq e.symm
    rw [← h1] at n1
    rw [← h2] at n2
    by_cases a : el r i = el r j
    · rw [if_neg (by simpa using a)] at n1
      rw [if_neg (by simpa using a.symm)] at n2
      exact ⟨a, by omega⟩
    · rw [if_pos a] at n1
      rw [if_pos (fun e => a e.symm)] at n2
      omega
/-- the bytes themselves are ranks -/
theorem rank_bytes (s : List UInt8) : RankOK s 1 (s.map fun b => (b.toNat : Int)) where
  len := by simp
  lt i j hi hj := by
    simp only [el, List.getD_eq_getElem?_getD, List.getElem?_map, List.getElem?_eq_getElem hi, List.getElem?_eq_getElem hj, Option.map_some, Option.getD_some]
    constructor
    · intro q
      refine ⟨0, by omega, fun t ht => by omega, ?_⟩
      unfold sq
      rw [ch_lt s (i + 0) (by omega), ch_lt s (j + 0) (by omega)]
      simp only [Nat.add_zero]; omega
    · rintro ⟨m, h1, h2, h3⟩
      have : m = 0 := by omega
      subst this
      unfold sq at h3
      rw [ch_lt s (i + 0) (by omega), ch_lt s (j + 0) (by omega)] at h3
      simp only [Nat.add_zero] at h3; omega
  lo i hi := by
    simp only [el, List.getD_eq_getElem?_getD, List.getElem?_map, List.getElem?_eq_getElem hi, Option.map_some, Option.getD_some]; omega
  hi i hi := by
    simp only [el, List.getD_eq_getElem?_getD, List.getElem?_map, List.getElem?_eq_getElem hi, Option.map_some, Option.getD_some]
    have := (s[i]).toNat_lt; omega
/-- the order of a text: each place once, the suffixes ascending -/
structure IsOrd (s : List UInt8) (l : List Nat) : Prop where
  perm : l.Perm (List.range s.length)
  up : l.Pairwise (fun i j => LtW (s.length + 1) (sq s i) (sq s j))
theorem IsOrd.unique {s : List UInt8} {l l' : List Nat} (h : IsOrd s l) (h' : IsOrd s l') : l = l' :=
  (h.perm.trans h'.perm.symm).eq_of_pairwise (fun _ _ _ _ q q' => absurd q' (fun q' => q.asymm q')) h.up h'.up
instance decLtW (w : Nat) (f g : Nat → Nat) : Decidable (LtW w f g) :=
  decidable_of_iff (∃ m, m < w ∧ (∀ t, t < m → f t = g t) ∧ f m < g m) Iff.rfl
end Go.Proofs.Fnd
namespace Go.Proofs.Ytppelnlocfcgfaa.P
open Go.RowKit Go.Proofs.YtppelnlocfcgfaaW.PrintWords Go.Proofs.YtppelnlocfcgfaaW.PrintLast Go.Proofs.YtppelnlocfcgfaaW.PrintMore
theorem info73 : (Try.prog.info? 73).map (·.size) = some 256 := by kernel_rfl
theorem zero73 : Try.zeroCells73 = (nums .i64 (List.replicate 256 0)).toArray := by kernel_rfl

theorem nums_get (k : IntKind) (vs : List Int) (i : Nat) (h : i < vs.length) : (nums k vs).toArray[i]? = some (.int k (vs.getD i 0)) := by
  simp [nums, List.getElem?_map, List.getElem?_eq_getElem h]

/-- an element of an array that is a value -/
theorem run_index_row (w : World) (vs : List Int) (hl : vs.length = 256) (i : Int) (h0 : 0 ≤ i) (h1 : i < 256) :
  (Instr.index 73 (.agg (nums .i64 vs).toArray) (.int .i64 i)).run Try.prog w = .ok (.int .i64 (rd vs i)) w := by
  have hs : (sizeOf 3).run Try.prog w = .ok 1 w := by kernel_rfl
  have ha : (isAgg 3).run Try.prog w = .ok false w := by kernel_rfl
  have hu : (underlying 73).run Try.prog w = .ok (.array 256 3) w := run_underlying Try.underlying73 w
  have hg : (nums .i64 vs).toArray[i.toNat]? = some (.int .i64 (rd vs i)) := nums_get _ _ _ (by omega)
  unfold Instr.index
  have h1' : i < ((256 : Nat) : Int) := by omega
  simp only [asIntOf, Sem.run_bind, Sem.run_pure, Result.andThen_ok, hu]
  rw [if_pos ⟨h0, h1'⟩]
  simp only [Sem.run_bind, hs, Result.andThen_ok]
  unfold part
  simp only [Sem.run_bind, ha, Result.andThen_ok, Nat.mul_one]
  simp [hg]

theorem blk_store {w : World} {g : Nat} {t : TypeId} {l : List Int} (h : w.heap[g]? = some (.cells (nums .i64 l).toArray t (0, 0))) (i : Nat) (x : Int) :
    (w.setCell ⟨g, i, none⟩ (.int .i64 x)).heap[g]? = some (.cells (nums .i64 (l.set i x)).toArray t (0, 0)) := by
  rw [blk_set h]
  congr 2
  simp [nums, List.map_set]
theorem blk_num {w : World} {g : Nat} {t : TypeId} {l : List Int} (h : w.heap[g]? = some (.cells (nums .i64 l).toArray t (0, 0))) (i : Nat) (hi : i < l.length) :
    w.cell? ⟨g, i, none⟩ = some (.int .i64 (l.getD i 0)) := by
  rw [blk_cell h, nums_get _ _ _ hi]
theorem nums_one (l : List Int) : (nums .i64 l).toArray.all (·.oneCell') = true := by
  rw [Array.all_eq_true_iff_forall_mem]
  intro v hv
  simp [nums] at hv
  obtain ⟨x, _, rfl⟩ := hv
  rfl
theorem nums_size (l : List Int) : (nums .i64 l).toArray.size = l.length := by simp [nums]

/-- where each key's elements begin -/
def startsAt (l : List Int) (k : Nat) : Int := (l.take k).sum
def startsL (l : List Int) : List Int := (List.range l.length).map (startsAt l)
theorem startsAt_succ (l : List Int) (k : Nat) (h : k < l.length) : startsAt l (k + 1) = startsAt l k + l.getD k 0 := by
  unfold startsAt
  rw [List.take_succ_eq_append_getElem h, List.sum_append]
  simp [List.getElem?_eq_getElem h]
theorem startsAt_bound (l : List Int) (hb : ∀ i, 0 ≤ rd l i ∧ rd l i ≤ 1099511627776) (k : Nat) (h : k ≤ l.length) : 0 ≤ startsAt l k ∧ startsAt l k ≤ k * 1099511627776 := by
  induction k with
  | zero => simp [startsAt]
  | succ k ih =>
    have := ih (by omega)
    have h2 := hb k
    unfold rd at h2
    rw [Int.toNat_natCast] at h2
    rw [startsAt_succ l k (by omega)]
    omega
theorem starts_eq {l cur : List Int} (hl : l.length = 256) (hc : cur.length = 256) (hv : ∀ j : Nat, j < 256 → rd cur j = startsAt l j) : cur = startsL l := by
  apply List.ext_getElem (by simp [startsL, hl, hc])
  intro j h1 h2
  have := hv j (by omega)
  simp only [rd, Int.toNat_natCast, List.getD_eq_getElem?_getD, List.getElem?_eq_getElem h1, Option.getD_some] at this
  simp [startsL, this]

set_option maxHeartbeats 1000000 in
set_option maxRecDepth 100000 in
theorem find_buckets_starts_calls (l : List Int) (hl : l.length = 256) (hb : ∀ i, 0 ≤ rd l i ∧ rd l i ≤ 1099511627776) (w : World) :
    Calls Try.prog 46 #[.agg (nums .i64 l).toArray] w fun e w' => e = .returned (.agg (nums .i64 (startsL l)).toArray) ∧ Below w.heap.size w w' := by
  have hB0 : Below w.heap.size w ((w.alloc (Obj.cells (nums IntKind.i64 l).toArray 73)).alloc (Obj.cells Try.zeroCells73 73)) := ((Below.refl _ _).alloc (Nat.le_refl _) _).alloc (by simp) _
  have HB0 := Aside0.mk hB0
  have hg0 : ((w.alloc (Obj.cells (nums IntKind.i64 l).toArray 73)).alloc (Obj.cells Try.zeroCells73 73)).heap[w.heap.size]? = some (.cells (nums IntKind.i64 l).toArray 73 (0, 0)) := heap_alloc2_old _ _ _
  have HG0 := Aside0.mk hg0
  have hr0 : ((w.alloc (Obj.cells (nums IntKind.i64 l).toArray 73)).alloc (Obj.cells Try.zeroCells73 73)).heap[w.heap.size + 1]? = some (.cells Try.zeroCells73 73 (0, 0)) := heap_alloc2_new _ _ _
  have HR0 := Aside0.mk hr0
  have HBD := Aside0.mk hb
  have HL := Aside0.mk hl
  clear hB0 hg0 hr0 hb hl
  have hir : ∀ (W : World) (k : Nat), k < 256 → (Instr.index 73 (.agg (nums .i64 l).toArray) (.int .i64 k)).run Try.prog W = .ok (.int .i64 (rd l k)) W := fun W k hk => run_index_row W l HL.out k (by omega) (by omega)
  have HIR := Aside0.mk hir
  clear hir
  go_enter Try.func46, Try.ntmps46
  go_wp2_with (refine wpList_load_row rfl 73 (.tmp 1) rfl w.heap.size rfl 73 (nums .i64 l).toArray (0, 0) _ HG0.out Try.underlying73 rfl ?hi ?_)
  case hi => rw [info73, nums_size, HL.out]
  go_loopw [3, 7] (fun v3 v7 wr => ∃ (k : Nat) (cur : List Int), k ≤ 256 ∧ v7 = .int .i64 k ∧ v3 = .int .i64 (startsAt l k) ∧ Aside0 (cur.length = 256) ∧ Aside0 (wr.heap[w.heap.size]? = some (.cells (nums IntKind.i64 cur).toArray 73 (0, 0))) ∧ Aside0 (wr.heap[w.heap.size + 1]? = some (.cells Try.zeroCells73 73 (0, 0))) ∧ Aside0 (Below w.heap.size w wr) ∧ Aside0 (∀ j : Nat, j < k → rd cur j = startsAt l j)) (fun _ v7 _ => 256 - (intOf v7).toNat)
  case atStart => exact ⟨0, l, by omega, rfl, rfl, HL, HG0, HR0, HB0, ⟨fun j hj => by omega⟩⟩
  case round =>
    obtain ⟨k, cur, hk, rfl, rfl, HC, HG, HR, HB, HV⟩ := hrel
    by_cases hlt : k < 256
    · have hi := HIR.out wr k hlt
      have hcell := blk_num HG.out k (by rw [HC.out]; exact hlt)
      have hfr := blk_frozen HG.out k
      have HG' := Aside0.mk (blk_store HG.out k (startsAt l k))
      have HB' := Aside0.mk (below_set HB.out (Nat.le_refl _) : Below w.heap.size w (wr.setCell ⟨w.heap.size, k, none⟩ (.int .i64 (startsAt l k))))
      have HR' := Aside0.mk (blk_far HR.out (p := ⟨w.heap.size, k, none⟩) (by simp) (.int .i64 (startsAt l k)))
      have HS := Aside0.mk (startsAt_succ l k (by rw [HL.out]; exact hlt))
      have HSB := Aside0.mk (startsAt_bound l HBD.out (k + 1) (by rw [HL.out]; omega))
      go_wp2
      go_roundw
      case rel =>
        refine ⟨k + 1, cur.set k (startsAt l k), by omega, by go_num, ?_, ⟨by rw [List.length_set]; exact HC.out⟩, HG', HR', HB', ⟨?_⟩⟩
        · have h1 := HS.out
          have h2 := HSB.out
          rw [h1] at h2
          rw [h1]
          simp only [rd, Int.toNat_natCast]
          unfold wrap64
          congr 1
          omega
        · intro j hj
          have hc := HC.out
          by_cases e : j = k
          · subst e; simp [rd, hc, hlt]
          · rw [← HV.out j (by omega)]
            simp only [rd, Int.toNat_natCast, List.getD_eq_getElem?_getD]
            rw [List.getElem?_set_ne (by omega)]
      case measure => simp [intOf]; omega
    · obtain rfl : k = 256 := by omega
      have HE := Aside0.mk (starts_eq HL.out HC.out HV.out)
      go_wp2_with (first | (refine wpList_load_row rfl 73 (.tmp 1) rfl w.heap.size rfl 73 (nums .i64 cur).toArray (0, 0) _ HG.out Try.underlying73 rfl ?hi ?_) | (refine wpList_store_row rfl 73 (.tmp 2) (.tmp 18) rfl (w.heap.size + 1) (nums .i64 cur).toArray rfl rfl 73 Try.zeroCells73 HR.out ?hi2 ?hi3 (nums_one _) ?_))
      case hi => rw [info73, nums_size, HC.out]
      case hi2 => rw [info73, nums_size, HC.out]
      case hi3 => rw [zero73, nums_size, nums_size, HC.out, List.length_replicate]
      refine bodyPost_ret (v := .agg (nums .i64 cur).toArray) ?_ rfl ⟨?_, ?_⟩
      · exact results_cell_row rfl _ _ (w.heap.size + 1) 73 _ (0, 0) _ rfl (setRow_heap _ _ _ _ _ _ HR.out) Try.underlying73 rfl (by rw [info73, nums_size, HC.out])
      · rw [HE.out]
      · exact below_setRow HB.out (by omega) _

open Go.Proofs.Fnd
/-- what the counts are behind the first k bytes -/
def IsOcc (s : List UInt8) (k : Nat) (cur : List Int) : Prop := cur.length = 256 ∧ ∀ c : Nat, c < 256 → el cur c = (occ s k c : Int)
def IsAt (s : List UInt8) (k : Nat) (cur : List Int) : Prop := cur.length = 256 ∧ ∀ c : Nat, c < 256 → el cur c = (less s c : Int) + (occ s k c : Int)
def IsOut (s : List UInt8) (k : Nat) (out : List Int) : Prop := out.length = s.length ∧ ∀ j : Nat, j < k → el out (pos s j) = (j : Int)
theorem getD_set_same (l : List Int) (i : Nat) (x : Int) (h : i < l.length) : el (l.set i x) i = x := by simp [el, h]
theorem getD_set_ne (l : List Int) (i j : Nat) (x : Int) (h : i ≠ j) : el (l.set i x) j = el l j := by
  simp only [el, List.getD_eq_getElem?_getD]
  rw [List.getElem?_set_ne h]
theorem isOcc_zero (s : List UInt8) : IsOcc s 0 (List.replicate 256 0) := ⟨List.length_replicate, fun c hc => by
  rw [occ_zero]; unfold el; rw [List.getD_eq_getElem?_getD, List.getElem?_replicate, if_pos hc]; rfl⟩
theorem isOcc_step {s : List UInt8} {k : Nat} {cur : List Int} (h : IsOcc s k cur) (hk : k < s.length) : IsOcc s (k + 1) (cur.set (s[k]).toNat (el cur (s[k]).toNat + 1)) := by
  refine ⟨by simp [h.1], fun c hc => ?_⟩
  rw [occ_succ s k c hk]
  by_cases e : (s[k]).toNat = c
  · subst e
    rw [getD_set_same _ _ _ (by rw [h.1]; exact hc), h.2 _ hc]
    simp
  · rw [getD_set_ne _ _ _ _ e, h.2 _ hc]
    simp [e]
theorem isAt_step {s : List UInt8} {k : Nat} {cur : List Int} (h : IsAt s k cur) (hk : k < s.length) : IsAt s (k + 1) (cur.set (s[k]).toNat (el cur (s[k]).toNat + 1)) := by
  refine ⟨by simp [h.1], fun c hc => ?_⟩
  rw [occ_succ s k c hk]
  by_cases e : (s[k]).toNat = c
  · subst e
    rw [getD_set_same _ _ _ (by rw [h.1]; exact hc), h.2 _ hc]
    simp; omega
  · rw [getD_set_ne _ _ _ _ e, h.2 _ hc]
    simp [e]
theorem starts_less {s : List UInt8} {cur : List Int} (h : IsOcc s s.length cur) (c : Nat) (hc : c ≤ 256) : startsAt cur c = (less s c : Int) := by
  induction c with
  | zero => simp [startsAt, less_zero]
  | succ c ih =>
    have := h.2 c (by omega)
    unfold el at this
    rw [startsAt_succ _ _ (by rw [h.1]; omega), ih (by omega), this, less_succ]
    simp
theorem isAt_starts {s : List UInt8} {cur : List Int} (h : IsOcc s s.length cur) : IsAt s 0 (startsL cur) := by
  refine ⟨by simp [startsL, h.1], fun c hc => ?_⟩
  rw [occ_zero, ← starts_less h c (by omega)]
  simp [startsL, el, h.1, hc]
theorem isOut_zero (s : List UInt8) (n : Nat) (h : s.length = n) : IsOut s 0 (List.replicate n 0) := ⟨by simp [h], fun j hj => by omega⟩
theorem isOut_step {s : List UInt8} {k : Nat} {out : List Int} (h : IsOut s k out) (hk : k < s.length) : IsOut s (k + 1) (out.set (pos s k) (k : Int)) := by
  refine ⟨by simp [h.1], fun j hj => ?_⟩
  by_cases e : j = k
  · subst e
    rw [getD_set_same _ _ _ (by rw [h.1]; exact pos_lt s j hk)]
  · rw [getD_set_ne _ _ _ _ (fun e2 => e (pos_inj s j k (by omega) hk e2.symm)), h.2 j (by omega)]
theorem isOut_perm {s : List UInt8} {out : List Int} (h : IsOut s s.length out) : out.Perm ((List.range s.length).map Int.ofNat) := by
  refine perm_of_mem h.1 fun i hi => ?_
  have h1 := h.2 i hi
  have h2 := pos_lt s i hi
  rw [← h1]; unfold el; rw [List.getD_eq_getElem?_getD, List.getElem?_eq_getElem (by rw [h.1]; exact h2), Option.getD_some]
  exact List.getElem_mem _

set_option maxHeartbeats 2000000 in
set_option maxRecDepth 100000 in
theorem find_sortBytes_calls (a0 : ByteArray) (hs : a0.size ≤ 4096) (w : World) :
    Calls Try.prog 65 #[.string a0] w fun e w' => ∃ (v0_ : Value) (r : List Int), e = .returned (v0_) ∧ Kd.R (Kd.int .i64) 3 w' w.heap.size (fun _ => True) v0_ r ∧ Below w.heap.size w w' ∧ r.Perm ((List.range a0.data.toList.length).map Int.ofNat) := by
  have hsz : a0.data.toList.length = a0.size := data_length a0
  have HSZ := Aside0.mk hsz
  clear hsz
  have HG0 := Aside0.mk (show (w.alloc (Obj.cells Try.zeroCells73 73)).heap[w.heap.size]? = some (.cells (nums .i64 (List.replicate 256 0)).toArray 73 (0, 0)) by rw [← zero73]; exact heap_alloc_new _ _)
  have HB0 := Aside0.mk ((Below.refl w.heap.size w).alloc (Nat.le_refl _) (Obj.cells Try.zeroCells73 73))
  go_enter Try.func65, Try.ntmps65
  go_wp2
  go_loopw [11] (fun v11 wr => ∃ (k : Nat) (cur : List Int), k ≤ a0.size ∧ v11 = .int .i64 k ∧ Aside0 (IsOcc a0.data.toList k cur) ∧ Aside0 (wr.heap[w.heap.size]? = some (.cells (nums .i64 cur).toArray 73 (0, 0))) ∧ Aside0 (Below w.heap.size w wr)) (fun v11 _ => a0.size - (intOf v11).toNat)
  case atStart => exact ⟨0, _, by omega, rfl, ⟨isOcc_zero _⟩, HG0, HB0⟩
  case round =>
    obtain ⟨k, cur, hk, rfl, HO, HG, HB⟩ := hrel
    clear HG0 HB0
    by_cases hlt : k < a0.size
    · have hc8 : a0[k].toNat < 256 := a0[k].toNat_lt
      have hcI : ((a0[k].toNat : Nat) : Int) < 256 := by omega
      have hcell : wr.cell? ⟨w.heap.size, a0[k].toNat, none⟩ = some (.int .i64 (el cur a0[k].toNat)) := blk_num HG.out a0[k].toNat (by rw [HO.out.1]; exact hc8)
      have hfr := blk_frozen HG.out a0[k].toNat
      have ho1 := HO.out.2 _ hc8
      have ho2 := occ_le a0.data.toList k a0[k].toNat
      have hge : 0 ≤ el cur a0[k].toNat := by omega
      have hle : el cur a0[k].toNat ≤ 4096 := by omega
      clear ho1 ho2
      have HG' := Aside0.mk (blk_store HG.out a0[k].toNat (el cur a0[k].toNat + 1))
      have HB' := Aside0.mk (below_set HB.out (Nat.le_refl _) : Below w.heap.size w (wr.setCell ⟨w.heap.size, a0[k].toNat, none⟩ (.int .i64 (el cur a0[k].toNat + 1))))
      have HO' : Aside0 (IsOcc a0.data.toList (k + 1) (cur.set a0[k].toNat (el cur a0[k].toNat + 1))) := ⟨isOcc_step HO.out (by rw [HSZ.out]; exact hlt)⟩
      go_wp2
      go_roundw
      case rel => exact ⟨k + 1, _, by omega, by go_num, HO', HG', HB'⟩
      case measure => simp [intOf]; omega
    · obtain rfl : k = a0.size := by omega
      have hb := HO.out.2
      have hbd : ∀ i, 0 ≤ rd cur i ∧ rd cur i ≤ 1099511627776 := fun i => by
        rw [show rd cur i = el cur i.toNat from rfl]
        by_cases hi : i.toNat < 256
        · rw [hb _ hi]
          have := occ_le a0.data.toList a0.size i.toNat
          omega
        · unfold el; rw [List.getD_eq_getElem?_getD, List.getElem?_eq_none (by rw [HO.out.1]; omega)]
          simp
      have HBD := Aside0.mk hbd
      clear hb hbd
      have HCL := Aside0.mk (show cur.length = 256 from HO.out.1)
      have hz1 : 0 ≤ ((a0.size : Nat) : Int) := by omega
      have hz2 : ((a0.size : Nat) : Int).toNat * 8 ≤ 281474976710656 := by omega
      go_wp2_with (first | (go_at_call 46; go_must (with_reducible refine (find_buckets_starts_calls cur HCL.out HBD.out _).mono ?_); rintro e w1 ⟨rfl, hb1⟩; have HB1 := Aside0.mk (below_step HB.out hb1); clear hb1) | (refine wpList_load_row rfl 73 (.tmp 3) rfl w.heap.size rfl 73 (nums .i64 cur).toArray (0, 0) _ HG.out Try.underlying73 rfl ?hi ?_) | (refine wpList_store_row rfl 73 (.tmp 5) (.tmp 23) rfl w1.heap.size (nums .i64 (startsL cur)).toArray rfl rfl 73 Try.zeroCells73 (heap_alloc_new _ _) ?hi2 ?hi3 (nums_one _) ?_) | ((with_reducible refine gate_dst (N := 26) rfl ?_); go_must (refine Kd.R_make (Kd.int .i64) _ 3 rfl (N := 26) rfl 22 _ _ rfl (a0.size : Int) rfl rfl Try.underlying22 (.int .i64 0) 8 info3 rfl (by decide) (by omega) 0 (ok := fun _ => True) (okp := fun _ => True) rfl (fun _ hk => hk) trivial hz1 hz2 (Below.refl _ _) (Nat.le_refl _) ?_); intro v2 w2 ho2 hb2 hg2_ hnew2_))
      case hi => rw [info73, nums_size, HCL.out]
      case hi2 => rw [info73, nums_size, startsL, List.length_map, List.length_range, HCL.out]
      case hi3 => rw [zero73, nums_size, nums_size, List.length_replicate, startsL, List.length_map, List.length_range, HCL.out]
      have hbx := below_setRow (below_alloc HB1.out (Obj.cells Try.zeroCells73 73)) HB1.out.size (nums IntKind.i64 (startsL cur)).toArray
      have HB2 := Aside0.mk (below_step hbx hb2)
      have hax : ((w1.alloc (Obj.cells Try.zeroCells73 73)).setRow w1.heap.size (nums IntKind.i64 (startsL cur)).toArray).heap[w1.heap.size]? = some (.cells (nums .i64 (startsL cur)).toArray 73 (0, 0)) := setRow_heap _ _ _ _ _ _ (heap_alloc_new _ _)
      have HA2 := Aside0.mk (blk_below hax hb2)
      have HO2 := Aside0.mk (Kd.R_lower ho2 hbx.size)
      have HI2 : Aside0 (IsAt a0.data.toList 0 (startsL cur)) := ⟨isAt_starts (by rw [HSZ.out]; exact HO.out)⟩
      have HU2 : Aside0 (IsOut a0.data.toList 0 (List.replicate ((a0.size : Nat) : Int).toNat 0)) := ⟨isOut_zero _ _ (by rw [HSZ.out]; simp)⟩
      have HG1 := Aside0.mk (HB1.out.size)
      clear ho2 hb2 hg2_ hnew2_ hbx hax HO HBD HG HB hz1 hz2 HCL HB1
      go_loopw [29] (fun v29 wr => ∃ (k : Nat) (acur out : List Int), k ≤ a0.size ∧ v29 = .int .i64 k ∧ Aside0 (IsAt a0.data.toList k acur) ∧ Aside0 (IsOut a0.data.toList k out) ∧ Aside0 (wr.heap[w1.heap.size]? = some (.cells (nums .i64 acur).toArray 73 (0, 0))) ∧ Aside0 (Kd.R (Kd.int .i64) 3 wr w.heap.size (fun _ => True) v2 out) ∧ Aside0 (Below w.heap.size w wr)) (fun v29 _ => a0.size - (intOf v29).toNat)
      case atStart => exact ⟨0, _, _, by omega, rfl, HI2, HU2, HA2, HO2, HB2⟩
      case round =>
        obtain ⟨k, acur, out, hk, rfl, HI, HU, HA, HO, HB⟩ := hrel
        clear HI2 HU2 HA2 HO2 HB2
        by_cases hlt : k < a0.size
        · have hks : k < a0.data.toList.length := by rw [HSZ.out]; exact hlt
          have hc8 : a0[k].toNat < 256 := a0[k].toNat_lt
          have hcI : ((a0[k].toNat : Nat) : Int) < 256 := by omega
          have hp := pos_eq a0.data.toList k hks
          have hpl := pos_lt a0.data.toList k hks
          have he : el acur a0[k].toNat = (pos a0.data.toList k : Int) := by rw [HI.out.2 _ hc8, hp]; simp; rfl
          have hpl2 : pos a0.data.toList k < out.length := by rw [HU.out.1]; exact hpl
          have hcell : wr.cell? ⟨w1.heap.size, a0[k].toNat, none⟩ = some (.int .i64 (pos a0.data.toList k : Int)) := by
            rw [← he]; exact blk_num HA.out a0[k].toNat (by rw [HI.out.1]; exact hc8)
          obtain ⟨g, cp, rfl, hg1, hg2, cl, hgc⟩ := Kd.R_form HO.out (by omega)
          obtain ⟨hx, hf⟩ := Kd.R_celln 0 HO.out (pos a0.data.toList k : Int) (by omega) (by omega)
          have HP := Kd.R_putg HO.out (pos a0.data.toList k : Int) (k : Int)
          have hne : g ≠ w1.heap.size := fun e => by rw [e, HA.out] at hgc; simp at hgc
          have hps : pos a0.data.toList k ≤ 4096 := by
            have h1 := HSZ.out
            omega
          have hU' : Aside0 (IsOut a0.data.toList (k + 1) (out.set (pos a0.data.toList k) (k : Int))) := ⟨isOut_step HU.out hks⟩
          have hI' : Aside0 (IsAt a0.data.toList (k + 1) (acur.set a0[k].toNat ((pos a0.data.toList k : Int) + 1))) := ⟨by
            have h1 := isAt_step HI.out hks
            rw [show el acur (a0.data.toList[k]).toNat = (pos a0.data.toList k : Int) from he] at h1
            exact h1⟩
          generalize pos a0.data.toList k = p at *
          simp only [Int.toNat_natCast] at hx hf HP
          have hfr2 : (wr.setCell ⟨g, p, none⟩ (.int .i64 k)).frozen? ⟨w1.heap.size, a0[k].toNat, none⟩ = false := blk_frozen (blk_far HA.out (p := ⟨g, p, none⟩) (fun e => hne e.symm) _) _
          have hA1 := blk_far HA.out (p := ⟨g, p, none⟩) (fun e => hne e.symm) (.int .i64 k)
          have hcell2 : (wr.setCell ⟨g, p, none⟩ (.int .i64 k)).cell? ⟨w1.heap.size, a0[k].toNat, none⟩ = some (.int .i64 (p : Int)) := by
            rw [blk_cell hA1, ← blk_cell HA.out]; exact hcell
          have HA' := Aside0.mk (blk_store hA1 a0[k].toNat ((p : Int) + 1))
          have HO' := Aside0.mk (Kd.R_set HP.1 hA1 (by intro q hq; simp [Kd.int, Kd.scalar] at hq; omega) a0[k].toNat (.int .i64 ((p : Int) + 1)))
          have HB' : Aside0 (Below w.heap.size w ((wr.setCell ⟨g, p, none⟩ (.int .i64 k)).setCell ⟨w1.heap.size, a0[k].toNat, none⟩ (.int .i64 ((p : Int) + 1)))) := ⟨below_set (below_set HB.out hg1) HG1.out⟩
          have hpl3 : (p : Int) < (out.length : Int) := by omega
          clear HP hA1 hgc he HI HU HO HB HA hp hpl
          go_wp2
          go_roundw
          case rel => exact ⟨k + 1, _, _, by omega, by go_num, hI', hU', HA', HO', HB'⟩
          case measure => simp [intOf]; omega
        · obtain rfl : k = a0.size := by omega
          go_wp2
          go_ret
          exact ⟨_, out, rfl, HO.out, HB.out, isOut_perm (by rw [HSZ.out]; exact HU.out)⟩
end Go.Proofs.Ytppelnlocfcgfaa.P
namespace Go.Proofs.Fnd
open Classical in
/-- the rank of the p-th place of an order: how often the first w bytes have turned on the way -/
noncomputable def lvl (s : List UInt8) (w : Nat) (o : Nat → Nat) : Nat → Nat
  | 0 => 0
  | p + 1 => lvl s w o p + (if EqW w (sq s (o p)) (sq s (o (p + 1))) then 0 else 1)
theorem lvl_same {s : List UInt8} {w : Nat} {o : Nat → Nat} {p : Nat} (h : EqW w (sq s (o p)) (sq s (o (p + 1)))) : lvl s w o (p + 1) = lvl s w o p := by simp [lvl, h]
theorem lvl_up {s : List UInt8} {w : Nat} {o : Nat → Nat} {p : Nat} (h : ¬ EqW w (sq s (o p)) (sq s (o (p + 1)))) : lvl s w o (p + 1) = lvl s w o p + 1 := by simp [lvl, h]
theorem lvl_le (s : List UInt8) (w : Nat) (o : Nat → Nat) (p : Nat) : lvl s w o p ≤ p := by
  induction p with
  | zero => exact Nat.le_refl _
  | succ p ih =>
    by_cases h : EqW w (sq s (o p)) (sq s (o (p + 1)))
    · rw [lvl_same h]; omega
    · rw [lvl_up h]; omega
theorem lvl_grow (s : List UInt8) (w : Nat) (o : Nat → Nat) (p d : Nat) : lvl s w o p ≤ lvl s w o (p + d) ∧ lvl s w o (p + d) ≤ lvl s w o p + d := by
  induction d with
  | zero => exact ⟨Nat.le_refl _, Nat.le_refl _⟩
  | succ d ih =>
    by_cases h : EqW w (sq s (o (p + d))) (sq s (o (p + d + 1)))
    · rw [show p + (d + 1) = p + d + 1 by omega, lvl_same h]; omega
    · rw [show p + (d + 1) = p + d + 1 by omega, lvl_up h]; omega
/-- an order of all places of a text, sorted by the first w bytes -/
structure Sorted (s : List UInt8) (w : Nat) (o : Nat → Nat) : Prop where
  lt : ∀ p, p < s.length → o p < s.length
  inj : ∀ p q, p < s.length → q < s.length → o p = o q → p = q
  sur : ∀ i, i < s.length → ∃ p, p < s.length ∧ o p = i
  up : ∀ p q, p < q → q < s.length → ¬ LtW w (sq s (o q)) (sq s (o p))
theorem Sorted.lvl_eq {s : List UInt8} {w : Nat} {o : Nat → Nat} (h : Sorted s w o) (p d : Nat) (hd : p + d < s.length) : lvl s w o (p + d) = lvl s w o p ↔ EqW w (sq s (o p)) (sq s (o (p + d))) := by
  induction d with
  | zero => exact ⟨fun _ => EqW.refl _ _, fun _ => rfl⟩
  | succ d ih =>
    have ih := ih (by omega)
    have g := lvl_grow s w o p d
    rw [show p + (d + 1) = p + d + 1 by omega]
    by_cases q : EqW w (sq s (o (p + d))) (sq s (o (p + d + 1)))
    · rw [lvl_same q, ih]
      exact ⟨fun a => a.trans q, fun a => a.trans q.symm⟩
    · rw [lvl_up q]
      refine ⟨fun a => by omega, fun a => ?_⟩
      exfalso
      by_cases hd0 : d = 0
      · subst hd0; exact q a
      · have n1 := h.up p (p + d) (by omega) (by omega)
        have n2 := h.up (p + d) (p + d + 1) (by omega) (by omega)
        rcases tri w (sq s (o (p + d))) (sq s (o (p + d + 1))) with b | b | b
        · exact n1 (b.eq_right a.symm)
        · exact q b
        · exact n2 b
theorem Sorted.lvl_lt {s : List UInt8} {w : Nat} {o : Nat → Nat} (h : Sorted s w o) {p q : Nat} (hp : p < s.length) (hq : q < s.length) : lvl s w o p < lvl s w o q ↔ LtW w (sq s (o p)) (sq s (o q)) := by
  rcases Nat.lt_trichotomy p q with c | c | c
  · obtain ⟨d, rfl⟩ : ∃ d, q = p + d := ⟨q - p, by omega⟩
    have g := lvl_grow s w o p d
    have e := h.lvl_eq p d hq
    have n := h.up p (p + d) c hq
    constructor
    · intro a
      rcases tri w (sq s (o p)) (sq s (o (p + d))) with b | b | b
      · exact b
      · have := e.2 b; omega
      · exact absurd b n
    · intro a
      have : lvl s w o (p + d) ≠ lvl s w o p := fun b => a.not_eq (e.1 b)
      omega
  · subst c
    exact ⟨fun a => by omega, fun a => a.irrefl.elim⟩
  · obtain ⟨d, rfl⟩ : ∃ d, p = q + d := ⟨p - q, by omega⟩
    have g := lvl_grow s w o q d
    have n := h.up q (q + d) c hp
    exact ⟨fun a => by omega, fun a => absurd a n⟩
/-- the ranks that the program writes down -/
theorem Sorted.ranks {s : List UInt8} {w : Nat} {o : Nat → Nat} (h : Sorted s w o) {r : List Int} (hl : r.length = s.length) (hn : s.length ≤ 4096) (hr : ∀ p, p < s.length → el r (o p) = (lvl s w o p : Int)) : RankOK s w r where
  len := hl
  lt i j hi hj := by
    obtain ⟨p, hp, rfl⟩ := h.sur i hi
    obtain ⟨q, hq, rfl⟩ := h.sur j hj
    rw [hr p hp, hr q hq, ← h.lvl_lt hp hq]; omega
  lo i hi := by
    obtain ⟨p, hp, rfl⟩ := h.sur i hi
    rw [hr p hp]; omega
  hi i hi := by
    obtain ⟨p, hp, rfl⟩ := h.sur i hi
    rw [hr p hp]
    have := lvl_le s w o p; omega
theorem ltW_full {s : List UInt8} {w i j : Nat} (hi : i ≤ s.length) (hj : j ≤ s.length) (h : LtW w (sq s i) (sq s j)) : LtW (s.length + 1) (sq s i) (sq s j) := by
  by_cases hw : w ≤ s.length + 1
  · exact h.mono hw
  · rcases tri (s.length + 1) (sq s i) (sq s j) with b | b | b
    · exact b
    · have := sq_inj s s.length i j (Nat.le_refl _) hi hj b
      subst this
      exact h.irrefl.elim
    · exact (h.asymm (b.mono (by omega))).elim
/-- all ranks differ: the order is that of the suffixes -/
theorem Sorted.done {s : List UInt8} {w : Nat} {o : Nat → Nat} (h : Sorted s w o) (hd : s.length ≤ lvl s w o (s.length - 1) + 1) : IsOrd s ((List.range s.length).map o) where
  perm := by
    refine perm_of_subset _ _ ?_ ?_ (by simp)
    · rw [List.Nodup, List.pairwise_map]
      have hr : (List.range s.length).Pairwise (· < ·) := List.pairwise_lt_range
      refine hr.imp_of_mem fun {p q} hp hq hpq e => ?_
      rw [List.mem_range] at hp hq
      have := h.inj p q hp hq e
      omega
    · intro x hx
      obtain ⟨p, hp, rfl⟩ := List.mem_map.1 hx
      rw [List.mem_range] at hp ⊢
      exact h.lt p hp
  up := by
    rw [List.pairwise_map]
    have hr : (List.range s.length).Pairwise (· < ·) := List.pairwise_lt_range
    refine hr.imp_of_mem fun {p q} hp hq hpq => ?_
    rw [List.mem_range] at hp hq
    refine ltW_full (Nat.le_of_lt (h.lt p hp)) (Nat.le_of_lt (h.lt q hq)) ((h.lvl_lt hp hq).1 ?_)
    have g1 := lvl_grow s w o q (s.length - 1 - q)
    rw [show q + (s.length - 1 - q) = s.length - 1 by omega] at g1
    have g2 := lvl_le s w o p
    omega
/-- twice as many bytes as the text has: all ranks differ -/
theorem Sorted.wide {s : List UInt8} {w : Nat} {o : Nat → Nat} (h : Sorted s w o) (hw : s.length ≤ w) (p : Nat) (hp : p < s.length) : lvl s w o p = p := by
  induction p with
  | zero => rfl
  | succ p ih =>
    rw [lvl_up, ih (by omega)]
    intro e
    have := sq_inj' s w _ _ hw (h.lt p (by omega)) (h.lt (p + 1) hp) e
    have := h.inj p (p + 1) (by omega) hp this
    omega
end Go.Proofs.Fnd
