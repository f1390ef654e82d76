/- Proved here: what functions that the law reaches compute, and plain laws of that. Put together by a program; a part was printed by one (wip/printplus.py). -/
import Derived.Test.YtmnhcbaocoofoaaDoorBQ11
import Derived.Test.YtmnhcbaocoofoaaDoorBQ16
import Derived.Test.YtmnhcbaocoofoaaDoorBQ15
import Derived.IntWalk
set_option linter.unusedVariables false
set_option linter.unusedSimpArgs false
namespace Go.Proofs.YtmnhcbaocoofoaaDoor.P
open Go.RowKit YtmnhcbaocoofoaaDoorW.PrintWords YtmnhcbaocoofoaaDoorW.PrintLast YtmnhcbaocoofoaaDoorW.PrintMore
attribute [local go_sem] max2_int min2_int max_two min_two max_three min_three max_four min_four

mutual
noncomputable def L4_BenchMore.j0 : Nat → Int → List (S40) → Bool → Int → Int → Option (Bool)
 | 0, _, _, _, _, _ => none
 | k + 1, x7, x8, x33, x216000, x216001 => if x33 = true then ((L4_awake.f).bind fun t221 => (some t221)) else (if x7 < 8 then ((L4_can.f k (wrap64 (x7 + 1)) x8).bind fun t222 => (L4_BenchMore.j1 k x7 x8 (t222 != 1) x216000 x216001)) else (L4_BenchMore.j1 k x7 x8 false x216000 x216001))
noncomputable def L4_BenchMore.j1 : Nat → Int → List (S40) → Bool → Int → Int → Option (Bool)
 | 0, _, _, _, _, _ => none
 | k + 1, x7, x8, x43, x216000, x216001 => if x43 = true then (some false) else ((L4_mod.f x216000 (x8.length : Int)).bind fun t223 => ((L4_mod.f x216001 5).bind fun t224 => (L4_BenchMore.l0 k x7 x8 t223 (wrap64 (1 + t224)) ([] : List (S40)) ([] : List (S40)) 0 x216000 x216001)))
noncomputable def L4_BenchMore.l0 : Nat → Int → List (S40) → Int → Int → List (S40) → List (S40) → Int → Int → Int → Option (Bool)
 | 0, _, _, _, _, _, _, _, _, _ => none
 | k + 1, x7, x8, x10, x11, x12, x13, x14, x216000, x216001 => if x14 < (x8.length : Int) then (if 0 ≤ x14 then (if x14 = x10 then ((L4_mod.f x216001 2).bind fun t227 => (if x12.length < 5864062014805 then (L4_BenchMore.l0 k x7 x8 x10 x11 (x12 ++ [(⟨mx (wrap64 (((rd_T40 x8 x14).f0) - x11)) 0, mn (wrap64 (((rd_T40 x8 x14).f1) + x11)) 1048576, mx (wrap64 (((rd_T40 x8 x14).f2) - t227)) 1⟩ : S40)]) x13 (wrap64 (x14 + 1)) x216000 x216001) else (none))) else (if x13.length < 5864062014805 then (if x12.length < 5864062014805 then (L4_BenchMore.l0 k x7 x8 x10 x11 (x12 ++ [(⟨(rd_T40 x8 x14).f0, (rd_T40 x8 x14).f1, (rd_T40 x8 x14).f2⟩ : S40)]) (x13 ++ [(⟨(rd_T40 x8 x14).f0, (rd_T40 x8 x14).f1, (rd_T40 x8 x14).f2⟩ : S40)]) (wrap64 (x14 + 1)) x216000 x216001) else (none)) else (none))) else (none)) else ((L4_can.f k x7 x12).bind fun t237 => (if t237 = 1 then ((L4_can.f k x7 x13).bind fun t238 => (if t238 = 1 then ((L4_awake.f).bind fun t239 => (some t239)) else (some false))) else (some false)))
end
noncomputable def L4_BenchMore.f (k : Nat) (a0 : Int) (l1 : List (S40)) (a2_0 : Int) (a2_1 : Int) : Option (Bool) := (L4_tame.f k a0 l1 12).bind fun bt216 => ((L4_can.f k bt216.1 bt216.2).bind fun t220 => (if t220 = 2 then (some false) else (if t220 = 0 then (L4_BenchMore.j0 k bt216.1 bt216.2 true a2_0 a2_1) else (L4_BenchMore.j0 k bt216.1 bt216.2 ((bt216.2.length : Int) == 0) a2_0 a2_1))))
theorem L4_BenchMore.mono_l : ∀ k, (∀ y0 y1 y2 y3 y4, LeO (L4_BenchMore.j0 k y0 y1 y2 y3 y4) (L4_BenchMore.j0 (k + 1) y0 y1 y2 y3 y4)) ∧ (∀ y0 y1 y2 y3 y4, LeO (L4_BenchMore.j1 k y0 y1 y2 y3 y4) (L4_BenchMore.j1 (k + 1) y0 y1 y2 y3 y4)) ∧ (∀ y0 y1 y2 y3 y4 y5 y6 y7 y8, LeO (L4_BenchMore.l0 k y0 y1 y2 y3 y4 y5 y6 y7 y8) (L4_BenchMore.l0 (k + 1) y0 y1 y2 y3 y4 y5 y6 y7 y8))
 | 0 => ⟨fun _ _ _ _ _ r h => by simp [L4_BenchMore.j0] at h, fun _ _ _ _ _ r h => by simp [L4_BenchMore.j1] at h, fun _ _ _ _ _ _ _ _ _ r h => by simp [L4_BenchMore.l0] at h⟩
 | k + 1 => by
  obtain ⟨ih0, ih1, ih2⟩ := L4_BenchMore.mono_l k
  refine ⟨?_, ?_, ?_⟩
  ·intro y0 y1 y2 y3 y4
   unfold L4_BenchMore.j0
   repeat' first
   | (with_reducible exact ih0 _ _ _ _ _)
   | (with_reducible exact ih1 _ _ _ _ _)
   | (with_reducible exact ih2 _ _ _ _ _ _ _ _ _)
   | (with_reducible exact L4_can.mono _ _ _)
   | (with_reducible exact L4_tame.mono _ _ _ _)
   | (with_reducible first | exact LeO.refl _ | exact LeO.none _ | refine LeO.ite ?_ ?_ | refine LeO.bind ?_ (fun _ => ?_))
   | exact ih0 _ _ _ _ _
   | exact ih1 _ _ _ _ _
   | exact ih2 _ _ _ _ _ _ _ _ _
   | exact L4_can.mono _ _ _
   | exact L4_tame.mono _ _ _ _
   | exact LeO.none _ | refine LeO.ite ?_ ?_ | refine LeO.bind ?_ (fun _ => ?_)
  ·intro y0 y1 y2 y3 y4
   unfold L4_BenchMore.j1
   repeat' first
   | (with_reducible exact ih0 _ _ _ _ _)
   | (with_reducible exact ih1 _ _ _ _ _)
   | (with_reducible exact ih2 _ _ _ _ _ _ _ _ _)
   | (with_reducible exact L4_can.mono _ _ _)
   | (with_reducible exact L4_tame.mono _ _ _ _)
   | (with_reducible first | exact LeO.refl _ | exact LeO.none _ | refine LeO.ite ?_ ?_ | refine LeO.bind ?_ (fun _ => ?_))
   | exact ih0 _ _ _ _ _
   | exact ih1 _ _ _ _ _
   | exact ih2 _ _ _ _ _ _ _ _ _
   | exact L4_can.mono _ _ _
   | exact L4_tame.mono _ _ _ _
   | exact LeO.none _ | refine LeO.ite ?_ ?_ | refine LeO.bind ?_ (fun _ => ?_)
  ·intro y0 y1 y2 y3 y4 y5 y6 y7 y8
   unfold L4_BenchMore.l0
   repeat' first
   | (with_reducible exact ih0 _ _ _ _ _)
   | (with_reducible exact ih1 _ _ _ _ _)
   | (with_reducible exact ih2 _ _ _ _ _ _ _ _ _)
   | (with_reducible exact L4_can.mono _ _ _)
   | (with_reducible exact L4_tame.mono _ _ _ _)
   | (with_reducible first | exact LeO.refl _ | exact LeO.none _ | refine LeO.ite ?_ ?_ | refine LeO.bind ?_ (fun _ => ?_))
   | exact ih0 _ _ _ _ _
   | exact ih1 _ _ _ _ _
   | exact ih2 _ _ _ _ _ _ _ _ _
   | exact L4_can.mono _ _ _
   | exact L4_tame.mono _ _ _ _
   | exact LeO.none _ | refine LeO.ite ?_ ?_ | refine LeO.bind ?_ (fun _ => ?_)
theorem L4_BenchMore.mono : ∀ a0 a1 a2 a3 k, LeO (L4_BenchMore.f k a0 a1 a2 a3) (L4_BenchMore.f (k + 1) a0 a1 a2 a3) := by
 intro a0 a1 a2 a3 k
 obtain ⟨ih0, ih1, ih2⟩ := L4_BenchMore.mono_l k
 unfold L4_BenchMore.f
 repeat' first
   | (with_reducible exact ih0 _ _ _ _ _)
   | (with_reducible exact ih1 _ _ _ _ _)
   | (with_reducible exact ih2 _ _ _ _ _ _ _ _ _)
   | (with_reducible exact L4_can.mono _ _ _)
   | (with_reducible exact L4_tame.mono _ _ _ _)
   | (with_reducible first | exact LeO.refl _ | exact LeO.none _ | refine LeO.ite ?_ ?_ | refine LeO.bind ?_ (fun _ => ?_))
   | exact ih0 _ _ _ _ _
   | exact ih1 _ _ _ _ _
   | exact ih2 _ _ _ _ _ _ _ _ _
   | exact L4_can.mono _ _ _
   | exact L4_tame.mono _ _ _ _
   | exact LeO.none _ | refine LeO.ite ?_ ?_ | refine LeO.bind ?_ (fun _ => ?_)
def L4_BenchMore.T9 : Bool × List (List Nat × List Nat) := (true, [([], []), ([0], [0]), ([], []), ([2], [2]), ([1, 3], [1, 3]), ([], []), ([5], [5]), ([6, 4], [6]), ([7], [7]), ([4, 7, 0, 1, 2, 3, 4], [4]), ([8, 9, 0, 1, 2, 3, 4, 5, 6, 7, 8, 9], [8])])
def L4_BenchMore.B9 : List Nat := [0, 1, 0, 4, 15, 0, 32, 127, 255, 255, 1023]
theorem L4_BenchMore.tab9 : rtab .any (opsOf Tryd.f5 9) = L4_BenchMore.T9 := by kernel_rfl
theorem L4_BenchMore.bits9 : waitsOk L4_BenchMore.T9.2 L4_BenchMore.B9 = true := by kernel_rfl
def L4_BenchMore.T19 : Bool × List (List Nat × List Nat) := (true, [([], []), ([0], [0]), ([], []), ([2], [2]), ([3], [3]), ([1, 4], [1, 4]), ([5], [5]), ([0, 1, 2, 3, 4, 5, 6], []), ([7, 6, 4, 0, 1, 2, 3, 4, 5, 6], [6, 7])])
def L4_BenchMore.B19 : List Nat := [0, 1, 0, 4, 12, 31, 63, 127, 255]
theorem L4_BenchMore.tab19 : rtab .any (opsOf Tryd.f5 19) = L4_BenchMore.T19 := by kernel_rfl
theorem L4_BenchMore.bits19 : waitsOk L4_BenchMore.T19.2 L4_BenchMore.B19 = true := by kernel_rfl
set_option maxHeartbeats 8000000 in
set_option maxRecDepth 100000 in
theorem L4_BenchMore.calls (k : Nat) (a0 : Int) (A1 : Option Addr) (c1 : Nat) (l1 : List (S40)) (a2_0 : Int) (a2_1 : Int) (r : Bool) (hr_ : Aside0 (r = true)) (w : World) (hno_ : None_ w) (hr1 : Kd.C k40 w A1 l1.length l1) (hc1 : l1.length ≤ c1) (h : L4_BenchMore.f k a0 l1 a2_0 a2_1 = some r) :
  Calls Tryd.prog 5 #[.int .i64 a0, .slice A1 l1.length c1, .agg #[.int .i64 a2_0, .int .i64 a2_1]] w fun e w' => e = .returned (.bool r) ∧ Below w.heap.size w w' := by
 have hu34 := Tryd.underlying34
 have hu40 := Tryd.underlying40
 have HR1 := Aside0.mk hr1
 have HC1 := Aside0.mk hc1
 clear hr1 hc1
 have HNO := Aside0.mk hno_
 clear hno_
 have HB := Aside0.mk (Below.refl w.heap.size w)
 have H : ((L4_tame.f k a0 l1 12).bind fun bt216 => ((L4_can.f k bt216.1 bt216.2).bind fun t220 => (if t220 = 2 then (some false) else (if t220 = 0 then (L4_BenchMore.j0 k bt216.1 bt216.2 true a2_0 a2_1) else (L4_BenchMore.j0 k bt216.1 bt216.2 ((bt216.2.length : Int) == 0) a2_0 a2_1))))) = some r := h
 clear h
 replace H := Option.bind_eq_some_iff.mp H
 obtain ⟨⟨t216, t217⟩, A40, H⟩ := H
 replace H : ((L4_can.f k t216 t217).bind fun t220 => (if t220 = 2 then (some false) else (if t220 = 0 then (L4_BenchMore.j0 k t216 t217 true a2_0 a2_1) else (L4_BenchMore.j0 k t216 t217 ((t217.length : Int) == 0) a2_0 a2_1)))) = some r := H
 have A4 := Aside0.mk A40
 clear A40
 replace H := Option.bind_eq_some_iff.mp H
 obtain ⟨t220, A50, H⟩ := H
 replace H : (if t220 = 2 then (some false) else (if t220 = 0 then (L4_BenchMore.j0 k t216 t217 true a2_0 a2_1) else (L4_BenchMore.j0 k t216 t217 ((t217.length : Int) == 0) a2_0 a2_1))) = some r := H
 have A5 := Aside0.mk A50
 clear A50
 by_cases c6 : t220 = 2
 ·rw [if_pos c6] at H
  exact absurd ((Option.some.inj H).trans hr_.out) (by decide)
 rw [if_neg c6] at H
 have c6b0 : (t220 == 2) = false := beq_eq_false_iff_ne.mpr c6
 have c6b1 : (t220 != 2) = true := bne_iff_ne.mpr c6
 have HC11 := Aside0.mk H
 clear H
 go_enter Tryd.func5, Tryd.ntmps5
 go_upto_region 5 with (first | ((with_reducible refine gate_dst (N := 5) rfl ?_); (try (refine gate_guard (by rfl) ?_; dsimp only)); refine bxe 5 #[.int .i64 a2_0, .int .i64 a2_1] 34 ?_; intro gb215 hg w12 hbox hb; have n0_ := Aside0.mk (below_step lB hb); have n1_ := Aside0.mk (hbox); have n2_ := Aside0.mk (lG (w := w) hg); have n3_ := Aside0.mk (lG (w := w) hg); clear HB; have HB := n0_; have BK215 := n1_; have GW215 := n2_; have GE215 := n3_; clear n0_ n1_ n2_ n3_; clear hb hbox hg) | ((with_reducible refine gate_callee (f := 21) rfl ?_); refine goesL_ (some 19) rfl rfl Tryd.func21 (by kernel_rfl) rfl #[.int .i64 a0, .slice A1 l1.length c1, .int .i64 12] rfl (by (try simp only [List.map_toArray, List.map_cons, List.map_nil]); first | done | rfl | (simp only [List.length_drop, List.length_take]; rfl)) ?_; (with_reducible refine (L4_tame.calls k a0 _ _ l1 12 t216 t217 _ ?side1 ?side2 A4.out).mono ?_); (case side1 => repeat (first | exact (Kd.C_below HR1.out HB.out) | (with_reducible refine Kd.C_alloc ?_ _) | (with_reducible refine Kd.C_drewN ?_ _) | (with_reducible refine Kd.C_drew ?_))); (case side2 => exact HC1.out); rintro e w13 ⟨v218, rfl, ho0, hb⟩; refine ⟨_, rfl, ?_⟩; have n0_ := Aside0.mk (Kd.R_lower ho0 (below_size lB)); have n1_ := Aside0.mk (blk_below (g := gb215) (o := .cells #[.int .i64 a2_0, .int .i64 a2_1] 34 (0, 0)) (kX BK215.out) hb); have n2_ := Aside0.mk (below_step lB hb); clear BK215; clear HB; have HO219 := n0_; have BK215 := n1_; have HB := n2_; clear n0_ n1_ n2_; (try clear hb); (try clear hb2); (try clear hk); (try clear hi); (try clear ho0); obtain ⟨Ao14, co14, eo14⟩ := Kd.R_slice HO219.out; subst eo14) | ((with_reducible refine gate_callee (f := 22) rfl ?_); refine goesL_ (some 24) rfl rfl Tryd.func22 (by kernel_rfl) rfl #[.int .i64 t216, .slice Ao14 t217.length co14] rfl (by (try simp only [List.map_toArray, List.map_cons, List.map_nil]); first | done | rfl | (simp only [List.length_drop, List.length_take]; rfl)) ?_; (with_reducible refine (L4_can.calls k t216 _ _ t217 t220 _ ?sidenone ?side1 ?side2 A5.out).mono ?_); (case sidenone => exact HNO.out.below lB); (case side1 => repeat (first | exact (Kd.R_reads' HO219.out).2.2 | (with_reducible refine Kd.C_alloc ?_ _) | (with_reducible refine Kd.C_drewN ?_ _) | (with_reducible refine Kd.C_drew ?_))); (case side2 => exact (Kd.R_reads' HO219.out).2.1); rintro e w15 ⟨rfl, hb⟩; refine ⟨_, rfl, ?_⟩; have n0_ := Aside0.mk (Kd.R_below (by (with_reducible repeat (first | apply Kd.R_alloc | apply Kd.R_drewN | apply Kd.R_drew)); exact HO219.out) hb); have n1_ := Aside0.mk (blk_below (g := gb215) (o := .cells #[.int .i64 a2_0, .int .i64 a2_1] 34 (0, 0)) (kX BK215.out) hb); have n2_ := Aside0.mk (below_step lB hb); clear HO219; clear BK215; clear HB; have HO219 := n0_; have BK215 := n1_; have HB := n2_; clear n0_ n1_ n2_; (try clear hb); (try clear hb2); (try clear hk); (try clear hi)))
 (try simp only [Act.put, sA, sB, sC])
 go_cut [33] (fun v33 wc => ∃ (kq : Nat) (x33_10 : Bool), v33 = .bool x33_10 ∧ Aside0 (L4_BenchMore.j0 kq t216 t217 x33_10 a2_0 a2_1 = some r) ∧ Aside0 (kq ≤ k) ∧ Aside0 (Kd.R k40 40 wc w.heap.size (fun _ => True) (.slice Ao14 t217.length co14) t217) ∧ Aside0 (wc.heap[gb215]? = some (.cells #[.int .i64 a2_0, .int .i64 a2_1] 34 (0, 0))) ∧ Aside0 (Below w.heap.size w wc))
 case first =>
  have H := HC11.out
  clear HC11
  by_cases c16 : t220 = 0
  rw [if_pos c16] at H
  have c16b0 : (t220 == 0) = true := beq_iff_eq.mpr c16
  have c16b1 : (t220 != 0) = false := bne_eq_false_iff_eq.mpr c16
  clear c16
  (first | rw [c16b0] | (simp only [i64_w, i32_w]; rw [c16b0]) | skip)
  have H' := Aside0.mk H
  clear H
  rotate_left 1
  rw [if_neg c16] at H
  have c16b0 : (t220 == 0) = false := beq_eq_false_iff_ne.mpr c16
  have c16b1 : (t220 != 0) = true := bne_iff_ne.mpr c16
  (first | rw [c16b0] | (simp only [i64_w, i32_w]; rw [c16b0]) | skip)
  have H' := Aside0.mk H
  clear H
  all_goals go_wp2
  all_goals first
    | (go_meet
       case rel => exact ⟨_, (true), (by first | rfl | (simp; done) | (simp [*]; done)), H', ⟨by first | omega | exact Nat.le_refl _⟩, ⟨by (with_reducible repeat (first | apply Kd.R_alloc | apply Kd.R_drewN | apply Kd.R_drew)); exact HO219.out⟩, ⟨by (with_reducible repeat (first | refine kN ?_ _ | refine kD ?_ | refine kA ?_ _)); exact BK215.out⟩, ⟨by repeat (first | (with_reducible first | exact HB.out | apply lA | apply lN | apply lD | refine lS ?_ GE215.out) | exact HB.out)⟩⟩)
    | (go_meet
       case rel => exact ⟨_, (((t217.length : Int) == 0)), (by first | rfl | (simp; done) | (simp [*]; done)), H', ⟨by first | omega | exact Nat.le_refl _⟩, ⟨by (with_reducible repeat (first | apply Kd.R_alloc | apply Kd.R_drewN | apply Kd.R_drew)); exact HO219.out⟩, ⟨by (with_reducible repeat (first | refine kN ?_ _ | refine kD ?_ | refine kA ?_ _)); exact BK215.out⟩, ⟨by repeat (first | (with_reducible first | exact HB.out | apply lA | apply lN | apply lD | refine lS ?_ GE215.out) | exact HB.out)⟩⟩)
 case rest =>
  clear HC11
  try clear c1
  try clear c2
  try clear p2
  try clear c5
  try clear c6
  try clear c6b0
  try clear c6b1
  try clear c16
  try clear c16b0
  try clear c16b1
  obtain ⟨kq, x33_10, rfl, HA, HJ10, HO_8, BK215, HB⟩ := hcut
  cases kq with
  | zero => exact absurd HA.out (by simp [L4_BenchMore.j0])
  | succ kj10 =>
   have H := HA.out
   clear HA
   simp only [L4_BenchMore.j0] at H
   by_cases c17 : x33_10 = true
   ·subst c17
    have H1 : ((L4_awake.f).bind fun t221 => (some t221)) = some r := by rw [if_pos rfl] at H; exact H
    clear H
    have H := H1
    clear H1
    replace H := Option.bind_eq_some_iff.mp H
    obtain ⟨t221, A180, H⟩ := H
    replace H : (some t221) = some r := H
    have A18 := Aside0.mk A180
    clear A180
    obtain rfl := Option.some.inj H
    go_wp2_with (first | ((with_reducible refine gate_callee (f := 16) rfl ?_); refine goesL_ (some 34) rfl rfl Tryd.func16 (by kernel_rfl) rfl #[] rfl (by (try simp only [List.map_toArray, List.map_cons, List.map_nil]); first | done | rfl | (simp only [List.length_drop, List.length_take]; rfl)) ?_; (with_reducible refine (L4_awake.calls  t221 hr_ _ ?sidenone A18.out).mono ?_); (case sidenone => exact HNO.out.below lB); rintro e w19 ⟨rfl, hb⟩; refine ⟨_, rfl, ?_⟩; have n0_ := Aside0.mk (Kd.R_below (by (with_reducible repeat (first | apply Kd.R_alloc | apply Kd.R_drewN | apply Kd.R_drew)); exact HO_8.out) hb); have n1_ := Aside0.mk (blk_below (g := gb215) (o := .cells #[.int .i64 a2_0, .int .i64 a2_1] 34 (0, 0)) (kX BK215.out) hb); have n2_ := Aside0.mk (below_step lB hb); clear HO_8; clear BK215; clear HB; have HO_8 := n0_; have BK215 := n1_; have HB := n2_; clear n0_ n1_ n2_; (try clear hb); (try clear hb2); (try clear hk); (try clear hi)))
    go_ret
    exact en
   ·replace c17 := Bool.eq_false_iff.mpr c17
    subst c17
    have H1 : (if t216 < 8 then ((L4_can.f kj10 (wrap64 (t216 + 1)) t217).bind fun t222 => (L4_BenchMore.j1 kj10 t216 t217 (t222 != 1) a2_0 a2_1)) else (L4_BenchMore.j1 kj10 t216 t217 false a2_0 a2_1)) = some r := by rw [if_neg (show ¬ (false = true) by decide)] at H; exact H
    clear H
    have H := H1
    clear H1
    have HC20 := Aside0.mk H
    clear H
    go_upto_region 7 with (fail)
    go_cut [43] (fun v43 wc => ∃ (kq : Nat) (x43_19 : Bool), v43 = .bool x43_19 ∧ Aside0 (L4_BenchMore.j1 kq t216 t217 x43_19 a2_0 a2_1 = some r) ∧ Aside0 (kq ≤ kj10) ∧ Aside0 (Kd.R k40 40 wc w.heap.size (fun _ => True) (.slice Ao14 t217.length co14) t217) ∧ Aside0 (wc.heap[gb215]? = some (.cells #[.int .i64 a2_0, .int .i64 a2_1] 34 (0, 0))) ∧ Aside0 (Below w.heap.size w wc))
    case first =>
     have H := HC20.out
     clear HC20
     by_cases c21 : t216 < 8
     rw [if_pos c21] at H
     have c21b0 : decide (t216 < 8) = true := decide_eq_true c21
     clear c21
     (first | rw [c21b0] | (simp only [i64_w, i32_w]; rw [c21b0]) | skip)
     replace H := Option.bind_eq_some_iff.mp H
     obtain ⟨t222, A220, H⟩ := H
     replace H : (L4_BenchMore.j1 kj10 t216 t217 (t222 != 1) a2_0 a2_1) = some r := H
     have A22 := Aside0.mk A220
     clear A220
     have H' := Aside0.mk H
     clear H
     rotate_left 1
     rw [if_neg c21] at H
     have c21b0 : decide (t216 < 8) = false := decide_eq_false c21
     clear c21
     (first | rw [c21b0] | (simp only [i64_w, i32_w]; rw [c21b0]) | skip)
     have H' := Aside0.mk H
     clear H
     all_goals go_wp2_with (first | (go_at_call 22; (with_reducible refine (L4_can.calls kj10 (wrap64 (t216 + 1)) _ _ t217 t222 _ ?sidenone ?side1 ?side2 A22.out).mono ?_); (case sidenone => exact HNO.out.below lB); (case side1 => repeat (first | exact (Kd.R_reads' HO_8.out).2.2 | (with_reducible refine Kd.C_alloc ?_ _) | (with_reducible refine Kd.C_drewN ?_ _) | (with_reducible refine Kd.C_drew ?_))); (case side2 => exact (Kd.R_reads' HO_8.out).2.1); rintro e wz0 ⟨rfl, hb⟩; have n0_ := Aside0.mk (Kd.R_below (by (with_reducible repeat (first | apply Kd.R_alloc | apply Kd.R_drewN | apply Kd.R_drew)); exact HO_8.out) hb); have n1_ := Aside0.mk (blk_below (g := gb215) (o := .cells #[.int .i64 a2_0, .int .i64 a2_1] 34 (0, 0)) (kX BK215.out) hb); have n2_ := Aside0.mk (below_step lB hb); clear HO_8; clear BK215; clear HB; have HO_8 := n0_; have BK215 := n1_; have HB := n2_; clear n0_ n1_ n2_; (try clear hb); (try clear hb2); (try clear hk); (try clear hi)))
     all_goals first
       | (go_meet
          case rel => exact ⟨_, ((t222 != 1)), (by first | rfl | (simp; done) | (simp [*]; done)), H', ⟨by have := HJ10.out; first | omega | exact Nat.le_refl _⟩, ⟨by (with_reducible repeat (first | apply Kd.R_alloc | apply Kd.R_drewN | apply Kd.R_drew)); exact HO_8.out⟩, ⟨by (with_reducible repeat (first | refine kN ?_ _ | refine kD ?_ | refine kA ?_ _)); exact BK215.out⟩, ⟨by repeat (first | (with_reducible first | exact HB.out | apply lA | apply lN | apply lD | refine lS ?_ GE215.out) | exact HB.out)⟩⟩)
       | (go_meet
          case rel => exact ⟨_, (false), (by first | rfl | (simp; done) | (simp [*]; done)), H', ⟨by have := HJ10.out; first | omega | exact Nat.le_refl _⟩, ⟨by (with_reducible repeat (first | apply Kd.R_alloc | apply Kd.R_drewN | apply Kd.R_drew)); exact HO_8.out⟩, ⟨by (with_reducible repeat (first | refine kN ?_ _ | refine kD ?_ | refine kA ?_ _)); exact BK215.out⟩, ⟨by repeat (first | (with_reducible first | exact HB.out | apply lA | apply lN | apply lD | refine lS ?_ GE215.out) | exact HB.out)⟩⟩)
    case rest =>
     clear HC20
     try clear c1
     try clear c2
     try clear p2
     try clear c5
     try clear c6
     try clear c6b0
     try clear c6b1
     try clear p6
     try clear c16
     try clear c16b0
     try clear c16b1
     try clear c17
     try clear c21
     try clear c21b0
     try clear c22
     try clear p2
     obtain ⟨kq, x43_19, rfl, HA, HJ19, HO_8, BK215, HB⟩ := hcut
     cases kq with
     | zero => exact absurd HA.out (by simp [L4_BenchMore.j1])
     | succ kj19 =>
      have H := HA.out
      clear HA
      simp only [L4_BenchMore.j1] at H
      by_cases c24 : x43_19 = true
      ·subst c24
       exact absurd ((Option.some.inj (show (some false : Option Bool) = some r from by rw [if_pos rfl] at H; exact H)).trans hr_.out) (by decide)
      ·replace c24 := Bool.eq_false_iff.mpr c24
       subst c24
       have H1 : ((L4_mod.f a2_0 (t217.length : Int)).bind fun t223 => ((L4_mod.f a2_1 5).bind fun t224 => (L4_BenchMore.l0 kj19 t216 t217 t223 (wrap64 (1 + t224)) ([] : List (S40)) ([] : List (S40)) 0 a2_0 a2_1))) = some r := by rw [if_neg (show ¬ (false = true) by decide)] at H; exact H
       clear H
       have H := H1
       clear H1
       replace H := Option.bind_eq_some_iff.mp H
       obtain ⟨t223, A250, H⟩ := H
       replace H : ((L4_mod.f a2_1 5).bind fun t224 => (L4_BenchMore.l0 kj19 t216 t217 t223 (wrap64 (1 + t224)) ([] : List (S40)) ([] : List (S40)) 0 a2_0 a2_1)) = some r := H
       have A25 := Aside0.mk A250
       clear A250
       replace H := Option.bind_eq_some_iff.mp H
       obtain ⟨t224, A260, H⟩ := H
       replace H : (L4_BenchMore.l0 kj19 t216 t217 t223 (wrap64 (1 + t224)) ([] : List (S40)) ([] : List (S40)) 0 a2_0 a2_1) = some r := H
       have A26 := Aside0.mk A260
       clear A260
       have H' := Aside0.mk H
       clear H
       try go_wp2
       replace HO_8 := Aside0.mk (Kd.R_drew HO_8.out)
       replace BK215 := Aside0.mk (kD BK215.out)
       replace HB := Aside0.mk (lD HB.out)
       refine start_ (n := 11) (S := fun w' => w'.cell? ⟨gb215, 0, none⟩ = some (.int .i64 a2_0) ∧ w'.cell? ⟨gb215, 1, none⟩ = some (.int .i64 a2_1)) (ds := []) (Bs 0 11) (by kernel_rfl) rfl rfl ⟨(blk_cell BK215.out 0).trans rfl, (blk_cell BK215.out 1).trans rfl⟩ (fun hHeld => ?_); refine with_tabW L4_BenchMore.tab9 L4_BenchMore.bits9 (fun HT_ HW_ => ?_)
       generalize wc.drew = w27 at HO_8 BK215 HB hHeld ⊢
       refine pu 0 44 (Bs 1 11) HT_ ?_
       refine pu 2 46 (Br [1,1,1,8]) HT_ ?_
       refine pu 3 47 (Br [1,1,2,7]) HT_ ?_
       refine pu 5 49 (Br [1,1,2,1,1,5]) HT_ ?_
       refine ta 1 45 (Br [4,1,1,5]) HT_ HW_ hHeld ?_
       refine ta 6 50 (Br [4,1,2,4]) HT_ HW_ hHeld ?_
       refine one_ (i := 4) (N := some 48) (Bs 7 11) rfl rfl (one_of HT_.out (by kernel_rfl)) (by decide) (fun K hK => ?_)
       refine goes_ Tryd.func23 (by kernel_rfl) rfl #[.int .i64 a2_0, .int .i64 (t217.length : Int)] (by rfl) rfl rfl (by (try simp only [List.map_toArray, List.map_cons, List.map_nil]); first | done | rfl | (simp only [List.length_drop, List.length_take]; rfl)) ?_
       with_reducible refine (L4_mod.calls a2_0 (t217.length : Int) t223 _ A25.out).mono ?_
       rintro e w' ⟨rfl, ⟨nd, rfl⟩⟩
       refine ⟨_, rfl, ?_⟩
       refine hK.out _ _ ⟨(blk_cell BK215.out 0).trans rfl, (blk_cell BK215.out 1).trans rfl⟩ (fun hHeld => ?_)
       clear hK K
       refine nm 48 ?_
       refine one_ (i := 7) (N := some 51) (Bs 8 11) rfl rfl (one_of HT_.out (by kernel_rfl)) (by decide) (fun K hK => ?_)
       refine goes_ Tryd.func23 (by kernel_rfl) rfl #[.int .i64 a2_1, .int .i64 5] (by rfl) rfl rfl (by (try simp only [List.map_toArray, List.map_cons, List.map_nil]); first | done | rfl | (simp only [List.length_drop, List.length_take]; rfl)) ?_
       with_reducible refine (L4_mod.calls a2_1 5 t224 _ A26.out).mono ?_
       rintro e w' ⟨rfl, ⟨nd, rfl⟩⟩
       refine ⟨_, rfl, ?_⟩
       refine hK.out _ _ ⟨(blk_cell BK215.out 0).trans rfl, (blk_cell BK215.out 1).trans rfl⟩ (fun hHeld => ?_)
       clear hK K
       refine nm 51 ?_
       refine pu 8 52 (Bs 9 11) HT_ ?_
       refine pu 9 10 (Bs 10 11) HT_ ?_
       refine pu 10 11 (Bs 11 11) HT_ ?_
       refine done_ (done_of HT_.out (by kernel_rfl)) ?_
       try go_wp2
       go_loopg [12, 13, 14] kj19 (fun kq v12 v13 v14 w' => ∃ (x12_3 : List (S40)) (x13_3 : List (S40)) (x14_3 : Int), v14 = .int .i64 x14_3 ∧ Aside0 (L4_BenchMore.l0 kq t216 t217 t223 (wrap64 (1 + t224)) x12_3 x13_3 x14_3 a2_0 a2_1 = some r) ∧ Aside0 (kq ≤ kj19) ∧ Aside0 (Kd.R k40 40 w' w.heap.size (fun k_ => some k_ ≠ (v12 : Value).ownBlock ∧ some k_ ≠ (v13 : Value).ownBlock) (.slice Ao14 t217.length co14) t217) ∧ Aside0 (Kd.R k40 40 w' w.heap.size (fun k_ => some k_ ≠ ((.slice Ao14 t217.length co14) : Value).ownBlock ∧ some k_ ≠ (v13 : Value).ownBlock) v12 x12_3) ∧ Aside0 (Kd.R k40 40 w' w.heap.size (fun k_ => some k_ ≠ ((.slice Ao14 t217.length co14) : Value).ownBlock ∧ some k_ ≠ (v12 : Value).ownBlock) v13 x13_3) ∧ Aside0 (w'.heap[gb215]? = some (.cells #[.int .i64 a2_0, .int .i64 a2_1] 34 (0, 0))) ∧ Aside0 (Below w.heap.size w w'))
       case atStart => exact ⟨(([] : List (S40))), (([] : List (S40))), (0), (by first | rfl | (simp; done) | (simp [*]; done)), H', ⟨Nat.le_refl _⟩, ⟨by (with_reducible repeat (first | apply Kd.R_alloc | apply Kd.R_drewN | apply Kd.R_drew)); exact Kd.R_mono HO_8.out (fun _ hk => ⟨(by simp [Value.ownBlock]), (by simp [Value.ownBlock])⟩)⟩, ⟨by first | exact Kd.R_nil _ _ _ _ _ | exact Kd.N_nil _ _ _ _ _ | exact Kd.V_nil _ _ _ _ _ | exact Kd.Q_nil _ _ _ _ _ | exact Kd.S_nil _ _ _ _ _⟩, ⟨by first | exact Kd.R_nil _ _ _ _ _ | exact Kd.N_nil _ _ _ _ _ | exact Kd.V_nil _ _ _ _ _ | exact Kd.Q_nil _ _ _ _ _ | exact Kd.S_nil _ _ _ _ _⟩, ⟨by (with_reducible repeat (first | refine kN ?_ _ | refine kD ?_ | refine kA ?_ _)); exact BK215.out⟩, ⟨by repeat (first | (with_reducible first | exact HB.out | apply lA | apply lN | apply lD | refine lS ?_ GE215.out) | exact HB.out)⟩⟩
       case round =>
        clear H'
        try clear c1
        try clear c2
        try clear p2
        try clear c5
        try clear c6
        try clear c6b0
        try clear c6b1
        try clear p6
        try clear c16
        try clear c16b0
        try clear c16b1
        try clear c17
        try clear c21
        try clear c21b0
        try clear c22
        try clear c23
        try clear c24
        try clear p2
        try clear p6
        obtain ⟨x12_3, x13_3, x14_3, rfl, HA, HK3, HO_8, HO_12, HO_13, BK215, HB⟩ := hrel
        cases gk with
        | zero => exact absurd HA.out (by simp [L4_BenchMore.l0])
        | succ k3 =>
         have H := HA.out
         clear HA
         simp only [L4_BenchMore.l0] at H
         by_cases c28 : x14_3 < (t217.length : Int)
         ·rw [if_pos c28] at H
          have c28b0 : decide (x14_3 < (t217.length : Int)) = true := decide_eq_true c28
          clear c28
          by_cases c29 : 0 ≤ x14_3
          ·rw [if_pos c29] at H
           have c29b0 : decide (0 ≤ x14_3) = true := decide_eq_true c29
           clear c29
           by_cases c30 : x14_3 = t223
           ·rw [if_pos c30] at H
            have c30b0 : (x14_3 == t223) = true := beq_iff_eq.mpr c30
            have c30b1 : (x14_3 != t223) = false := bne_eq_false_iff_eq.mpr c30
            clear c30
            obtain ⟨ji31, hji31⟩ : ∃ j_ : Int, (mn (wrap64 (((rd_T40 t217 x14_3).f1) + (wrap64 (1 + t224)))) 1048576) = j_ := ⟨_, rfl⟩
            replace H : ((L4_mod.f a2_1 2).bind fun t227 => (if x12_3.length < 5864062014805 then (L4_BenchMore.l0 k3 t216 t217 t223 (wrap64 (1 + t224)) (x12_3 ++ [(⟨mx (wrap64 (((rd_T40 t217 x14_3).f0) - (wrap64 (1 + t224)))) 0, ji31, mx (wrap64 (((rd_T40 t217 x14_3).f2) - t227)) 1⟩ : S40)]) x13_3 (wrap64 (x14_3 + 1)) a2_0 a2_1) else (none))) = some r := by first | (rw [hji31] at H; exact H) | (simp only [hji31] at H ⊢; exact H)
            have hji31_ : (if 1048576 < (wrap64 (((rd_T40 t217 x14_3).f1) + (wrap64 (1 + t224)))) then 1048576 else (wrap64 (((rd_T40 t217 x14_3).f1) + (wrap64 (1 + t224))))) = ji31 := hji31
            obtain ⟨ji32, hji32⟩ : ∃ j_ : Int, (mx (wrap64 (((rd_T40 t217 x14_3).f0) - (wrap64 (1 + t224)))) 0) = j_ := ⟨_, rfl⟩
            replace H : ((L4_mod.f a2_1 2).bind fun t227 => (if x12_3.length < 5864062014805 then (L4_BenchMore.l0 k3 t216 t217 t223 (wrap64 (1 + t224)) (x12_3 ++ [(⟨ji32, ji31, mx (wrap64 (((rd_T40 t217 x14_3).f2) - t227)) 1⟩ : S40)]) x13_3 (wrap64 (x14_3 + 1)) a2_0 a2_1) else (none))) = some r := by first | (rw [hji32] at H; exact H) | (simp only [hji32] at H ⊢; exact H)
            have hji32_ : (if (wrap64 (((rd_T40 t217 x14_3).f0) - (wrap64 (1 + t224)))) < 0 then 0 else (wrap64 (((rd_T40 t217 x14_3).f0) - (wrap64 (1 + t224))))) = ji32 := hji32
            replace H := Option.bind_eq_some_iff.mp H
            obtain ⟨t227, A330, H⟩ := H
            replace H : (if x12_3.length < 5864062014805 then (L4_BenchMore.l0 k3 t216 t217 t223 (wrap64 (1 + t224)) (x12_3 ++ [(⟨ji32, ji31, mx (wrap64 (((rd_T40 t217 x14_3).f2) - t227)) 1⟩ : S40)]) x13_3 (wrap64 (x14_3 + 1)) a2_0 a2_1) else (none)) = some r := H
            have A33 := Aside0.mk A330
            clear A330
            obtain ⟨ji34, hji34⟩ : ∃ j_ : Int, (mx (wrap64 (((rd_T40 t217 x14_3).f2) - t227)) 1) = j_ := ⟨_, rfl⟩
            replace H : (if x12_3.length < 5864062014805 then (L4_BenchMore.l0 k3 t216 t217 t223 (wrap64 (1 + t224)) (x12_3 ++ [(⟨ji32, ji31, ji34⟩ : S40)]) x13_3 (wrap64 (x14_3 + 1)) a2_0 a2_1) else (none)) = some r := by first | (rw [hji34] at H; exact H) | (simp only [hji34] at H ⊢; exact H)
            (try rw [hji34] at A33)
            have hji34_ : (if (wrap64 (((rd_T40 t217 x14_3).f2) - t227)) < 1 then 1 else (wrap64 (((rd_T40 t217 x14_3).f2) - t227))) = ji34 := hji34
            by_cases c35 : x12_3.length < 5864062014805
            ·rw [if_pos c35] at H
             have LMc35 := Aside0.mk c35
             clear c35
             obtain ⟨y228, hy228⟩ : ∃ y_ : List (S40), y_ = (x12_3 ++ [(⟨ji32, ji31, ji34⟩ : S40)]) := ⟨_, rfl⟩
             replace H : (L4_BenchMore.l0 k3 t216 t217 t223 (wrap64 (1 + t224)) y228 x13_3 (wrap64 (x14_3 + 1)) a2_0 a2_1) = some r := by first | (rw [hy228]; with_reducible exact H) | (have H2_ := (Option.bind_some _ _).symm.trans H; rw [hy228]; with_reducible exact H2_) | (have H2_ := (Option.bind_some _ _).symm.trans H; with_reducible exact H2_) | with_reducible exact H | (rw [hy228]; exact H) | exact H
             have Ny228 := Aside0.mk hy228
             clear hy228
             have H' := Aside0.mk H
             clear H
             have p225 : 0 ≤ (x14_3 : Int) := of_decide_eq_true (by first | (with_reducible assumption) | assumption)
             have q225 : x14_3 < (t217.length : Int) := of_decide_eq_true (by first | (with_reducible assumption) | assumption)
             obtain ⟨ad225, e225, hx225_0, hx225_1, hx225_2⟩ := at_T40 (Kd.R_reads' HO_8.out).2.2 x14_3 p225 q225
             cases e225
             replace p225 := eq_true p225
             replace q225 := eq_true q225
             try go_wp2_with (first | ((with_reducible refine gate_dst (N := 15) rfl ?_); (try (refine gate_guard (by rfl) ?_; dsimp only)); refine bxe 15 #[.int .i64 0, .int .i64 0, .int .i64 0] 40 ?_; intro gb226 hg w36 hbox hb; have n0_ := Aside0.mk (Kd.R_below (Kd.R_elderB (by (with_reducible repeat (first | apply Kd.R_alloc | apply Kd.R_drewN | apply Kd.R_drew)); exact HO_8.out) gb226 (Nat.le_of_eq hg.symm)) hb); have n1_ := Aside0.mk (Kd.R_below (Kd.R_elderB (by (with_reducible repeat (first | apply Kd.R_alloc | apply Kd.R_drewN | apply Kd.R_drew)); exact HO_12.out) gb226 (Nat.le_of_eq hg.symm)) hb); have n2_ := Aside0.mk (Kd.R_below (Kd.R_elderB (by (with_reducible repeat (first | apply Kd.R_alloc | apply Kd.R_drewN | apply Kd.R_drew)); exact HO_13.out) gb226 (Nat.le_of_eq hg.symm)) hb); have n3_ := Aside0.mk (blk_below (g := gb215) (o := .cells #[.int .i64 a2_0, .int .i64 a2_1] 34 (0, 0)) (kX BK215.out) hb); have n4_ := Aside0.mk (below_step lB hb); have n5_ := Aside0.mk (hbox); have n6_ := Aside0.mk (lG (w := w) hg); have n7_ := Aside0.mk (lG (w := w) hg); have n8_ := Aside0.mk ((by rw [hg]; exact Nat.ne_of_lt (blk_lt (g := gb215) (o := .cells #[.int .i64 a2_0, .int .i64 a2_1] 34 (0, 0)) (kX BK215.out)) : gb215 ≠ gb226)); have n9_ := Aside0.mk ((by rw [hg]; exact Nat.ne_of_gt (blk_lt (g := gb215) (o := .cells #[.int .i64 a2_0, .int .i64 a2_1] 34 (0, 0)) (kX BK215.out)) : gb226 ≠ gb215)); clear HO_8; clear HO_12; clear HO_13; clear BK215; clear HB; have HO_8 := n0_; have HO_12 := n1_; have HO_13 := n2_; have BK215 := n3_; have HB := n4_; have BK226 := n5_; have GW226 := n6_; have GE226 := n7_; have NB215_226 := n8_; have NB226_215 := n9_; clear n0_ n1_ n2_ n3_ n4_ n5_ n6_ n7_ n8_ n9_; clear hb hbox hg; have hnb37 := NB226_215.out; have hnc37 := NB215_226.out; have hcz38_0 : w36.cell? ⟨gb226, 0, none⟩ = some (.int .i64 0) := (blk_cell BK226.out 0).trans rfl; have hcz38_1 : w36.cell? ⟨gb226, 1, none⟩ = some (.int .i64 0) := (blk_cell BK226.out 1).trans rfl; have hcz38_2 : w36.cell? ⟨gb226, 2, none⟩ = some (.int .i64 0) := (blk_cell BK226.out 2).trans rfl; have hfz38_0 := blk_frozen BK226.out 0; have hfz38_1 := blk_frozen BK226.out 1; have hfz38_2 := blk_frozen BK226.out 2))
             have n0_ : Aside0 (Kd.R k40 40 (((((w36.setCell ⟨gb226, 0, none⟩ (.int .i64 ((rd_T40 t217 x14_3).f0))).setCell ⟨gb226, 1, none⟩ (.int .i64 ((rd_T40 t217 x14_3).f1))).setCell ⟨gb226, 2, none⟩ (.int .i64 ((rd_T40 t217 x14_3).f2))).setCell ⟨gb226, 1, none⟩ (.int .i64 ji31)).setCell ⟨gb226, 0, none⟩ (.int .i64 ji32)) w.heap.size (fun k_ => some k_ ≠ (u12 : Value).ownBlock ∧ some k_ ≠ (u13 : Value).ownBlock ∧ k_ ≠ gb226) (.slice (some ad225) t217.length co14) t217) := ⟨by (with_reducible repeat (first | apply Kd.R_alloc | apply Kd.R_drewN | apply Kd.R_drew)); exact Kd.R_mono (Kd.R_far (p := ⟨gb226, 0, none⟩) (Kd.R_far (p := ⟨gb226, 1, none⟩) (Kd.R_far (p := ⟨gb226, 2, none⟩) (Kd.R_far (p := ⟨gb226, 1, none⟩) (Kd.R_far (p := ⟨gb226, 0, none⟩) (Kd.R_mono HO_8.out (fun k_ hk => (⟨hk, hk.2⟩ : _ ∧ k_ ≠ gb226))) (fun _ hk => hk.2) (.int .i64 ((rd_T40 t217 x14_3).f0))) (fun _ hk => hk.2) (.int .i64 ((rd_T40 t217 x14_3).f1))) (fun _ hk => hk.2) (.int .i64 ((rd_T40 t217 x14_3).f2))) (fun _ hk => hk.2) (.int .i64 ji31)) (fun _ hk => hk.2) (.int .i64 ji32)) (fun _ hk => ⟨hk.1.1.1, ⟨hk.1.1.2, hk.1.2⟩⟩)⟩
             have n1_ : Aside0 (Kd.R k40 40 (((((w36.setCell ⟨gb226, 0, none⟩ (.int .i64 ((rd_T40 t217 x14_3).f0))).setCell ⟨gb226, 1, none⟩ (.int .i64 ((rd_T40 t217 x14_3).f1))).setCell ⟨gb226, 2, none⟩ (.int .i64 ((rd_T40 t217 x14_3).f2))).setCell ⟨gb226, 1, none⟩ (.int .i64 ji31)).setCell ⟨gb226, 0, none⟩ (.int .i64 ji32)) w.heap.size (fun k_ => some k_ ≠ (.slice (some ad225) t217.length co14 : Value).ownBlock ∧ some k_ ≠ (u13 : Value).ownBlock ∧ k_ ≠ gb226) u12 x12_3) := ⟨by (with_reducible repeat (first | apply Kd.R_alloc | apply Kd.R_drewN | apply Kd.R_drew)); exact Kd.R_mono (Kd.R_far (p := ⟨gb226, 0, none⟩) (Kd.R_far (p := ⟨gb226, 1, none⟩) (Kd.R_far (p := ⟨gb226, 2, none⟩) (Kd.R_far (p := ⟨gb226, 1, none⟩) (Kd.R_far (p := ⟨gb226, 0, none⟩) (Kd.R_mono HO_12.out (fun k_ hk => (⟨hk, hk.2⟩ : _ ∧ k_ ≠ gb226))) (fun _ hk => hk.2) (.int .i64 ((rd_T40 t217 x14_3).f0))) (fun _ hk => hk.2) (.int .i64 ((rd_T40 t217 x14_3).f1))) (fun _ hk => hk.2) (.int .i64 ((rd_T40 t217 x14_3).f2))) (fun _ hk => hk.2) (.int .i64 ji31)) (fun _ hk => hk.2) (.int .i64 ji32)) (fun _ hk => ⟨hk.1.1.1, ⟨hk.1.1.2, hk.1.2⟩⟩)⟩
             have n2_ : Aside0 (Kd.R k40 40 (((((w36.setCell ⟨gb226, 0, none⟩ (.int .i64 ((rd_T40 t217 x14_3).f0))).setCell ⟨gb226, 1, none⟩ (.int .i64 ((rd_T40 t217 x14_3).f1))).setCell ⟨gb226, 2, none⟩ (.int .i64 ((rd_T40 t217 x14_3).f2))).setCell ⟨gb226, 1, none⟩ (.int .i64 ji31)).setCell ⟨gb226, 0, none⟩ (.int .i64 ji32)) w.heap.size (fun k_ => some k_ ≠ (.slice (some ad225) t217.length co14 : Value).ownBlock ∧ some k_ ≠ (u12 : Value).ownBlock ∧ k_ ≠ gb226) u13 x13_3) := ⟨by (with_reducible repeat (first | apply Kd.R_alloc | apply Kd.R_drewN | apply Kd.R_drew)); exact Kd.R_mono (Kd.R_far (p := ⟨gb226, 0, none⟩) (Kd.R_far (p := ⟨gb226, 1, none⟩) (Kd.R_far (p := ⟨gb226, 2, none⟩) (Kd.R_far (p := ⟨gb226, 1, none⟩) (Kd.R_far (p := ⟨gb226, 0, none⟩) (Kd.R_mono HO_13.out (fun k_ hk => (⟨hk, hk.2⟩ : _ ∧ k_ ≠ gb226))) (fun _ hk => hk.2) (.int .i64 ((rd_T40 t217 x14_3).f0))) (fun _ hk => hk.2) (.int .i64 ((rd_T40 t217 x14_3).f1))) (fun _ hk => hk.2) (.int .i64 ((rd_T40 t217 x14_3).f2))) (fun _ hk => hk.2) (.int .i64 ji31)) (fun _ hk => hk.2) (.int .i64 ji32)) (fun _ hk => ⟨hk.1.1.1, ⟨hk.1.1.2, hk.1.2⟩⟩)⟩
             have n3_ : Aside0 ((((((w36.setCell ⟨gb226, 0, none⟩ (.int .i64 ((rd_T40 t217 x14_3).f0))).setCell ⟨gb226, 1, none⟩ (.int .i64 ((rd_T40 t217 x14_3).f1))).setCell ⟨gb226, 2, none⟩ (.int .i64 ((rd_T40 t217 x14_3).f2))).setCell ⟨gb226, 1, none⟩ (.int .i64 ji31)).setCell ⟨gb226, 0, none⟩ (.int .i64 ji32)).heap[gb215]? = some (.cells #[.int .i64 a2_0, .int .i64 a2_1] 34 (0, 0))) := ⟨by (with_reducible repeat (first | refine kN ?_ _ | refine kD ?_ | refine kA ?_ _)); refine blk_far ?_ NB215_226.out _; (with_reducible repeat (first | refine kN ?_ _ | refine kD ?_ | refine kA ?_ _)); refine blk_far ?_ NB215_226.out _; (with_reducible repeat (first | refine kN ?_ _ | refine kD ?_ | refine kA ?_ _)); refine blk_far ?_ NB215_226.out _; (with_reducible repeat (first | refine kN ?_ _ | refine kD ?_ | refine kA ?_ _)); refine blk_far ?_ NB215_226.out _; (with_reducible repeat (first | refine kN ?_ _ | refine kD ?_ | refine kA ?_ _)); refine blk_far ?_ NB215_226.out _; (with_reducible repeat (first | refine kN ?_ _ | refine kD ?_ | refine kA ?_ _)); exact BK215.out⟩
             have n4_ : Aside0 ((((((w36.setCell ⟨gb226, 0, none⟩ (.int .i64 ((rd_T40 t217 x14_3).f0))).setCell ⟨gb226, 1, none⟩ (.int .i64 ((rd_T40 t217 x14_3).f1))).setCell ⟨gb226, 2, none⟩ (.int .i64 ((rd_T40 t217 x14_3).f2))).setCell ⟨gb226, 1, none⟩ (.int .i64 ji31)).setCell ⟨gb226, 0, none⟩ (.int .i64 ji32)).heap[gb226]? = some (.cells #[.int .i64 ji32, .int .i64 ji31, .int .i64 ((rd_T40 t217 x14_3).f2)] 40 (0, 0))) := ⟨by (with_reducible repeat (first | refine kN ?_ _ | refine kD ?_ | refine kA ?_ _)); refine blk_put (cs := #[.int .i64 ((rd_T40 t217 x14_3).f0), .int .i64 ji31, .int .i64 ((rd_T40 t217 x14_3).f2)]) ?_ 0 _ rfl; (with_reducible repeat (first | refine kN ?_ _ | refine kD ?_ | refine kA ?_ _)); refine blk_put (cs := #[.int .i64 ((rd_T40 t217 x14_3).f0), .int .i64 ((rd_T40 t217 x14_3).f1), .int .i64 ((rd_T40 t217 x14_3).f2)]) ?_ 1 _ rfl; (with_reducible repeat (first | refine kN ?_ _ | refine kD ?_ | refine kA ?_ _)); refine blk_put (cs := #[.int .i64 ((rd_T40 t217 x14_3).f0), .int .i64 ((rd_T40 t217 x14_3).f1), .int .i64 0]) ?_ 2 _ rfl; (with_reducible repeat (first | refine kN ?_ _ | refine kD ?_ | refine kA ?_ _)); refine blk_put (cs := #[.int .i64 ((rd_T40 t217 x14_3).f0), .int .i64 0, .int .i64 0]) ?_ 1 _ rfl; (with_reducible repeat (first | refine kN ?_ _ | refine kD ?_ | refine kA ?_ _)); refine blk_put (cs := #[.int .i64 0, .int .i64 0, .int .i64 0]) ?_ 0 _ rfl; (with_reducible repeat (first | refine kN ?_ _ | refine kD ?_ | refine kA ?_ _)); exact BK226.out⟩
             have n5_ : Aside0 (Below w.heap.size w (((((w36.setCell ⟨gb226, 0, none⟩ (.int .i64 ((rd_T40 t217 x14_3).f0))).setCell ⟨gb226, 1, none⟩ (.int .i64 ((rd_T40 t217 x14_3).f1))).setCell ⟨gb226, 2, none⟩ (.int .i64 ((rd_T40 t217 x14_3).f2))).setCell ⟨gb226, 1, none⟩ (.int .i64 ji31)).setCell ⟨gb226, 0, none⟩ (.int .i64 ji32))) := ⟨by repeat (first | (with_reducible first | exact HB.out | apply lA | apply lN | apply lD | refine lS ?_ GE215.out | refine lS ?_ GE226.out) | exact HB.out)⟩
             (try clear HO_8)
             (try clear HO_12)
             (try clear HO_13)
             (try clear BK215)
             (try clear BK226)
             (try clear HB)
             generalize (((((w36.setCell ⟨gb226, 0, none⟩ (.int .i64 ((rd_T40 t217 x14_3).f0))).setCell ⟨gb226, 1, none⟩ (.int .i64 ((rd_T40 t217 x14_3).f1))).setCell ⟨gb226, 2, none⟩ (.int .i64 ((rd_T40 t217 x14_3).f2))).setCell ⟨gb226, 1, none⟩ (.int .i64 ji31)).setCell ⟨gb226, 0, none⟩ (.int .i64 ji32)) = w39 at n0_ n1_ n2_ n3_ n4_ n5_ ⊢
             have HO_8 := n0_
             have HO_12 := n1_
             have HO_13 := n2_
             have BK215 := n3_
             have BK226 := n4_
             have HB := n5_
             clear n0_ n1_ n2_ n3_ n4_ n5_
             replace HO_8 := Aside0.mk (Kd.R_drew HO_8.out)
             replace HO_12 := Aside0.mk (Kd.R_drew HO_12.out)
             replace HO_13 := Aside0.mk (Kd.R_drew HO_13.out)
             replace BK215 := Aside0.mk (kD BK215.out)
             replace BK226 := Aside0.mk (kD BK226.out)
             replace HB := Aside0.mk (lD HB.out)
             refine start_ (n := 9) (S := fun w' => w'.cell? ⟨gb226, 0, none⟩ = some (.int .i64 ji32) ∧ w'.cell? ⟨gb226, 1, none⟩ = some (.int .i64 ji31) ∧ w'.cell? ⟨gb226, 2, none⟩ = some (.int .i64 ((rd_T40 t217 x14_3).f2)) ∧ w'.cell? ⟨gb215, 0, none⟩ = some (.int .i64 a2_0) ∧ w'.cell? ⟨gb215, 1, none⟩ = some (.int .i64 a2_1)) (ds := [8]) (Bs 0 9) (by kernel_rfl) rfl rfl ⟨(blk_cell BK226.out 0).trans rfl, (blk_cell BK226.out 1).trans rfl, (blk_cell BK226.out 2).trans rfl, (blk_cell BK215.out 0).trans rfl, (blk_cell BK215.out 1).trans rfl⟩ (fun hHeld => ?_); refine with_tabW L4_BenchMore.tab19 L4_BenchMore.bits19 (fun HT_ HW_ => ?_)
             generalize w39.drew = w40 at HO_8 HO_12 HO_13 BK215 BK226 HB hHeld ⊢
             refine pu 0 82 (Bs 1 9) HT_ ?_
             refine pu 2 84 #[τ,φ,τ,φ,φ,φ,φ,φ,φ] HT_ ?_
             refine ta 1 83 (Bs 3 9) HT_ HW_ hHeld ?_
             refine ta 3 85 (Bs 4 9) HT_ HW_ hHeld ?_
             refine one_ (i := 4) (N := some 86) (Bs 5 9) rfl rfl (one_of HT_.out (by kernel_rfl)) (by decide) (fun K hK => ?_)
             refine goes_ Tryd.func23 (by kernel_rfl) rfl #[.int .i64 a2_1, .int .i64 2] (by rfl) rfl rfl (by (try simp only [List.map_toArray, List.map_cons, List.map_nil]); first | done | rfl | (simp only [List.length_drop, List.length_take]; rfl)) ?_
             with_reducible refine (L4_mod.calls a2_1 2 t227 _ A33.out).mono ?_
             rintro e w' ⟨rfl, ⟨nd, rfl⟩⟩
             refine ⟨_, rfl, ?_⟩
             refine hK.out _ _ ⟨(blk_cell BK226.out 0).trans rfl, (blk_cell BK226.out 1).trans rfl, (blk_cell BK226.out 2).trans rfl, (blk_cell BK215.out 0).trans rfl, (blk_cell BK215.out 1).trans rfl⟩ (fun hHeld => ?_)
             clear hK K
             refine nm 86 ?_
             refine pu 5 87 (Bs 6 9) HT_ ?_
             refine pu 6 88 (Bs 7 9) HT_ ?_
             refine pu 7 89 (Bs 8 9) HT_ ?_
             refine last_ (i := 8) (N := none) (Bs 9 9) rfl rfl (one_of HT_.out (by kernel_rfl)) (by decide) (fun K hK => ?_)
             have hs41 : w40.cell? ⟨gb226, 2, none⟩ = some (.int .i64 ((rd_T40 t217 x14_3).f2)) := (blk_cell BK226.out 2).trans rfl
             have hfs41 := blk_frozen BK226.out 2
             have hns41_0 := NB215_226.out
             have hms41_0 := NB226_215.out
             refine skip_ (w1 := ?_) (by rfl) rfl ?_ ?_
             rotate_left
             ·go_simp
              rfl
             refine hK.out _ _ ?_
             clear hK K
             refine done_ (done_of HT_.out (by kernel_rfl)) ?_
             have hcz42_0 : w40.cell? ⟨gb226, 0, none⟩ = some (.int .i64 ji32) := (blk_cell BK226.out 0).trans rfl
             have hcz42_1 : w40.cell? ⟨gb226, 1, none⟩ = some (.int .i64 ji31) := (blk_cell BK226.out 1).trans rfl
             have hcz42_2 : w40.cell? ⟨gb226, 2, none⟩ = some (.int .i64 ((rd_T40 t217 x14_3).f2)) := (blk_cell BK226.out 2).trans rfl
             have hfz42_0 := blk_frozen BK226.out 0
             have hfz42_1 := blk_frozen BK226.out 1
             have hfz42_2 := blk_frozen BK226.out 2
             try go_wp2_with (first | ((with_reducible refine gate_builtin (b := .append) (xs := #[.tmp 90, .tmp 92]) rfl ?_); (try (refine gate_guard (by rfl) ?_; dsimp only)); at_builtin; refine Kd.R_append k40 (w0 := w) w.heap.size rfl (.tmp 90) (.tmp 92) 22 40 (.agg #[(.int .i64 0), (.int .i64 0), (.int .i64 0)]) 24 rfl Tryd.underlying22 info40 rfl (by decide) (by omega) u12 x12_3 (⟨ji32, ji31, ji34⟩ : S40) [.int .i64 ji32, .int .i64 ji31, .int .i64 ji34] (fun k_ => some k_ ≠ (.slice (some ad225) t217.length co14 : Value).ownBlock ∧ some k_ ≠ (u13 : Value).ownBlock ∧ k_ ≠ gb226) (fun _ => False) rfl (by first | (go_simp; done) | (go_simp; rfl)) ?aP (fun _ hk => hk.elim) ?aF ?aO ?aB ?aS ?aL ?_; (case aP => exact k40_mkM _ _ _ (⟨ji32, ji31, ji34⟩ : S40)); (case aB => exact lB); (case aF => exact (fun k_ hk => ⟨Kd.fresh' (Kd.R_lt (by (with_reducible repeat (first | apply Kd.R_alloc | apply Kd.R_drewN | apply Kd.R_drew)); exact (Kd.R_mono (Kd.R_far (p := ⟨gb226, 2, none⟩) (Kd.R_mono HO_8.out (fun k_ hk => (⟨hk, hk.2.2⟩ : _ ∧ k_ ≠ gb226))) (fun _ hk => hk.2) (.int .i64 ji34)) (fun _ h_ => h_.1)))) k_ hk, Kd.fresh' (Kd.R_lt (by (with_reducible repeat (first | apply Kd.R_alloc | apply Kd.R_drewN | apply Kd.R_drew)); exact (Kd.R_mono (Kd.R_far (p := ⟨gb226, 2, none⟩) (Kd.R_mono HO_13.out (fun k_ hk => (⟨hk, hk.2.2⟩ : _ ∧ k_ ≠ gb226))) (fun _ hk => hk.2) (.int .i64 ji34)) (fun _ h_ => h_.1)))) k_ hk, Kd.freshB (g := gb226) (o := .cells #[.int .i64 ji32, .int .i64 ji31, .int .i64 ji34] 40 (0, 0)) (by (with_reducible repeat (first | refine kN ?_ _ | refine kD ?_ | refine kA ?_ _)); refine blk_put (cs := #[.int .i64 ji32, .int .i64 ji31, .int .i64 ((rd_T40 t217 x14_3).f2)]) ?_ 2 _ rfl; (with_reducible repeat (first | refine kN ?_ _ | refine kD ?_ | refine kA ?_ _)); exact BK226.out) k_ hk⟩)); (case aO => exact (by (with_reducible repeat (first | apply Kd.R_alloc | apply Kd.R_drewN | apply Kd.R_drew)); exact Kd.R_mono (Kd.R_far (p := ⟨gb226, 2, none⟩) (Kd.R_mono HO_12.out (fun k_ hk => (⟨hk, hk.2.2⟩ : _ ∧ k_ ≠ gb226))) (fun _ hk => hk.2) (.int .i64 ji34)) (fun _ hk => ⟨hk.1.1, ⟨hk.1.2.1, hk.1.2.2⟩⟩))); (case aS => exact (below_size lB)); (case aL => have := LMc35.out; omega); intro v229 w43 ho hb hg hat; rw [← Ny228.out] at ho; have n0_ := Aside0.mk (Kd.R_after (ok := (fun k_ => some k_ ≠ (u13 : Value).ownBlock ∧ k_ ≠ gb226)) (by (with_reducible repeat (first | apply Kd.R_alloc | apply Kd.R_drewN | apply Kd.R_drew)); exact Kd.R_mono (Kd.R_far (p := ⟨gb226, 2, none⟩) (Kd.R_mono HO_8.out (fun k_ hk => (⟨hk, hk.2.2⟩ : _ ∧ k_ ≠ gb226))) (fun _ hk => hk.2) (.int .i64 ji34)) (fun _ hk => ⟨⟨hk.1.2.1, hk.1.2.2⟩, hk.1.1⟩)) hg hat); have n1_ := Aside0.mk (Kd.R_after (ok := (fun k_ => some k_ ≠ (.slice (some ad225) t217.length co14 : Value).ownBlock ∧ k_ ≠ gb226)) (by (with_reducible repeat (first | apply Kd.R_alloc | apply Kd.R_drewN | apply Kd.R_drew)); exact Kd.R_mono (Kd.R_far (p := ⟨gb226, 2, none⟩) (Kd.R_mono HO_13.out (fun k_ hk => (⟨hk, hk.2.2⟩ : _ ∧ k_ ≠ gb226))) (fun _ hk => hk.2) (.int .i64 ji34)) (fun _ hk => ⟨⟨hk.1.1, hk.1.2.2⟩, hk.1.2.1⟩)) hg hat); have n2_ := Aside0.mk (blk_grown (g := gb215) (o := .cells #[.int .i64 a2_0, .int .i64 a2_1] 34 (0, 0)) (by (with_reducible repeat (first | refine kN ?_ _ | refine kD ?_ | refine kA ?_ _)); refine blk_far ?_ NB215_226.out _; (with_reducible repeat (first | refine kN ?_ _ | refine kD ?_ | refine kA ?_ _)); exact BK215.out) hg (Kd.R_ne HO_12.out BK215.out (by decide))); have n3_ := Aside0.mk (blk_grown (g := gb226) (o := .cells #[.int .i64 ji32, .int .i64 ji31, .int .i64 ji34] 40 (0, 0)) (by (with_reducible repeat (first | refine kN ?_ _ | refine kD ?_ | refine kA ?_ _)); refine blk_put (cs := #[.int .i64 ji32, .int .i64 ji31, .int .i64 ((rd_T40 t217 x14_3).f2)]) ?_ 2 _ rfl; (with_reducible repeat (first | refine kN ?_ _ | refine kD ?_ | refine kA ?_ _)); exact BK226.out) hg (Kd.R_away HO_12.out (fun _ hk => hk.2.2))); have n4_ := Aside0.mk (hb); have n5_ := Aside0.mk (ho); clear HO_8; clear HO_13; clear BK215; clear BK226; clear HB; clear HO_12; have HO_8 := n0_; have HO_13 := n1_; have BK215 := n2_; have BK226 := n3_; have HB := n4_; have HO230 := n5_; clear n0_ n1_ n2_ n3_ n4_ n5_; clear ho hb hg hat))
             go_roundg k3
             case measure => have := HJ10.out; have := HJ19.out; have := HK3.out; omega
             case rel => exact ⟨(y228), (x13_3), (wrap64 (x14_3 + 1)), (by first | rfl | (simp; done) | (simp [*]; done)), H', ⟨by have := HJ10.out; have := HJ19.out; have := HK3.out; omega⟩, ⟨by (with_reducible repeat (first | apply Kd.R_alloc | apply Kd.R_drewN | apply Kd.R_drew)); exact Kd.R_mono HO_8.out (fun _ hk => ⟨hk.2, hk.1.1⟩)⟩, ⟨by (with_reducible repeat (first | apply Kd.R_alloc | apply Kd.R_drewN | apply Kd.R_drew)); exact Kd.R_mono HO230.out (fun _ hk => ⟨hk.1, hk.2.1⟩)⟩, ⟨by (with_reducible repeat (first | apply Kd.R_alloc | apply Kd.R_drewN | apply Kd.R_drew)); exact Kd.R_mono HO_13.out (fun _ hk => ⟨hk.1.1, hk.2⟩)⟩, ⟨by (with_reducible repeat (first | refine kN ?_ _ | refine kD ?_ | refine kA ?_ _)); exact BK215.out⟩, ⟨by repeat (first | (with_reducible first | exact HB.out | apply lA | apply lN | apply lD | refine lS ?_ GE215.out | refine lS ?_ GE226.out) | exact HB.out)⟩⟩
            ·rw [if_neg c35] at H
             exact absurd H (by simp)
           ·rw [if_neg c30] at H
            have c30b0 : (x14_3 == t223) = false := beq_eq_false_iff_ne.mpr c30
            have c30b1 : (x14_3 != t223) = true := bne_iff_ne.mpr c30
            by_cases c44 : x13_3.length < 5864062014805
            ·rw [if_pos c44] at H
             have LMc44 := Aside0.mk c44
             clear c44
             obtain ⟨y231, hy231⟩ : ∃ y_ : List (S40), y_ = (x13_3 ++ [(⟨(rd_T40 t217 x14_3).f0, (rd_T40 t217 x14_3).f1, (rd_T40 t217 x14_3).f2⟩ : S40)]) := ⟨_, rfl⟩
             replace H : (if x12_3.length < 5864062014805 then (L4_BenchMore.l0 k3 t216 t217 t223 (wrap64 (1 + t224)) (x12_3 ++ [(⟨(rd_T40 t217 x14_3).f0, (rd_T40 t217 x14_3).f1, (rd_T40 t217 x14_3).f2⟩ : S40)]) y231 (wrap64 (x14_3 + 1)) a2_0 a2_1) else (none)) = some r := by first | (rw [hy231]; with_reducible exact H) | (have H2_ := (Option.bind_some _ _).symm.trans H; rw [hy231]; with_reducible exact H2_) | (have H2_ := (Option.bind_some _ _).symm.trans H; with_reducible exact H2_) | with_reducible exact H | (rw [hy231]; exact H) | exact H
             have Ny231 := Aside0.mk hy231
             clear hy231
             by_cases c45 : x12_3.length < 5864062014805
             ·rw [if_pos c45] at H
              have LMc45 := Aside0.mk c45
              clear c45
              obtain ⟨y234, hy234⟩ : ∃ y_ : List (S40), y_ = (x12_3 ++ [(⟨(rd_T40 t217 x14_3).f0, (rd_T40 t217 x14_3).f1, (rd_T40 t217 x14_3).f2⟩ : S40)]) := ⟨_, rfl⟩
              replace H : (L4_BenchMore.l0 k3 t216 t217 t223 (wrap64 (1 + t224)) y234 y231 (wrap64 (x14_3 + 1)) a2_0 a2_1) = some r := by first | (rw [hy234]; with_reducible exact H) | (have H2_ := (Option.bind_some _ _).symm.trans H; rw [hy234]; with_reducible exact H2_) | (have H2_ := (Option.bind_some _ _).symm.trans H; with_reducible exact H2_) | with_reducible exact H | (rw [hy234]; exact H) | exact H
              have Ny234 := Aside0.mk hy234
              clear hy234
              have H' := Aside0.mk H
              clear H
              have p225 : 0 ≤ (x14_3 : Int) := of_decide_eq_true (by first | (with_reducible assumption) | assumption)
              have q225 : x14_3 < (t217.length : Int) := of_decide_eq_true (by first | (with_reducible assumption) | assumption)
              obtain ⟨ad225, e225, hx225_0, hx225_1, hx225_2⟩ := at_T40 (Kd.R_reads' HO_8.out).2.2 x14_3 p225 q225
              cases e225
              replace p225 := eq_true p225
              replace q225 := eq_true q225
              go_wp2_with (first | ((with_reducible refine gate_dst (N := 15) rfl ?_); (try (refine gate_guard (by rfl) ?_; dsimp only)); refine bxe 15 #[.int .i64 0, .int .i64 0, .int .i64 0] 40 ?_; intro gb226 hg w46 hbox hb; have n0_ := Aside0.mk (Kd.R_below (Kd.R_elderB (by (with_reducible repeat (first | apply Kd.R_alloc | apply Kd.R_drewN | apply Kd.R_drew)); exact HO_8.out) gb226 (Nat.le_of_eq hg.symm)) hb); have n1_ := Aside0.mk (Kd.R_below (Kd.R_elderB (by (with_reducible repeat (first | apply Kd.R_alloc | apply Kd.R_drewN | apply Kd.R_drew)); exact HO_12.out) gb226 (Nat.le_of_eq hg.symm)) hb); have n2_ := Aside0.mk (Kd.R_below (Kd.R_elderB (by (with_reducible repeat (first | apply Kd.R_alloc | apply Kd.R_drewN | apply Kd.R_drew)); exact HO_13.out) gb226 (Nat.le_of_eq hg.symm)) hb); have n3_ := Aside0.mk (blk_below (g := gb215) (o := .cells #[.int .i64 a2_0, .int .i64 a2_1] 34 (0, 0)) (kX BK215.out) hb); have n4_ := Aside0.mk (below_step lB hb); have n5_ := Aside0.mk (hbox); have n6_ := Aside0.mk (lG (w := w) hg); have n7_ := Aside0.mk (lG (w := w) hg); have n8_ := Aside0.mk ((by rw [hg]; exact Nat.ne_of_lt (blk_lt (g := gb215) (o := .cells #[.int .i64 a2_0, .int .i64 a2_1] 34 (0, 0)) (kX BK215.out)) : gb215 ≠ gb226)); have n9_ := Aside0.mk ((by rw [hg]; exact Nat.ne_of_gt (blk_lt (g := gb215) (o := .cells #[.int .i64 a2_0, .int .i64 a2_1] 34 (0, 0)) (kX BK215.out)) : gb226 ≠ gb215)); clear HO_8; clear HO_12; clear HO_13; clear BK215; clear HB; have HO_8 := n0_; have HO_12 := n1_; have HO_13 := n2_; have BK215 := n3_; have HB := n4_; have BK226 := n5_; have GW226 := n6_; have GE226 := n7_; have NB215_226 := n8_; have NB226_215 := n9_; clear n0_ n1_ n2_ n3_ n4_ n5_ n6_ n7_ n8_ n9_; clear hb hbox hg; have hnb47 := NB226_215.out; have hnc47 := NB215_226.out; have hcz48_0 : w46.cell? ⟨gb226, 0, none⟩ = some (.int .i64 0) := (blk_cell BK226.out 0).trans rfl; have hcz48_1 : w46.cell? ⟨gb226, 1, none⟩ = some (.int .i64 0) := (blk_cell BK226.out 1).trans rfl; have hcz48_2 : w46.cell? ⟨gb226, 2, none⟩ = some (.int .i64 0) := (blk_cell BK226.out 2).trans rfl; have hfz48_0 := blk_frozen BK226.out 0; have hfz48_1 := blk_frozen BK226.out 1; have hfz48_2 := blk_frozen BK226.out 2) | ((with_reducible refine gate_builtin (b := .append) (xs := #[.tmp 66, .tmp 68]) rfl ?_); (try (refine gate_guard (by rfl) ?_; dsimp only)); at_builtin; refine Kd.R_append k40 (w0 := w) w.heap.size rfl (.tmp 66) (.tmp 68) 22 40 (.agg #[(.int .i64 0), (.int .i64 0), (.int .i64 0)]) 24 rfl Tryd.underlying22 info40 rfl (by decide) (by omega) u13 x13_3 (⟨(rd_T40 t217 x14_3).f0, (rd_T40 t217 x14_3).f1, (rd_T40 t217 x14_3).f2⟩ : S40) [.int .i64 ((rd_T40 t217 x14_3).f0), .int .i64 ((rd_T40 t217 x14_3).f1), .int .i64 ((rd_T40 t217 x14_3).f2)] (fun k_ => some k_ ≠ (.slice (some ad225) t217.length co14 : Value).ownBlock ∧ some k_ ≠ (u12 : Value).ownBlock ∧ k_ ≠ gb226) (fun _ => False) rfl (by first | (go_simp; done) | (go_simp; rfl)) ?aP (fun _ hk => hk.elim) ?aF ?aO ?aB ?aS ?aL ?_; (case aP => exact k40_mkM _ _ _ (⟨(rd_T40 t217 x14_3).f0, (rd_T40 t217 x14_3).f1, (rd_T40 t217 x14_3).f2⟩ : S40)); (case aB => exact lB); (case aF => exact (fun k_ hk => ⟨Kd.fresh' (Kd.R_lt (by (with_reducible repeat (first | apply Kd.R_alloc | apply Kd.R_drewN | apply Kd.R_drew)); exact (Kd.R_mono (Kd.R_far (p := ⟨gb226, 2, none⟩) (Kd.R_far (p := ⟨gb226, 1, none⟩) (Kd.R_far (p := ⟨gb226, 0, none⟩) (Kd.R_mono HO_8.out (fun k_ hk => (⟨hk, hk.2⟩ : _ ∧ k_ ≠ gb226))) (fun _ hk => hk.2) (.int .i64 ((rd_T40 t217 x14_3).f0))) (fun _ hk => hk.2) (.int .i64 ((rd_T40 t217 x14_3).f1))) (fun _ hk => hk.2) (.int .i64 ((rd_T40 t217 x14_3).f2))) (fun _ h_ => h_.1)))) k_ hk, Kd.fresh' (Kd.R_lt (by (with_reducible repeat (first | apply Kd.R_alloc | apply Kd.R_drewN | apply Kd.R_drew)); exact (Kd.R_mono (Kd.R_far (p := ⟨gb226, 2, none⟩) (Kd.R_far (p := ⟨gb226, 1, none⟩) (Kd.R_far (p := ⟨gb226, 0, none⟩) (Kd.R_mono HO_12.out (fun k_ hk => (⟨hk, hk.2⟩ : _ ∧ k_ ≠ gb226))) (fun _ hk => hk.2) (.int .i64 ((rd_T40 t217 x14_3).f0))) (fun _ hk => hk.2) (.int .i64 ((rd_T40 t217 x14_3).f1))) (fun _ hk => hk.2) (.int .i64 ((rd_T40 t217 x14_3).f2))) (fun _ h_ => h_.1)))) k_ hk, Kd.freshB (g := gb226) (o := .cells #[.int .i64 ((rd_T40 t217 x14_3).f0), .int .i64 ((rd_T40 t217 x14_3).f1), .int .i64 ((rd_T40 t217 x14_3).f2)] 40 (0, 0)) (by (with_reducible repeat (first | refine kN ?_ _ | refine kD ?_ | refine kA ?_ _)); refine blk_put (cs := #[.int .i64 ((rd_T40 t217 x14_3).f0), .int .i64 ((rd_T40 t217 x14_3).f1), .int .i64 0]) ?_ 2 _ rfl; (with_reducible repeat (first | refine kN ?_ _ | refine kD ?_ | refine kA ?_ _)); refine blk_put (cs := #[.int .i64 ((rd_T40 t217 x14_3).f0), .int .i64 0, .int .i64 0]) ?_ 1 _ rfl; (with_reducible repeat (first | refine kN ?_ _ | refine kD ?_ | refine kA ?_ _)); refine blk_put (cs := #[.int .i64 0, .int .i64 0, .int .i64 0]) ?_ 0 _ rfl; (with_reducible repeat (first | refine kN ?_ _ | refine kD ?_ | refine kA ?_ _)); exact BK226.out) k_ hk⟩)); (case aO => exact (by (with_reducible repeat (first | apply Kd.R_alloc | apply Kd.R_drewN | apply Kd.R_drew)); exact Kd.R_mono (Kd.R_far (p := ⟨gb226, 2, none⟩) (Kd.R_far (p := ⟨gb226, 1, none⟩) (Kd.R_far (p := ⟨gb226, 0, none⟩) (Kd.R_mono HO_13.out (fun k_ hk => (⟨hk, hk.2⟩ : _ ∧ k_ ≠ gb226))) (fun _ hk => hk.2) (.int .i64 ((rd_T40 t217 x14_3).f0))) (fun _ hk => hk.2) (.int .i64 ((rd_T40 t217 x14_3).f1))) (fun _ hk => hk.2) (.int .i64 ((rd_T40 t217 x14_3).f2))) (fun _ hk => ⟨hk.1.1.1, ⟨hk.1.1.2, hk.1.2⟩⟩))); (case aS => exact (below_size lB)); (case aL => have := LMc44.out; omega); intro v232 w49 ho hb hg hat; rw [← Ny231.out] at ho; have n0_ := Aside0.mk (Kd.R_after (ok := (fun k_ => some k_ ≠ (u12 : Value).ownBlock ∧ k_ ≠ gb226)) (by (with_reducible repeat (first | apply Kd.R_alloc | apply Kd.R_drewN | apply Kd.R_drew)); exact Kd.R_mono (Kd.R_far (p := ⟨gb226, 2, none⟩) (Kd.R_far (p := ⟨gb226, 1, none⟩) (Kd.R_far (p := ⟨gb226, 0, none⟩) (Kd.R_mono HO_8.out (fun k_ hk => (⟨hk, hk.2⟩ : _ ∧ k_ ≠ gb226))) (fun _ hk => hk.2) (.int .i64 ((rd_T40 t217 x14_3).f0))) (fun _ hk => hk.2) (.int .i64 ((rd_T40 t217 x14_3).f1))) (fun _ hk => hk.2) (.int .i64 ((rd_T40 t217 x14_3).f2))) (fun _ hk => ⟨⟨hk.1.1.1, hk.1.2⟩, hk.1.1.2⟩)) hg hat); have n1_ := Aside0.mk (Kd.R_after (ok := (fun k_ => some k_ ≠ (.slice (some ad225) t217.length co14 : Value).ownBlock ∧ k_ ≠ gb226)) (by (with_reducible repeat (first | apply Kd.R_alloc | apply Kd.R_drewN | apply Kd.R_drew)); exact Kd.R_mono (Kd.R_far (p := ⟨gb226, 2, none⟩) (Kd.R_far (p := ⟨gb226, 1, none⟩) (Kd.R_far (p := ⟨gb226, 0, none⟩) (Kd.R_mono HO_12.out (fun k_ hk => (⟨hk, hk.2⟩ : _ ∧ k_ ≠ gb226))) (fun _ hk => hk.2) (.int .i64 ((rd_T40 t217 x14_3).f0))) (fun _ hk => hk.2) (.int .i64 ((rd_T40 t217 x14_3).f1))) (fun _ hk => hk.2) (.int .i64 ((rd_T40 t217 x14_3).f2))) (fun _ hk => ⟨⟨hk.1.1.1, hk.1.2⟩, hk.1.1.2⟩)) hg hat); have n2_ := Aside0.mk (blk_grown (g := gb215) (o := .cells #[.int .i64 a2_0, .int .i64 a2_1] 34 (0, 0)) (by (with_reducible repeat (first | refine kN ?_ _ | refine kD ?_ | refine kA ?_ _)); refine blk_far ?_ NB215_226.out _; (with_reducible repeat (first | refine kN ?_ _ | refine kD ?_ | refine kA ?_ _)); refine blk_far ?_ NB215_226.out _; (with_reducible repeat (first | refine kN ?_ _ | refine kD ?_ | refine kA ?_ _)); refine blk_far ?_ NB215_226.out _; (with_reducible repeat (first | refine kN ?_ _ | refine kD ?_ | refine kA ?_ _)); exact BK215.out) hg (Kd.R_ne HO_13.out BK215.out (by decide))); have n3_ := Aside0.mk (blk_grown (g := gb226) (o := .cells #[.int .i64 ((rd_T40 t217 x14_3).f0), .int .i64 ((rd_T40 t217 x14_3).f1), .int .i64 ((rd_T40 t217 x14_3).f2)] 40 (0, 0)) (by (with_reducible repeat (first | refine kN ?_ _ | refine kD ?_ | refine kA ?_ _)); refine blk_put (cs := #[.int .i64 ((rd_T40 t217 x14_3).f0), .int .i64 ((rd_T40 t217 x14_3).f1), .int .i64 0]) ?_ 2 _ rfl; (with_reducible repeat (first | refine kN ?_ _ | refine kD ?_ | refine kA ?_ _)); refine blk_put (cs := #[.int .i64 ((rd_T40 t217 x14_3).f0), .int .i64 0, .int .i64 0]) ?_ 1 _ rfl; (with_reducible repeat (first | refine kN ?_ _ | refine kD ?_ | refine kA ?_ _)); refine blk_put (cs := #[.int .i64 0, .int .i64 0, .int .i64 0]) ?_ 0 _ rfl; (with_reducible repeat (first | refine kN ?_ _ | refine kD ?_ | refine kA ?_ _)); exact BK226.out) hg (Kd.R_away HO_13.out (fun _ hk => hk.2))); have n4_ := Aside0.mk (hb); have n5_ := Aside0.mk (ho); clear HO_8; clear HO_12; clear BK215; clear BK226; clear HB; clear HO_13; have HO_8 := n0_; have HO_12 := n1_; have BK215 := n2_; have BK226 := n3_; have HB := n4_; have HO233 := n5_; clear n0_ n1_ n2_ n3_ n4_ n5_; clear ho hb hg hat; have hcz50_0 : w49.cell? ⟨gb226, 0, none⟩ = some (.int .i64 ((rd_T40 t217 x14_3).f0)) := (blk_cell BK226.out 0).trans rfl; have hcz50_1 : w49.cell? ⟨gb226, 1, none⟩ = some (.int .i64 ((rd_T40 t217 x14_3).f1)) := (blk_cell BK226.out 1).trans rfl; have hcz50_2 : w49.cell? ⟨gb226, 2, none⟩ = some (.int .i64 ((rd_T40 t217 x14_3).f2)) := (blk_cell BK226.out 2).trans rfl; have hfz50_0 := blk_frozen BK226.out 0; have hfz50_1 := blk_frozen BK226.out 1; have hfz50_2 := blk_frozen BK226.out 2) | ((with_reducible refine gate_builtin (b := .append) (xs := #[.tmp 90, .tmp 92]) rfl ?_); (try (refine gate_guard (by rfl) ?_; dsimp only)); at_builtin; refine Kd.R_append k40 (w0 := w) w.heap.size rfl (.tmp 90) (.tmp 92) 22 40 (.agg #[(.int .i64 0), (.int .i64 0), (.int .i64 0)]) 24 rfl Tryd.underlying22 info40 rfl (by decide) (by omega) u12 x12_3 (⟨(rd_T40 t217 x14_3).f0, (rd_T40 t217 x14_3).f1, (rd_T40 t217 x14_3).f2⟩ : S40) [.int .i64 ((rd_T40 t217 x14_3).f0), .int .i64 ((rd_T40 t217 x14_3).f1), .int .i64 ((rd_T40 t217 x14_3).f2)] (fun k_ => some k_ ≠ (.slice (some ad225) t217.length co14 : Value).ownBlock ∧ some k_ ≠ (v232 : Value).ownBlock ∧ k_ ≠ gb226) (fun _ => False) rfl rfl ?aP (fun _ hk => hk.elim) ?aF ?aO ?aB ?aS ?aL ?_; (case aP => exact k40_mkM _ _ _ (⟨(rd_T40 t217 x14_3).f0, (rd_T40 t217 x14_3).f1, (rd_T40 t217 x14_3).f2⟩ : S40)); (case aB => exact lB); (case aF => exact (fun k_ hk => ⟨Kd.fresh' (Kd.R_lt (by (with_reducible repeat (first | apply Kd.R_alloc | apply Kd.R_drewN | apply Kd.R_drew)); exact HO_8.out)) k_ hk, Kd.fresh' (Kd.R_lt (by (with_reducible repeat (first | apply Kd.R_alloc | apply Kd.R_drewN | apply Kd.R_drew)); exact HO233.out)) k_ hk, Kd.freshB (g := gb226) (o := .cells #[.int .i64 ((rd_T40 t217 x14_3).f0), .int .i64 ((rd_T40 t217 x14_3).f1), .int .i64 ((rd_T40 t217 x14_3).f2)] 40 (0, 0)) (kX BK226.out) k_ hk⟩)); (case aO => exact (by (with_reducible repeat (first | apply Kd.R_alloc | apply Kd.R_drewN | apply Kd.R_drew)); exact Kd.R_mono HO_12.out (fun _ hk => ⟨hk.1.1, ⟨hk.2, hk.1.2⟩⟩))); (case aS => exact (below_size lB)); (case aL => have := LMc45.out; omega); intro v235 w51 ho hb hg hat; rw [← Ny234.out] at ho; have n0_ := Aside0.mk (Kd.R_after (ok := (fun k_ => some k_ ≠ (v232 : Value).ownBlock ∧ k_ ≠ gb226)) (by (with_reducible repeat (first | apply Kd.R_alloc | apply Kd.R_drewN | apply Kd.R_drew)); exact Kd.R_mono HO_8.out (fun _ hk => ⟨⟨hk.2, hk.1.2⟩, hk.1.1⟩)) hg hat); have n1_ := Aside0.mk (blk_grown (g := gb215) (o := .cells #[.int .i64 a2_0, .int .i64 a2_1] 34 (0, 0)) (kX BK215.out) hg (Kd.R_ne HO_12.out BK215.out (by decide))); have n2_ := Aside0.mk (blk_grown (g := gb226) (o := .cells #[.int .i64 ((rd_T40 t217 x14_3).f0), .int .i64 ((rd_T40 t217 x14_3).f1), .int .i64 ((rd_T40 t217 x14_3).f2)] 40 (0, 0)) (kX BK226.out) hg (Kd.R_away HO_12.out (fun _ hk => hk.1.2))); have n3_ := Aside0.mk (Kd.R_after (ok := (fun k_ => some k_ ≠ (.slice (some ad225) t217.length co14 : Value).ownBlock ∧ k_ ≠ gb226)) (by (with_reducible repeat (first | apply Kd.R_alloc | apply Kd.R_drewN | apply Kd.R_drew)); exact Kd.R_mono HO233.out (fun _ hk => ⟨⟨hk.1, hk.2.2⟩, hk.2.1⟩)) hg hat); have n4_ := Aside0.mk (hb); have n5_ := Aside0.mk (ho); clear HO_8; clear BK215; clear BK226; clear HO233; clear HB; clear HO_12; have HO_8 := n0_; have BK215 := n1_; have BK226 := n2_; have HO233 := n3_; have HB := n4_; have HO236 := n5_; clear n0_ n1_ n2_ n3_ n4_ n5_; clear ho hb hg hat))
              go_roundg k3
              case measure => have := HJ10.out; have := HJ19.out; have := HK3.out; omega
              case rel => exact ⟨(y234), (y231), (wrap64 (x14_3 + 1)), (by first | rfl | (simp; done) | (simp [*]; done)), H', ⟨by have := HJ10.out; have := HJ19.out; have := HK3.out; omega⟩, ⟨by (with_reducible repeat (first | apply Kd.R_alloc | apply Kd.R_drewN | apply Kd.R_drew)); exact Kd.R_mono HO_8.out (fun _ hk => ⟨hk.2, hk.1.1⟩)⟩, ⟨by (with_reducible repeat (first | apply Kd.R_alloc | apply Kd.R_drewN | apply Kd.R_drew)); exact Kd.R_mono HO236.out (fun _ hk => ⟨hk.1, hk.2.1⟩)⟩, ⟨by (with_reducible repeat (first | apply Kd.R_alloc | apply Kd.R_drewN | apply Kd.R_drew)); exact Kd.R_mono HO233.out (fun _ hk => ⟨hk.1.1, hk.2⟩)⟩, ⟨by (with_reducible repeat (first | refine kN ?_ _ | refine kD ?_ | refine kA ?_ _)); exact BK215.out⟩, ⟨by repeat (first | (with_reducible first | exact HB.out | apply lA | apply lN | apply lD | refine lS ?_ GE215.out | refine lS ?_ GE226.out) | exact HB.out)⟩⟩
             ·rw [if_neg c45] at H
              exact absurd H (by simp)
            ·rw [if_neg c44] at H
             exact absurd H (by simp)
          ·rw [if_neg c29] at H
           exact absurd H (by simp)
         ·rw [if_neg c28] at H
          have c28b0 : decide (x14_3 < (t217.length : Int)) = false := decide_eq_false c28
          clear c28
          replace H := Option.bind_eq_some_iff.mp H
          obtain ⟨t237, A520, H⟩ := H
          replace H : (if t237 = 1 then ((L4_can.f k3 t216 x13_3).bind fun t238 => (if t238 = 1 then ((L4_awake.f).bind fun t239 => (some t239)) else (some false))) else (some false)) = some r := H
          have A52 := Aside0.mk A520
          clear A520
          by_cases c53 : t237 = 1
          ·rw [if_pos c53] at H
           have c53b0 : (t237 == 1) = true := beq_iff_eq.mpr c53
           have c53b1 : (t237 != 1) = false := bne_eq_false_iff_eq.mpr c53
           clear c53
           replace H := Option.bind_eq_some_iff.mp H
           obtain ⟨t238, A540, H⟩ := H
           replace H : (if t238 = 1 then ((L4_awake.f).bind fun t239 => (some t239)) else (some false)) = some r := H
           have A54 := Aside0.mk A540
           clear A540
           by_cases c55 : t238 = 1
           ·rw [if_pos c55] at H
            have c55b0 : (t238 == 1) = true := beq_iff_eq.mpr c55
            have c55b1 : (t238 != 1) = false := bne_eq_false_iff_eq.mpr c55
            clear c55
            replace H := Option.bind_eq_some_iff.mp H
            obtain ⟨t239, A560, H⟩ := H
            replace H : (some t239) = some r := H
            have A56 := Aside0.mk A560
            clear A560
            obtain rfl := Option.some.inj H
            obtain ⟨Ao57, co57, eo57⟩ := Kd.R_slice HO_12.out
            subst eo57
            go_wp2_with (first | ((with_reducible refine gate_callee (f := 22) rfl ?_); refine goesL_ (some 96) rfl rfl Tryd.func22 (by kernel_rfl) rfl #[.int .i64 t216, .slice Ao57 x12_3.length co57] rfl (by (try simp only [List.map_toArray, List.map_cons, List.map_nil]); first | done | rfl | (simp only [List.length_drop, List.length_take]; rfl)) ?_; (with_reducible refine (L4_can.calls k3 t216 _ _ x12_3 t237 _ ?sidenone ?side1 ?side2 A52.out).mono ?_); (case sidenone => exact HNO.out.below lB); (case side1 => repeat (first | exact (Kd.R_reads' HO_12.out).2.2 | (with_reducible refine Kd.C_alloc ?_ _) | (with_reducible refine Kd.C_drewN ?_ _) | (with_reducible refine Kd.C_drew ?_))); (case side2 => exact (Kd.R_reads' HO_12.out).2.1); rintro e w58 ⟨rfl, hb⟩; refine ⟨_, rfl, ?_⟩; have n0_ := Aside0.mk (Kd.R_below (by (with_reducible repeat (first | apply Kd.R_alloc | apply Kd.R_drewN | apply Kd.R_drew)); exact HO_8.out) hb); have n1_ := Aside0.mk (Kd.R_below (by (with_reducible repeat (first | apply Kd.R_alloc | apply Kd.R_drewN | apply Kd.R_drew)); exact HO_12.out) hb); have n2_ := Aside0.mk (Kd.R_below (by (with_reducible repeat (first | apply Kd.R_alloc | apply Kd.R_drewN | apply Kd.R_drew)); exact HO_13.out) hb); have n3_ := Aside0.mk (blk_below (g := gb215) (o := .cells #[.int .i64 a2_0, .int .i64 a2_1] 34 (0, 0)) (kX BK215.out) hb); have n4_ := Aside0.mk (below_step lB hb); clear HO_8; clear HO_12; clear HO_13; clear BK215; clear HB; have HO_8 := n0_; have HO_12 := n1_; have HO_13 := n2_; have BK215 := n3_; have HB := n4_; clear n0_ n1_ n2_ n3_ n4_; (try clear hb); (try clear hb2); (try clear hk); (try clear hi); obtain ⟨Ao59, co59, eo59⟩ := Kd.R_slice HO_13.out; subst eo59) | (go_at_call 22; (with_reducible refine (L4_can.calls k3 t216 _ _ x13_3 t238 _ ?sidenone ?side1 ?side2 A54.out).mono ?_); (case sidenone => exact HNO.out.below lB); (case side1 => repeat (first | exact (Kd.R_reads' HO_13.out).2.2 | (with_reducible refine Kd.C_alloc ?_ _) | (with_reducible refine Kd.C_drewN ?_ _) | (with_reducible refine Kd.C_drew ?_))); (case side2 => exact (Kd.R_reads' HO_13.out).2.1); rintro e w60 ⟨rfl, hb⟩; have n0_ := Aside0.mk (Kd.R_below (by (with_reducible repeat (first | apply Kd.R_alloc | apply Kd.R_drewN | apply Kd.R_drew)); exact HO_8.out) hb); have n1_ := Aside0.mk (Kd.R_below (by (with_reducible repeat (first | apply Kd.R_alloc | apply Kd.R_drewN | apply Kd.R_drew)); exact HO_12.out) hb); have n2_ := Aside0.mk (Kd.R_below (by (with_reducible repeat (first | apply Kd.R_alloc | apply Kd.R_drewN | apply Kd.R_drew)); exact HO_13.out) hb); have n3_ := Aside0.mk (blk_below (g := gb215) (o := .cells #[.int .i64 a2_0, .int .i64 a2_1] 34 (0, 0)) (kX BK215.out) hb); have n4_ := Aside0.mk (below_step lB hb); clear HO_8; clear HO_12; clear HO_13; clear BK215; clear HB; have HO_8 := n0_; have HO_12 := n1_; have HO_13 := n2_; have BK215 := n3_; have HB := n4_; clear n0_ n1_ n2_ n3_ n4_; (try clear hb); (try clear hb2); (try clear hk); (try clear hi)) | (go_at_call 16; (with_reducible refine (L4_awake.calls  t239 hr_ _ ?sidenone A56.out).mono ?_); (case sidenone => exact HNO.out.below lB); rintro e w61 ⟨rfl, hb⟩; have n0_ := Aside0.mk (Kd.R_below (by (with_reducible repeat (first | apply Kd.R_alloc | apply Kd.R_drewN | apply Kd.R_drew)); exact HO_8.out) hb); have n1_ := Aside0.mk (Kd.R_below (by (with_reducible repeat (first | apply Kd.R_alloc | apply Kd.R_drewN | apply Kd.R_drew)); exact HO_12.out) hb); have n2_ := Aside0.mk (Kd.R_below (by (with_reducible repeat (first | apply Kd.R_alloc | apply Kd.R_drewN | apply Kd.R_drew)); exact HO_13.out) hb); have n3_ := Aside0.mk (blk_below (g := gb215) (o := .cells #[.int .i64 a2_0, .int .i64 a2_1] 34 (0, 0)) (kX BK215.out) hb); have n4_ := Aside0.mk (below_step lB hb); clear HO_8; clear HO_12; clear HO_13; clear BK215; clear HB; have HO_8 := n0_; have HO_12 := n1_; have HO_13 := n2_; have BK215 := n3_; have HB := n4_; clear n0_ n1_ n2_ n3_ n4_; (try clear hb); (try clear hb2); (try clear hk); (try clear hi)))
            go_ret
            exact en
           ·rw [if_neg c55] at H
            exact absurd ((Option.some.inj H).trans hr_.out) (by decide)
          ·rw [if_neg c53] at H
           exact absurd ((Option.some.inj H).trans hr_.out) (by decide)
end Go.Proofs.YtmnhcbaocoofoaaDoor.P
namespace Go.Proofs.YtmnhcbaocoofoaaDoor.P
open Go.RowKit YtmnhcbaocoofoaaDoorW.PrintWords
theorem mod5_pos {a t : Int} (h : L4_mod.f a 5 = some t) : 1 ≤ wrap64 (1 + t) := by
  unfold L4_mod.f at h
  have e1 : IntKind.u64.wrap 5 = 5 := IntWalk.u64_in 5 (by omega)
  rw [e1, if_neg (by omega)] at h
  have h1 : 0 ≤ IntKind.u64.wrap a := by
    unfold IntKind.wrap
    simp [IntKind.bits, IntKind.signed]
    omega
  generalize IntKind.u64.wrap a = x at *
  rw [Int.tmod_eq_emod_of_nonneg h1] at h
  have h2 := Int.emod_nonneg x (show (5 : Int) ≠ 0 by omega)
  have h3 := Int.emod_lt_of_pos x (show (0 : Int) < 5 by omega)
  have h4 := Option.some.inj h
  subst h4
  unfold wrap64
  omega
theorem quo_in {k : Int} (h : 1 ≤ k) : wrap64 ((1048576 : Int) / k) = (1048576 : Int) / k := by
  have h1 := Int.ediv_nonneg (a := 1048576) (b := k) (by decide) (by omega)
  have h2 := Int.ediv_le_self (a := 1048576) k (by decide)
  unfold wrap64
  omega
end Go.Proofs.YtmnhcbaocoofoaaDoor.P
