/- Proved here: what functions that the law reaches compute, and plain laws of that. Put together by a program; a part was printed by one (wip/printplus.py). -/
import Derived.Test.YthaklbjcjoolcaaBPlaneOwn1
import Derived.Test.YthaklbjcjoolcaaBPlaneOwn4
import Derived.Test.YthaklbjcjoolcaaCPlaneOwn1
import Derived.Test.YthaklbjcjoolcaaCPlaneOwn3
import Derived.Test.YthaklbjcjoolcaaCPlaneOwn2
set_option linter.unusedVariables false
set_option linter.unusedSimpArgs false
namespace Go.Proofs.Ythaklbjcjoolcaa.P
open Go.RowKit YthaklbjcjoolcaaW.PrintWords YthaklbjcjoolcaaW.PrintLast YthaklbjcjoolcaaW.PrintMore
attribute [local go_sem] max2_int min2_int max_two min_two max_three min_three max_four min_four

mutual
def L1_PlaneOwn.l0 : Nat → List (S31) → List (S31) → List (S31) → Int → Int → Option (Bool)
 | 0, _, _, _, _, _ => none
 | k + 1, x3, x4, x5, x6, x7 => if x7 < (x5.length : Int) then (if 0 ≤ x7 then (L1_PlaneOwn.l0 k x3 x4 (x5.set (x7 : Int).toNat (⟨7, 7⟩ : S31)) x6 (wrap64 (x7 + 1))) else (none)) else ((plane_Triangulate.f x3).bind fun bt673 => (L1_PlaneOwn.l1 k x3 x4 x6 bt673.1 bt673.2 0))
def L1_PlaneOwn.l1 : Nat → List (S31) → List (S31) → Int → List (S58) → Int → Int → Option (Bool)
 | 0, _, _, _, _, _, _ => none
 | k + 1, x3, x4, x6, x8, x9, x10 => if x10 < (x8.length : Int) then (if 0 ≤ x10 then (L1_PlaneOwn.l1 k x3 x4 x6 (x8.set (x10 : Int).toNat (⟨9, 9, 9⟩ : S58)) x9 (wrap64 (x10 + 1))) else (none)) else ((plane_Hull.f x3).bind fun bt678 => ((plane_Triangulate.f x3).bind fun bt682 => (if x6 = 0 then (if bt678.2 = 0 then (if x9 = bt682.2 then ((L1_same.f k x3 x4).bind fun t686 => (if t686 = true then ((R1_Hull.f x4).bind fun t687 => ((L1_same.f k bt678.1 t687).bind fun t690 => (L1_PlaneOwn.j2 k x4 x9 bt682.1 (!t690)))) else (L1_PlaneOwn.j2 k x4 x9 bt682.1 true))) else (L1_PlaneOwn.j2 k x4 x9 bt682.1 true)) else (L1_PlaneOwn.j2 k x4 x9 bt682.1 true)) else (L1_PlaneOwn.j2 k x4 x9 bt682.1 true))))
def L1_PlaneOwn.j2 : Nat → List (S31) → Int → List (S58) → Bool → Option (Bool)
 | 0, _, _, _, _ => none
 | k + 1, x4, x9, x13, x82 => if x82 = true then (some false) else (if x9 = 0 then ((R1_Covers.f x4 x13).bind fun t691 => (if t691 = true then ((L1_awake.f k).bind fun t692 => (some t692)) else (some false))) else ((L1_awake.f k).bind fun t693 => (some t693)))
end
def L1_PlaneOwn.f (k : Nat) (l0 : List (S31)) : Option (Bool) := (L1_set.f k l0 30).bind fun t662 => ((L1_set.f k l0 30).bind fun t665 => ((plane_Hull.f t662).bind fun bt668 => (L1_PlaneOwn.l0 k t662 t665 bt668.1 bt668.2 0)))
theorem L1_PlaneOwn.mono_l : ∀ k, (∀ y0 y1 y2 y3 y4, LeO (L1_PlaneOwn.l0 k y0 y1 y2 y3 y4) (L1_PlaneOwn.l0 (k + 1) y0 y1 y2 y3 y4)) ∧ (∀ y0 y1 y2 y3 y4 y5, LeO (L1_PlaneOwn.l1 k y0 y1 y2 y3 y4 y5) (L1_PlaneOwn.l1 (k + 1) y0 y1 y2 y3 y4 y5)) ∧ (∀ y0 y1 y2 y3, LeO (L1_PlaneOwn.j2 k y0 y1 y2 y3) (L1_PlaneOwn.j2 (k + 1) y0 y1 y2 y3))
 | 0 => ⟨fun _ _ _ _ _ r h => by simp [L1_PlaneOwn.l0] at h, fun _ _ _ _ _ _ r h => by simp [L1_PlaneOwn.l1] at h, fun _ _ _ _ r h => by simp [L1_PlaneOwn.j2] at h⟩
 | k + 1 => by
  obtain ⟨ih0, ih1, ih2⟩ := L1_PlaneOwn.mono_l k
  refine ⟨?_, ?_, ?_⟩
  ·intro y0 y1 y2 y3 y4
   unfold L1_PlaneOwn.l0
   repeat' first
   | (with_reducible exact ih0 _ _ _ _ _)
   | (with_reducible exact ih1 _ _ _ _ _ _)
   | (with_reducible exact ih2 _ _ _ _)
   | (with_reducible exact L1_awake.mono _)
   | (with_reducible exact L1_same.mono _ _ _)
   | (with_reducible exact L1_set.mono _ _ _)
   | (with_reducible first | exact LeO.refl _ | exact LeO.none _ | refine LeO.ite ?_ ?_ | refine LeO.bind ?_ (fun _ => ?_))
   | exact ih0 _ _ _ _ _
   | exact ih1 _ _ _ _ _ _
   | exact ih2 _ _ _ _
   | exact L1_awake.mono _
   | exact L1_same.mono _ _ _
   | exact L1_set.mono _ _ _
   | exact LeO.none _ | refine LeO.ite ?_ ?_ | refine LeO.bind ?_ (fun _ => ?_)
  ·intro y0 y1 y2 y3 y4 y5
   unfold L1_PlaneOwn.l1
   repeat' first
   | (with_reducible exact ih0 _ _ _ _ _)
   | (with_reducible exact ih1 _ _ _ _ _ _)
   | (with_reducible exact ih2 _ _ _ _)
   | (with_reducible exact L1_awake.mono _)
   | (with_reducible exact L1_same.mono _ _ _)
   | (with_reducible exact L1_set.mono _ _ _)
   | (with_reducible first | exact LeO.refl _ | exact LeO.none _ | refine LeO.ite ?_ ?_ | refine LeO.bind ?_ (fun _ => ?_))
   | exact ih0 _ _ _ _ _
   | exact ih1 _ _ _ _ _ _
   | exact ih2 _ _ _ _
   | exact L1_awake.mono _
   | exact L1_same.mono _ _ _
   | exact L1_set.mono _ _ _
   | exact LeO.none _ | refine LeO.ite ?_ ?_ | refine LeO.bind ?_ (fun _ => ?_)
  ·intro y0 y1 y2 y3
   unfold L1_PlaneOwn.j2
   repeat' first
   | (with_reducible exact ih0 _ _ _ _ _)
   | (with_reducible exact ih1 _ _ _ _ _ _)
   | (with_reducible exact ih2 _ _ _ _)
   | (with_reducible exact L1_awake.mono _)
   | (with_reducible exact L1_same.mono _ _ _)
   | (with_reducible exact L1_set.mono _ _ _)
   | (with_reducible first | exact LeO.refl _ | exact LeO.none _ | refine LeO.ite ?_ ?_ | refine LeO.bind ?_ (fun _ => ?_))
   | exact ih0 _ _ _ _ _
   | exact ih1 _ _ _ _ _ _
   | exact ih2 _ _ _ _
   | exact L1_awake.mono _
   | exact L1_same.mono _ _ _
   | exact L1_set.mono _ _ _
   | exact LeO.none _ | refine LeO.ite ?_ ?_ | refine LeO.bind ?_ (fun _ => ?_)
theorem L1_PlaneOwn.mono : ∀ a0 k, LeO (L1_PlaneOwn.f k a0) (L1_PlaneOwn.f (k + 1) a0) := by
 intro a0 k
 obtain ⟨ih0, ih1, ih2⟩ := L1_PlaneOwn.mono_l k
 unfold L1_PlaneOwn.f
 repeat' first
   | (with_reducible exact ih0 _ _ _ _ _)
   | (with_reducible exact ih1 _ _ _ _ _ _)
   | (with_reducible exact ih2 _ _ _ _)
   | (with_reducible exact L1_awake.mono _)
   | (with_reducible exact L1_same.mono _ _ _)
   | (with_reducible exact L1_set.mono _ _ _)
   | (with_reducible first | exact LeO.refl _ | exact LeO.none _ | refine LeO.ite ?_ ?_ | refine LeO.bind ?_ (fun _ => ?_))
   | exact ih0 _ _ _ _ _
   | exact ih1 _ _ _ _ _ _
   | exact ih2 _ _ _ _
   | exact L1_awake.mono _
   | exact L1_same.mono _ _ _
   | exact L1_set.mono _ _ _
   | exact LeO.none _ | refine LeO.ite ?_ ?_ | refine LeO.bind ?_ (fun _ => ?_)
set_option maxHeartbeats 8000000 in
set_option maxRecDepth 100000 in
theorem L1_PlaneOwn.calls (k : Nat) (A0 : Option Addr) (c0 : Nat) (l0 : List (S31)) (r : Bool) (w : World) (hr0 : Kd.C k31 w A0 l0.length l0) (hc0 : l0.length ≤ c0) (h : L1_PlaneOwn.f k l0 = some r) :
  Calls Try.prog 18 #[.slice A0 l0.length c0] w fun e w' => e = .returned (.bool r) ∧ Below w.heap.size w w' := by
 have hu31 := Try.underlying31
 have hu58 := Try.underlying58
 have HR0 := Aside0.mk hr0
 have HC0 := Aside0.mk hc0
 clear hr0 hc0
 have HB := Aside0.mk (Below.refl w.heap.size w)
 have H : ((L1_set.f k l0 30).bind fun t662 => ((L1_set.f k l0 30).bind fun t665 => ((plane_Hull.f t662).bind fun bt668 => (L1_PlaneOwn.l0 k t662 t665 bt668.1 bt668.2 0)))) = some r := h
 clear h
 replace H := Option.bind_eq_some_iff.mp H
 obtain ⟨t662, A20, H⟩ := H
 replace H : ((L1_set.f k l0 30).bind fun t665 => ((plane_Hull.f t662).bind fun bt668 => (L1_PlaneOwn.l0 k t662 t665 bt668.1 bt668.2 0))) = some r := H
 have A2 := Aside0.mk A20
 clear A20
 replace H := Option.bind_eq_some_iff.mp H
 obtain ⟨t665, A30, H⟩ := H
 replace H : ((plane_Hull.f t662).bind fun bt668 => (L1_PlaneOwn.l0 k t662 t665 bt668.1 bt668.2 0)) = some r := H
 have A3 := Aside0.mk A30
 clear A30
 replace H := Option.bind_eq_some_iff.mp H
 obtain ⟨⟨t668, t669⟩, A40, H⟩ := H
 replace H : (L1_PlaneOwn.l0 k t662 t665 t668 t669 0) = some r := H
 have A4 := Aside0.mk A40
 clear A40
 have H' := Aside0.mk H
 clear H
 go_enter Try.func18, Try.ntmps18
 go_wp2_with (first | ((with_reducible refine gate_callee (f := 36) rfl ?_); refine goesL_ (some 16) rfl rfl Try.func36 (by kernel_rfl) rfl #[.slice A0 l0.length c0, .int .i64 30] rfl (by (try simp only [List.map_toArray, List.map_cons, List.map_nil]); first | done | rfl | (simp only [List.length_drop, List.length_take]; rfl)) ?_; (with_reducible refine (L1_set.calls k _ _ l0 30 t662 _ ?side1 ?side2 A2.out).mono ?_); (case side1 => repeat (first | exact HR0.out | (with_reducible refine Kd.C_alloc ?_ _) | (with_reducible refine Kd.C_drewN ?_ _) | (with_reducible refine Kd.C_drew ?_))); (case side2 => exact HC0.out); rintro e w5 ⟨v663, rfl, ho0, hb⟩; refine ⟨_, rfl, ?_⟩; have n0_ := Aside0.mk (Kd.R_lower ho0 (below_size lB)); have n1_ := Aside0.mk (below_step lB hb); clear HB; have HO664 := n0_; have HB := n1_; clear n0_ n1_; (try clear hb); (try clear hb2); (try clear hk); (try clear hi); (try clear ho0)) | ((with_reducible refine gate_callee (f := 36) rfl ?_); refine goesL_ (some 18) rfl rfl Try.func36 (by kernel_rfl) rfl #[.slice A0 l0.length c0, .int .i64 30] rfl (by (try simp only [List.map_toArray, List.map_cons, List.map_nil]); first | done | rfl | (simp only [List.length_drop, List.length_take]; rfl)) ?_; (with_reducible refine (L1_set.calls k _ _ l0 30 t665 _ ?side1 ?side2 A3.out).mono ?_); (case side1 => repeat (first | exact (Kd.C_below HR0.out HB.out) | (with_reducible refine Kd.C_alloc ?_ _) | (with_reducible refine Kd.C_drewN ?_ _) | (with_reducible refine Kd.C_drew ?_))); (case side2 => exact HC0.out); rintro e w6 ⟨v666, rfl, ho0, hb⟩; refine ⟨_, rfl, ?_⟩; have n0_ := Aside0.mk (Kd.R_elder' (by (with_reducible repeat (first | apply Kd.R_alloc | apply Kd.R_drewN | apply Kd.R_drew)); exact HO664.out) (Kd.R_base ho0) hb); have n1_ := Aside0.mk (Kd.R_lower (Kd.R_new' ho0 (Kd.R_lt (by (with_reducible repeat (first | apply Kd.R_alloc | apply Kd.R_drewN | apply Kd.R_drew)); exact HO664.out))) (below_size lB)); have n2_ := Aside0.mk (below_step lB hb); clear HO664; clear HB; have HO664 := n0_; have HO667 := n1_; have HB := n2_; clear n0_ n1_ n2_; (try clear hb); (try clear hb2); (try clear hk); (try clear hi); (try clear ho0); obtain ⟨Ao7, co7, eo7⟩ := Kd.R_slice HO664.out; subst eo7) | ((with_reducible refine gate_callee (f := 32) rfl ?_); refine goesL_ (some 21) rfl rfl Try.func32 (by kernel_rfl) rfl #[.slice Ao7 t662.length co7] rfl (by (try simp only [List.map_toArray, List.map_cons, List.map_nil]); first | done | rfl | (simp only [List.length_drop, List.length_take]; rfl)) ?_; (with_reducible refine (plane_Hull.calls _ _ t662 t668 t669 _ ?side1 ?side2 A4.out).mono ?_); (case side1 => repeat (first | exact (Kd.R_reads' HO664.out).2.2 | (with_reducible refine Kd.C_alloc ?_ _) | (with_reducible refine Kd.C_drewN ?_ _) | (with_reducible refine Kd.C_drew ?_))); (case side2 => exact (Kd.R_reads' HO664.out).2.1); rintro e w8 ⟨v670, rfl, ho0, hb⟩; refine ⟨_, rfl, ?_⟩; have n0_ := Aside0.mk (Kd.R_elder' (by (with_reducible repeat (first | apply Kd.R_alloc | apply Kd.R_drewN | apply Kd.R_drew)); exact HO664.out) (Kd.R_base ho0) hb); have n1_ := Aside0.mk (Kd.R_elder' (by (with_reducible repeat (first | apply Kd.R_alloc | apply Kd.R_drewN | apply Kd.R_drew)); exact HO667.out) (Kd.R_base ho0) hb); have n2_ := Aside0.mk (Kd.R_lower (Kd.R_new' (Kd.R_new' ho0 (Kd.R_lt (by (with_reducible repeat (first | apply Kd.R_alloc | apply Kd.R_drewN | apply Kd.R_drew)); exact HO664.out))) (Kd.R_lt (by (with_reducible repeat (first | apply Kd.R_alloc | apply Kd.R_drewN | apply Kd.R_drew)); exact HO667.out))) (below_size lB)); have n3_ := Aside0.mk (below_step lB hb); clear HO664; clear HO667; clear HB; have HO664 := n0_; have HO667 := n1_; have HO671 := n2_; have HB := n3_; clear n0_ n1_ n2_ n3_; (try clear hb); (try clear hb2); (try clear hk); (try clear hi); (try clear ho0)))
 go_loopg [7] k (fun kq v7 w' => ∃ (x5_1 : List (S31)) (x7_1 : Int), v7 = .int .i64 x7_1 ∧ Aside0 (L1_PlaneOwn.l0 kq t662 t665 x5_1 t669 x7_1 = some r) ∧ Aside0 (kq ≤ k) ∧ Aside0 (Kd.R k31 31 w' w.heap.size (fun k_ => some k_ ≠ (v666 : Value).ownBlock ∧ some k_ ≠ (v670 : Value).ownBlock) (.slice Ao7 t662.length co7) t662) ∧ Aside0 (Kd.R k31 31 w' w.heap.size (fun k_ => some k_ ≠ ((.slice Ao7 t662.length co7) : Value).ownBlock ∧ some k_ ≠ (v670 : Value).ownBlock) v666 t665) ∧ Aside0 (Kd.R k31 31 w' w.heap.size (fun k_ => some k_ ≠ ((.slice Ao7 t662.length co7) : Value).ownBlock ∧ some k_ ≠ (v666 : Value).ownBlock) v670 x5_1) ∧ Aside0 (Below w.heap.size w w'))
 case atStart => exact ⟨(t668), (0), (by first | rfl | (simp; done) | (simp [*]; done)), H', ⟨Nat.le_refl _⟩, ⟨by (with_reducible repeat (first | apply Kd.R_alloc | apply Kd.R_drewN | apply Kd.R_drew)); exact Kd.R_mono HO664.out (fun _ hk => ⟨hk.1.2, hk.2⟩)⟩, ⟨by (with_reducible repeat (first | apply Kd.R_alloc | apply Kd.R_drewN | apply Kd.R_drew)); exact Kd.R_mono HO667.out (fun _ hk => ⟨hk.1.2, hk.2⟩)⟩, ⟨by (with_reducible repeat (first | apply Kd.R_alloc | apply Kd.R_drewN | apply Kd.R_drew)); exact Kd.R_mono HO671.out (fun _ hk => ⟨hk.1.2, hk.2⟩)⟩, ⟨by repeat (first | (with_reducible first | exact HB.out | apply lA | apply lN | apply lD) | exact HB.out)⟩⟩
 case round =>
  clear H'
  try clear c1
  try clear p2
  try clear c3
  obtain ⟨x5_1, x7_1, rfl, HA, HK1, HO_3, HO_4, HO_5, HB⟩ := hrel
  cases gk with
  | zero => exact absurd HA.out (by simp [L1_PlaneOwn.l0])
  | succ k1 =>
   have H := HA.out
   clear HA
   simp only [L1_PlaneOwn.l0] at H
   by_cases c9 : x7_1 < (x5_1.length : Int)
   ·rw [if_pos c9] at H
    have c9b0 : decide (x7_1 < (x5_1.length : Int)) = true := decide_eq_true c9
    clear c9
    by_cases c10 : 0 ≤ x7_1
    ·rw [if_pos c10] at H
     have c10b0 : decide (0 ≤ x7_1) = true := decide_eq_true c10
     clear c10
     obtain ⟨y672, hy672⟩ : ∃ y_ : List (S31), y_ = (x5_1.set (x7_1 : Int).toNat (⟨7, 7⟩ : S31)) := ⟨_, rfl⟩
     replace H : (L1_PlaneOwn.l0 k1 t662 t665 y672 t669 (wrap64 (x7_1 + 1))) = some r := by first | (rw [hy672]; with_reducible exact H) | (have H2_ := (Option.bind_some _ _).symm.trans H; rw [hy672]; with_reducible exact H2_) | (have H2_ := (Option.bind_some _ _).symm.trans H; with_reducible exact H2_) | with_reducible exact H | (rw [hy672]; exact H) | exact H
     have Ny672 := Aside0.mk hy672
     clear hy672
     have H' := Aside0.mk H
     clear H
     obtain ⟨Ao12, co12, eo12⟩ := Kd.R_slice HO_5.out
     subst eo12
     have p11 : 0 ≤ (x7_1 : Int) := of_decide_eq_true (by first | (with_reducible assumption) | assumption)
     have q11 : (x7_1 : Int) < ((x5_1.length : Int) : Int) := of_decide_eq_true (by first | (with_reducible assumption) | assumption)
     obtain ⟨go11, co11, eo11, gb11, gl11, cl11, HG11⟩ := Kd.R_form HO_5.out (by omega)
     (first | cases eo11 | (injection eo11 with ea_ en_ ec_; (first | subst ea_ | (injection ea_ with ea_; subst ea_)); subst ec_; clear en_))
     have GB11 := Aside0.mk gb11
     have GG11 := Aside0.mk HG11
     clear gb11 gl11 HG11
     obtain ⟨ce11, hcl11, hM11, hcc11, hfr11⟩ := Kd.R_elem HO_5.out z31 (x7_1 : Int) p11 q11
     obtain rfl := k31_openM hM11
     have hx11_0 : wr.cell? ⟨go11, (x7_1 : Int).toNat * 2, none⟩ = some (.int .i64 ((rd_T31 x5_1 x7_1).f0)) := hcc11 0 _ rfl
     have hx11_1 : wr.cell? ⟨go11, (x7_1 : Int).toNat * 2 + 1, none⟩ = some (.int .i64 ((rd_T31 x5_1 x7_1).f1)) := hcc11 1 _ rfl
     have hf11_0 : wr.frozen? ⟨go11, (x7_1 : Int).toNat * 2, none⟩ = false := hfr11 0
     have hf11_1 : wr.frozen? ⟨go11, (x7_1 : Int).toNat * 2 + 1, none⟩ = false := hfr11 1
     clear hcl11 hcc11 hfr11 hM11
     replace p11 := eq_true p11
     replace q11 := eq_true q11
     have HX13 := Aside0.mk (show Kd.R k31 31 wr w.heap.size (fun k_ => some k_ ≠ (.slice Ao7 t662.length co7 : Value).ownBlock ∧ some k_ ≠ (v666 : Value).ownBlock) (.slice (some ⟨go11, 0, none⟩) x5_1.length co12) x5_1 from (by (with_reducible repeat (first | apply Kd.R_alloc | apply Kd.R_drewN | apply Kd.R_drew)); exact HO_5.out))
     obtain ⟨ce13, hcl13, hM13, hcc13, hfr13⟩ := Kd.R_elem HX13.out z31 (x7_1 : Int) (of_decide_eq_true (by first | (with_reducible assumption) | assumption)) (by have h_ : (x7_1 : Int) < ((x5_1.length : Int) : Int) := of_decide_eq_true (by first | (with_reducible assumption) | assumption); first | exact h_ | (have e_ := (Kd.R_reads' HO_5.out).1; omega) | simpa using h_)
     obtain rfl := k31_openM hM13
     have HP13 := Kd.R_seg HX13.out (x7_1 : Int) (of_decide_eq_true (by first | (with_reducible assumption) | assumption)) (by have h_ : (x7_1 : Int) < ((x5_1.length : Int) : Int) := of_decide_eq_true (by first | (with_reducible assumption) | assumption); first | exact h_ | (have e_ := (Kd.R_reads' HO_5.out).1; omega) | simpa using h_) (seg := [.int .i64 7, .int .i64 7]) (j := 0) hcl13 hcc13 (show 2 ≤ 2 from by decide) (x' := (⟨7, 7⟩ : S31)) (k31_mkM _ _ _ (⟨7, 7⟩ : S31) ) (fun _ hk => hk)
     have hx13_0 := hcc13 0 _ rfl
     (try simp only [show (k31).sz = 2 from rfl, Nat.mul_one, Nat.add_zero] at hx13_0)
     have hf13_0 := hfr13 0
     (try simp only [show (k31).sz = 2 from rfl, Nat.mul_one, Nat.add_zero] at hf13_0)
     have hx13_1 := hcc13 1 _ rfl
     (try simp only [show (k31).sz = 2 from rfl, Nat.mul_one, Nat.add_zero] at hx13_1)
     have hf13_1 := hfr13 1
     (try simp only [show (k31).sz = 2 from rfl, Nat.mul_one, Nat.add_zero] at hf13_1)
     clear hcl13 hcc13 hfr13 hM13
     go_wp2_with (first | ((with_reducible refine gate_store (t := 31) (p := 33) rfl ?_); refine store_event (t := 31) (p := 33) (v := ?vo_w14) (w1 := ((wr.setCell ⟨go11, (x7_1 : Int).toNat * 2, none⟩ (.int .i64 7)).setCell ⟨go11, (x7_1 : Int).toNat * 2 + 1, none⟩ (.int .i64 7))) ?hg ?ho ?hn ?hr ?_; (case ho => rfl); (case hg => rfl); (case hn => rfl); (case hr => first | (go_simp; done) | (go_simp; rfl)); intro w14 hw; have hg : wr.grownBy w14 (some go11) := (by rw [hw]; exact HP13.2); have hp_ : Kd.R k31 31 w14 w.heap.size (fun k_ => some k_ ≠ (.slice Ao7 t662.length co7 : Value).ownBlock ∧ some k_ ≠ (v666 : Value).ownBlock) (.slice (some ⟨go11, 0, none⟩) x5_1.length co12) y672 := (by rw [hw, Ny672.out]; exact HP13.1); clear HP13; have n0_ := Aside0.mk (Kd.R_after (v := (.slice (some ⟨go11, 0, none⟩) x5_1.length co12)) (v1 := (.slice (some ⟨go11, 0, none⟩) x5_1.length co12)) (ok := (fun k_ => some k_ ≠ (v666 : Value).ownBlock)) (by (with_reducible repeat (first | apply Kd.R_alloc | apply Kd.R_drewN | apply Kd.R_drew)); exact HO_3.out) hg (.inl rfl)); have n1_ := Aside0.mk (Kd.R_after (v := (.slice (some ⟨go11, 0, none⟩) x5_1.length co12)) (v1 := (.slice (some ⟨go11, 0, none⟩) x5_1.length co12)) (ok := (fun k_ => some k_ ≠ (.slice Ao7 t662.length co7 : Value).ownBlock)) (by (with_reducible repeat (first | apply Kd.R_alloc | apply Kd.R_drewN | apply Kd.R_drew)); exact HO_4.out) hg (.inl rfl)); have n2_ := Aside0.mk (hp_); have n3_ := Aside0.mk ((by rw [hw]; exact lS (lS (HB.out) GB11.out) GB11.out : Below w.heap.size w w14)); clear HO_3; clear HO_4; clear HO_5; clear HB; have HO_3 := n0_; have HO_4 := n1_; have HO_5 := n2_; have HB := n3_; clear n0_ n1_ n2_ n3_; clear hg hw hp_))
     go_roundg k1
     case measure => have := HK1.out; omega
     case rel => exact ⟨(y672), (wrap64 (x7_1 + 1)), (by first | rfl | (simp; done) | (simp [*]; done)), H', ⟨by have := HK1.out; omega⟩, ⟨by (with_reducible repeat (first | apply Kd.R_alloc | apply Kd.R_drewN | apply Kd.R_drew)); exact HO_3.out⟩, ⟨by (with_reducible repeat (first | apply Kd.R_alloc | apply Kd.R_drewN | apply Kd.R_drew)); exact HO_4.out⟩, ⟨by (with_reducible repeat (first | apply Kd.R_alloc | apply Kd.R_drewN | apply Kd.R_drew)); exact HO_5.out⟩, ⟨by repeat (first | (with_reducible first | exact HB.out | apply lA | apply lN | apply lD) | exact HB.out)⟩⟩
    ·rw [if_neg c10] at H
     exact absurd H (by simp)
   ·rw [if_neg c9] at H
    have c9b0 : decide (x7_1 < (x5_1.length : Int)) = false := decide_eq_false c9
    clear c9
    replace H := Option.bind_eq_some_iff.mp H
    obtain ⟨⟨t673, t674⟩, A150, H⟩ := H
    replace H : (L1_PlaneOwn.l1 k1 t662 t665 t669 t673 t674 0) = some r := H
    have A15 := Aside0.mk A150
    clear A150
    have H' := Aside0.mk H
    clear H
    obtain ⟨Ao16, co16, eo16⟩ := Kd.R_slice HO_5.out
    subst eo16
    go_wp2_with (first | ((with_reducible refine gate_callee (f := 50) rfl ?_); refine goesL_ (some 36) rfl rfl Try.func50 (by kernel_rfl) rfl #[.slice Ao7 t662.length co7] rfl (by (try simp only [List.map_toArray, List.map_cons, List.map_nil]); first | done | rfl | (simp only [List.length_drop, List.length_take]; rfl)) ?_; (with_reducible refine (plane_Triangulate.calls _ _ t662 t673 t674 _ ?side1 ?side2 A15.out).mono ?_); (case side1 => repeat (first | exact (Kd.R_reads' HO_3.out).2.2 | (with_reducible refine Kd.C_alloc ?_ _) | (with_reducible refine Kd.C_drewN ?_ _) | (with_reducible refine Kd.C_drew ?_))); (case side2 => exact (Kd.R_reads' HO_3.out).2.1); rintro e w17 ⟨v675, rfl, ho0, hb⟩; refine ⟨_, rfl, ?_⟩; have n0_ := Aside0.mk (Kd.R_below (by (with_reducible repeat (first | apply Kd.R_alloc | apply Kd.R_drewN | apply Kd.R_drew)); exact HO_3.out) hb); have n1_ := Aside0.mk (Kd.R_below (by (with_reducible repeat (first | apply Kd.R_alloc | apply Kd.R_drewN | apply Kd.R_drew)); exact HO_4.out) hb); have n2_ := Aside0.mk (Kd.R_below (by (with_reducible repeat (first | apply Kd.R_alloc | apply Kd.R_drewN | apply Kd.R_drew)); exact HO_5.out) hb); have n3_ := Aside0.mk (Kd.R_lower ho0 (below_size lB)); have n4_ := Aside0.mk (below_step lB hb); clear HO_3; clear HO_4; clear HO_5; clear HB; have HO_3 := n0_; have HO_4 := n1_; have HO_5 := n2_; have HO676 := n3_; have HB := n4_; clear n0_ n1_ n2_ n3_ n4_; (try clear hb); (try clear hb2); (try clear hk); (try clear hi); (try clear ho0)))
    go_loopg [10] k1 (fun kq v10 w' => ∃ (x8_2 : List (S58)) (x10_2 : Int), v10 = .int .i64 x10_2 ∧ Aside0 (L1_PlaneOwn.l1 kq t662 t665 t669 x8_2 t674 x10_2 = some r) ∧ Aside0 (kq ≤ k1) ∧ Aside0 (Kd.R k31 31 w' w.heap.size (fun k_ => some k_ ≠ (v666 : Value).ownBlock) (.slice Ao7 t662.length co7) t662) ∧ Aside0 (Kd.R k31 31 w' w.heap.size (fun k_ => some k_ ≠ ((.slice Ao7 t662.length co7) : Value).ownBlock) v666 t665) ∧ Aside0 (Kd.R k58 58 w' w.heap.size (fun _ => True) v675 x8_2) ∧ Aside0 (Below w.heap.size w w'))
    case atStart => exact ⟨(t673), (0), (by first | rfl | (simp; done) | (simp [*]; done)), H', ⟨Nat.le_refl _⟩, ⟨by (with_reducible repeat (first | apply Kd.R_alloc | apply Kd.R_drewN | apply Kd.R_drew)); exact Kd.R_mono HO_3.out (fun _ hk => hk.1)⟩, ⟨by (with_reducible repeat (first | apply Kd.R_alloc | apply Kd.R_drewN | apply Kd.R_drew)); exact Kd.R_mono HO_4.out (fun _ hk => hk.1)⟩, ⟨by (with_reducible repeat (first | apply Kd.R_alloc | apply Kd.R_drewN | apply Kd.R_drew)); exact HO676.out⟩, ⟨by repeat (first | (with_reducible first | exact HB.out | apply lA | apply lN | apply lD) | exact HB.out)⟩⟩
    case round =>
     clear H'
     try clear c1
     try clear p1
     try clear q1
     try clear hx1
     try clear hf1
     try clear p2
     try clear c3
     try clear c5
     try clear p6
     try clear c9
     try clear c9b0
     try clear c10
     try clear c10b0
     try clear c11
     try clear p11
     try clear q11
     try clear hx11
     try clear hf11
     try clear c13
     try clear hx13
     try clear hf13
     try clear hx11_0
     try clear hx11_1
     try clear hx13_0
     try clear hx13_1
     try clear p11
     try clear p2
     try clear q11
     obtain ⟨x8_2, x10_2, rfl, HA, HK2, HO_3, HO_4, HO_8, HB⟩ := hrel
     cases gk with
     | zero => exact absurd HA.out (by simp [L1_PlaneOwn.l1])
     | succ k2 =>
      have H := HA.out
      clear HA
      simp only [L1_PlaneOwn.l1] at H
      by_cases c18 : x10_2 < (x8_2.length : Int)
      ·rw [if_pos c18] at H
       have c18b0 : decide (x10_2 < (x8_2.length : Int)) = true := decide_eq_true c18
       clear c18
       by_cases c19 : 0 ≤ x10_2
       ·rw [if_pos c19] at H
        have c19b0 : decide (0 ≤ x10_2) = true := decide_eq_true c19
        clear c19
        obtain ⟨y677, hy677⟩ : ∃ y_ : List (S58), y_ = (x8_2.set (x10_2 : Int).toNat (⟨9, 9, 9⟩ : S58)) := ⟨_, rfl⟩
        replace H : (L1_PlaneOwn.l1 k2 t662 t665 t669 y677 t674 (wrap64 (x10_2 + 1))) = some r := by first | (rw [hy677]; with_reducible exact H) | (have H2_ := (Option.bind_some _ _).symm.trans H; rw [hy677]; with_reducible exact H2_) | (have H2_ := (Option.bind_some _ _).symm.trans H; with_reducible exact H2_) | with_reducible exact H | (rw [hy677]; exact H) | exact H
        have Ny677 := Aside0.mk hy677
        clear hy677
        have H' := Aside0.mk H
        clear H
        obtain ⟨Ao21, co21, eo21⟩ := Kd.R_slice HO_8.out
        subst eo21
        have p20 : 0 ≤ (x10_2 : Int) := of_decide_eq_true (by first | (with_reducible assumption) | assumption)
        have q20 : (x10_2 : Int) < ((x8_2.length : Int) : Int) := of_decide_eq_true (by first | (with_reducible assumption) | assumption)
        obtain ⟨go20, co20, eo20, gb20, gl20, cl20, HG20⟩ := Kd.R_form HO_8.out (by omega)
        (first | cases eo20 | (injection eo20 with ea_ en_ ec_; (first | subst ea_ | (injection ea_ with ea_; subst ea_)); subst ec_; clear en_))
        have GB20 := Aside0.mk gb20
        have GG20 := Aside0.mk HG20
        clear gb20 gl20 HG20
        obtain ⟨ce20, hcl20, hM20, hcc20, hfr20⟩ := Kd.R_elem HO_8.out z58 (x10_2 : Int) p20 q20
        obtain rfl := k58_openM hM20
        have hx20_0 : wr.cell? ⟨go20, (x10_2 : Int).toNat * 3, none⟩ = some (.int .i64 ((rd_T58 x8_2 x10_2).f0)) := hcc20 0 _ rfl
        have hx20_1 : wr.cell? ⟨go20, (x10_2 : Int).toNat * 3 + 1, none⟩ = some (.int .i64 ((rd_T58 x8_2 x10_2).f1)) := hcc20 1 _ rfl
        have hx20_2 : wr.cell? ⟨go20, (x10_2 : Int).toNat * 3 + 2, none⟩ = some (.int .i64 ((rd_T58 x8_2 x10_2).f2)) := hcc20 2 _ rfl
        have hf20_0 : wr.frozen? ⟨go20, (x10_2 : Int).toNat * 3, none⟩ = false := hfr20 0
        have hf20_1 : wr.frozen? ⟨go20, (x10_2 : Int).toNat * 3 + 1, none⟩ = false := hfr20 1
        have hf20_2 : wr.frozen? ⟨go20, (x10_2 : Int).toNat * 3 + 2, none⟩ = false := hfr20 2
        clear hcl20 hcc20 hfr20 hM20
        replace p20 := eq_true p20
        replace q20 := eq_true q20
        have HX22 := Aside0.mk (show Kd.R k58 58 wr w.heap.size (fun _ => True) (.slice (some ⟨go20, 0, none⟩) x8_2.length co21) x8_2 from (by (with_reducible repeat (first | apply Kd.R_alloc | apply Kd.R_drewN | apply Kd.R_drew)); exact HO_8.out))
        obtain ⟨ce22, hcl22, hM22, hcc22, hfr22⟩ := Kd.R_elem HX22.out z58 (x10_2 : Int) (of_decide_eq_true (by first | (with_reducible assumption) | assumption)) (by have h_ : (x10_2 : Int) < ((x8_2.length : Int) : Int) := of_decide_eq_true (by first | (with_reducible assumption) | assumption); first | exact h_ | (have e_ := (Kd.R_reads' HO_8.out).1; omega) | simpa using h_)
        obtain rfl := k58_openM hM22
        have HP22 := Kd.R_seg HX22.out (x10_2 : Int) (of_decide_eq_true (by first | (with_reducible assumption) | assumption)) (by have h_ : (x10_2 : Int) < ((x8_2.length : Int) : Int) := of_decide_eq_true (by first | (with_reducible assumption) | assumption); first | exact h_ | (have e_ := (Kd.R_reads' HO_8.out).1; omega) | simpa using h_) (seg := [.int .i64 9, .int .i64 9, .int .i64 9]) (j := 0) hcl22 hcc22 (show 3 ≤ 3 from by decide) (x' := (⟨9, 9, 9⟩ : S58)) (k58_mkM _ _ _ (⟨9, 9, 9⟩ : S58) ) (fun _ hk => hk)
        have hx22_0 := hcc22 0 _ rfl
        (try simp only [show (k58).sz = 3 from rfl, Nat.mul_one, Nat.add_zero] at hx22_0)
        have hf22_0 := hfr22 0
        (try simp only [show (k58).sz = 3 from rfl, Nat.mul_one, Nat.add_zero] at hf22_0)
        have hx22_1 := hcc22 1 _ rfl
        (try simp only [show (k58).sz = 3 from rfl, Nat.mul_one, Nat.add_zero] at hx22_1)
        have hf22_1 := hfr22 1
        (try simp only [show (k58).sz = 3 from rfl, Nat.mul_one, Nat.add_zero] at hf22_1)
        have hx22_2 := hcc22 2 _ rfl
        (try simp only [show (k58).sz = 3 from rfl, Nat.mul_one, Nat.add_zero] at hx22_2)
        have hf22_2 := hfr22 2
        (try simp only [show (k58).sz = 3 from rfl, Nat.mul_one, Nat.add_zero] at hf22_2)
        clear hcl22 hcc22 hfr22 hM22
        go_wp2_with (first | ((with_reducible refine gate_store (t := 58) (p := 48) rfl ?_); refine store_event (t := 58) (p := 48) (v := ?vo_w23) (w1 := (((wr.setCell ⟨go20, (x10_2 : Int).toNat * 3, none⟩ (.int .i64 9)).setCell ⟨go20, (x10_2 : Int).toNat * 3 + 1, none⟩ (.int .i64 9)).setCell ⟨go20, (x10_2 : Int).toNat * 3 + 2, none⟩ (.int .i64 9))) ?hg ?ho ?hn ?hr ?_; (case ho => rfl); (case hg => rfl); (case hn => rfl); (case hr => first | (go_simp; done) | (go_simp; rfl)); intro w23 hw; have hg : wr.grownBy w23 (some go20) := (by rw [hw]; exact HP22.2); have hp_ : Kd.R k58 58 w23 w.heap.size (fun _ => True) (.slice (some ⟨go20, 0, none⟩) x8_2.length co21) y677 := (by rw [hw, Ny677.out]; exact HP22.1); clear HP22; have n0_ := Aside0.mk (Kd.R_over' (v := (.slice (some ⟨go20, 0, none⟩) x8_2.length co21)) (by (with_reducible repeat (first | apply Kd.R_alloc | apply Kd.R_drewN | apply Kd.R_drew)); exact HO_3.out) (Kd.R_typed HO_8.out) (by decide) hg); have n1_ := Aside0.mk (Kd.R_over' (v := (.slice (some ⟨go20, 0, none⟩) x8_2.length co21)) (by (with_reducible repeat (first | apply Kd.R_alloc | apply Kd.R_drewN | apply Kd.R_drew)); exact HO_4.out) (Kd.R_typed HO_8.out) (by decide) hg); have n2_ := Aside0.mk (hp_); have n3_ := Aside0.mk ((by rw [hw]; exact lS (lS (lS (HB.out) GB20.out) GB20.out) GB20.out : Below w.heap.size w w23)); clear HO_3; clear HO_4; clear HO_8; clear HB; have HO_3 := n0_; have HO_4 := n1_; have HO_8 := n2_; have HB := n3_; clear n0_ n1_ n2_ n3_; clear hg hw hp_))
        go_roundg k2
        case measure => have := HK1.out; have := HK2.out; omega
        case rel => exact ⟨(y677), (wrap64 (x10_2 + 1)), (by first | rfl | (simp; done) | (simp [*]; done)), H', ⟨by have := HK1.out; have := HK2.out; omega⟩, ⟨by (with_reducible repeat (first | apply Kd.R_alloc | apply Kd.R_drewN | apply Kd.R_drew)); exact HO_3.out⟩, ⟨by (with_reducible repeat (first | apply Kd.R_alloc | apply Kd.R_drewN | apply Kd.R_drew)); exact HO_4.out⟩, ⟨by (with_reducible repeat (first | apply Kd.R_alloc | apply Kd.R_drewN | apply Kd.R_drew)); exact HO_8.out⟩, ⟨by repeat (first | (with_reducible first | exact HB.out | apply lA | apply lN | apply lD) | exact HB.out)⟩⟩
       ·rw [if_neg c19] at H
        exact absurd H (by simp)
      ·rw [if_neg c18] at H
       have c18b0 : decide (x10_2 < (x8_2.length : Int)) = false := decide_eq_false c18
       clear c18
       replace H := Option.bind_eq_some_iff.mp H
       obtain ⟨⟨t678, t679⟩, A240, H⟩ := H
       replace H : ((plane_Triangulate.f t662).bind fun bt682 => (if t669 = 0 then (if t679 = 0 then (if t674 = bt682.2 then ((L1_same.f k2 t662 t665).bind fun t686 => (if t686 = true then ((R1_Hull.f t665).bind fun t687 => ((L1_same.f k2 t678 t687).bind fun t690 => (L1_PlaneOwn.j2 k2 t665 t674 bt682.1 (!t690)))) else (L1_PlaneOwn.j2 k2 t665 t674 bt682.1 true))) else (L1_PlaneOwn.j2 k2 t665 t674 bt682.1 true)) else (L1_PlaneOwn.j2 k2 t665 t674 bt682.1 true)) else (L1_PlaneOwn.j2 k2 t665 t674 bt682.1 true))) = some r := H
       have A24 := Aside0.mk A240
       clear A240
       replace H := Option.bind_eq_some_iff.mp H
       obtain ⟨⟨t682, t683⟩, A250, H⟩ := H
       replace H : (if t669 = 0 then (if t679 = 0 then (if t674 = t683 then ((L1_same.f k2 t662 t665).bind fun t686 => (if t686 = true then ((R1_Hull.f t665).bind fun t687 => ((L1_same.f k2 t678 t687).bind fun t690 => (L1_PlaneOwn.j2 k2 t665 t674 t682 (!t690)))) else (L1_PlaneOwn.j2 k2 t665 t674 t682 true))) else (L1_PlaneOwn.j2 k2 t665 t674 t682 true)) else (L1_PlaneOwn.j2 k2 t665 t674 t682 true)) else (L1_PlaneOwn.j2 k2 t665 t674 t682 true)) = some r := H
       have A25 := Aside0.mk A250
       clear A250
       have HC26 := Aside0.mk H
       clear H
       obtain ⟨Ao27, co27, eo27⟩ := Kd.R_slice HO_8.out
       subst eo27
       go_upto_region 14 with (first | ((with_reducible refine gate_callee (f := 32) rfl ?_); refine goesL_ (some 51) rfl rfl Try.func32 (by kernel_rfl) rfl #[.slice Ao7 t662.length co7] rfl (by (try simp only [List.map_toArray, List.map_cons, List.map_nil]); first | done | rfl | (simp only [List.length_drop, List.length_take]; rfl)) ?_; (with_reducible refine (plane_Hull.calls _ _ t662 t678 t679 _ ?side1 ?side2 A24.out).mono ?_); (case side1 => repeat (first | exact (Kd.R_reads' HO_3.out).2.2 | (with_reducible refine Kd.C_alloc ?_ _) | (with_reducible refine Kd.C_drewN ?_ _) | (with_reducible refine Kd.C_drew ?_))); (case side2 => exact (Kd.R_reads' HO_3.out).2.1); rintro e w28 ⟨v680, rfl, ho0, hb⟩; refine ⟨_, rfl, ?_⟩; have n0_ := Aside0.mk (Kd.R_elder' (by (with_reducible repeat (first | apply Kd.R_alloc | apply Kd.R_drewN | apply Kd.R_drew)); exact HO_3.out) (Kd.R_base ho0) hb); have n1_ := Aside0.mk (Kd.R_elder' (by (with_reducible repeat (first | apply Kd.R_alloc | apply Kd.R_drewN | apply Kd.R_drew)); exact HO_4.out) (Kd.R_base ho0) hb); have n2_ := Aside0.mk (Kd.R_below (by (with_reducible repeat (first | apply Kd.R_alloc | apply Kd.R_drewN | apply Kd.R_drew)); exact HO_8.out) hb); have n3_ := Aside0.mk (Kd.R_lower (Kd.R_new' (Kd.R_new' ho0 (Kd.R_lt (by (with_reducible repeat (first | apply Kd.R_alloc | apply Kd.R_drewN | apply Kd.R_drew)); exact HO_3.out))) (Kd.R_lt (by (with_reducible repeat (first | apply Kd.R_alloc | apply Kd.R_drewN | apply Kd.R_drew)); exact HO_4.out))) (below_size lB)); have n4_ := Aside0.mk (below_step lB hb); clear HO_3; clear HO_4; clear HO_8; clear HB; have HO_3 := n0_; have HO_4 := n1_; have HO_8 := n2_; have HO681 := n3_; have HB := n4_; clear n0_ n1_ n2_ n3_ n4_; (try clear hb); (try clear hb2); (try clear hk); (try clear hi); (try clear ho0)) | ((with_reducible refine gate_callee (f := 50) rfl ?_); refine goesL_ (some 56) rfl rfl Try.func50 (by kernel_rfl) rfl #[.slice Ao7 t662.length co7] rfl (by (try simp only [List.map_toArray, List.map_cons, List.map_nil]); first | done | rfl | (simp only [List.length_drop, List.length_take]; rfl)) ?_; (with_reducible refine (plane_Triangulate.calls _ _ t662 t682 t683 _ ?side1 ?side2 A25.out).mono ?_); (case side1 => repeat (first | exact (Kd.R_reads' HO_3.out).2.2 | (with_reducible refine Kd.C_alloc ?_ _) | (with_reducible refine Kd.C_drewN ?_ _) | (with_reducible refine Kd.C_drew ?_))); (case side2 => exact (Kd.R_reads' HO_3.out).2.1); rintro e w29 ⟨v684, rfl, ho0, hb⟩; refine ⟨_, rfl, ?_⟩; have n0_ := Aside0.mk (Kd.R_below (by (with_reducible repeat (first | apply Kd.R_alloc | apply Kd.R_drewN | apply Kd.R_drew)); exact HO_3.out) hb); have n1_ := Aside0.mk (Kd.R_below (by (with_reducible repeat (first | apply Kd.R_alloc | apply Kd.R_drewN | apply Kd.R_drew)); exact HO_4.out) hb); have n2_ := Aside0.mk (Kd.R_elder' (by (with_reducible repeat (first | apply Kd.R_alloc | apply Kd.R_drewN | apply Kd.R_drew)); exact HO_8.out) (Kd.R_base ho0) hb); have n3_ := Aside0.mk (Kd.R_below (by (with_reducible repeat (first | apply Kd.R_alloc | apply Kd.R_drewN | apply Kd.R_drew)); exact HO681.out) hb); have n4_ := Aside0.mk (Kd.R_lower (Kd.R_new' ho0 (Kd.R_lt (by (with_reducible repeat (first | apply Kd.R_alloc | apply Kd.R_drewN | apply Kd.R_drew)); exact HO_8.out))) (below_size lB)); have n5_ := Aside0.mk (below_step lB hb); clear HO_3; clear HO_4; clear HO_8; clear HO681; clear HB; have HO_3 := n0_; have HO_4 := n1_; have HO_8 := n2_; have HO681 := n3_; have HO685 := n4_; have HB := n5_; clear n0_ n1_ n2_ n3_ n4_ n5_; (try clear hb); (try clear hb2); (try clear hk); (try clear hi); (try clear ho0)))
       (try simp only [Act.put, sA, sB, sC])
       go_cut [82] (fun v82 wc => ∃ (kq : Nat) (x82_25 : Bool), v82 = .bool x82_25 ∧ Aside0 (L1_PlaneOwn.j2 kq t665 t674 t682 x82_25 = some r) ∧ Aside0 (kq ≤ k2) ∧ Aside0 (Kd.R k31 31 wc w.heap.size (fun _ => True) v666 t665) ∧ Aside0 (Kd.R k58 58 wc w.heap.size (fun _ => True) v684 t682) ∧ Aside0 (Below w.heap.size w wc))
       case first =>
        have H := HC26.out
        clear HC26
        by_cases c30 : t669 = 0
        rw [if_pos c30] at H
        have c30b0 : (t669 == 0) = true := beq_iff_eq.mpr c30
        have c30b1 : (t669 != 0) = false := bne_eq_false_iff_eq.mpr c30
        clear c30
        (first | rw [c30b0] | (simp only [i64_w, i32_w]; rw [c30b0]) | skip)
        by_cases c31 : t679 = 0
        rw [if_pos c31] at H
        have c31b0 : (t679 == 0) = true := beq_iff_eq.mpr c31
        have c31b1 : (t679 != 0) = false := bne_eq_false_iff_eq.mpr c31
        clear c31
        by_cases c32 : t674 = t683
        rw [if_pos c32] at H
        have c32b0 : (t674 == t683) = true := beq_iff_eq.mpr c32
        have c32b1 : (t674 != t683) = false := bne_eq_false_iff_eq.mpr c32
        clear c32
        replace H := Option.bind_eq_some_iff.mp H
        obtain ⟨t686, A330, H⟩ := H
        replace H : (if t686 = true then ((R1_Hull.f t665).bind fun t687 => ((L1_same.f k2 t678 t687).bind fun t690 => (L1_PlaneOwn.j2 k2 t665 t674 t682 (!t690)))) else (L1_PlaneOwn.j2 k2 t665 t674 t682 true)) = some r := H
        have A33 := Aside0.mk A330
        clear A330
        by_cases c34 : t686 = true
        subst c34
        have H1 : ((R1_Hull.f t665).bind fun t687 => ((L1_same.f k2 t678 t687).bind fun t690 => (L1_PlaneOwn.j2 k2 t665 t674 t682 (!t690)))) = some r := by rw [if_pos rfl] at H; exact H
        clear H
        have H := H1
        clear H1
        replace H := Option.bind_eq_some_iff.mp H
        obtain ⟨t687, A350, H⟩ := H
        replace H : ((L1_same.f k2 t678 t687).bind fun t690 => (L1_PlaneOwn.j2 k2 t665 t674 t682 (!t690))) = some r := H
        have A35 := Aside0.mk A350
        clear A350
        replace H := Option.bind_eq_some_iff.mp H
        obtain ⟨t690, A360, H⟩ := H
        replace H : (L1_PlaneOwn.j2 k2 t665 t674 t682 (!t690)) = some r := H
        have A36 := Aside0.mk A360
        clear A360
        have H' := Aside0.mk H
        clear H
        obtain ⟨Ao37, co37, eo37⟩ := Kd.R_slice HO_4.out
        subst eo37
        rotate_left 1
        replace c34 := Bool.eq_false_iff.mpr c34
        subst c34
        have H1 : (L1_PlaneOwn.j2 k2 t665 t674 t682 true) = some r := by rw [if_neg (show ¬ (false = true) by decide)] at H; exact H
        clear H
        have H := H1
        clear H1
        have H' := Aside0.mk H
        clear H
        obtain ⟨Ao41, co41, eo41⟩ := Kd.R_slice HO_4.out
        subst eo41
        rotate_left 1
        rw [if_neg c32] at H
        have c32b0 : (t674 == t683) = false := beq_eq_false_iff_ne.mpr c32
        have c32b1 : (t674 != t683) = true := bne_iff_ne.mpr c32
        have H' := Aside0.mk H
        clear H
        rotate_left 1
        rw [if_neg c31] at H
        have c31b0 : (t679 == 0) = false := beq_eq_false_iff_ne.mpr c31
        have c31b1 : (t679 != 0) = true := bne_iff_ne.mpr c31
        have H' := Aside0.mk H
        clear H
        rotate_left 1
        rw [if_neg c30] at H
        have c30b0 : (t669 == 0) = false := beq_eq_false_iff_ne.mpr c30
        have c30b1 : (t669 != 0) = true := bne_iff_ne.mpr c30
        (first | rw [c30b0] | (simp only [i64_w, i32_w]; rw [c30b0]) | skip)
        have H' := Aside0.mk H
        clear H
        all_goals go_wp2_with (first | (go_at_call 34; (with_reducible refine (L1_same.calls k2 _ _ t662 _ _ t665 false _ ?side1 ?side2 ?side3 ?side4 A33.out).mono ?_); (case side1 => repeat (first | exact (Kd.R_reads' HO_3.out).2.2 | (with_reducible refine Kd.C_alloc ?_ _) | (with_reducible refine Kd.C_drewN ?_ _) | (with_reducible refine Kd.C_drew ?_))); (case side2 => exact (Kd.R_reads' HO_3.out).2.1); (case side3 => repeat (first | exact (Kd.R_reads' HO_4.out).2.2 | (with_reducible refine Kd.C_alloc ?_ _) | (with_reducible refine Kd.C_drewN ?_ _) | (with_reducible refine Kd.C_drew ?_))); (case side4 => exact (Kd.R_reads' HO_4.out).2.1); rintro e w' ⟨rfl, ⟨nd, rfl⟩⟩) | (go_at_call 34; (with_reducible refine (L1_same.calls k2 _ _ t662 _ _ t665 true _ ?side1 ?side2 ?side3 ?side4 A33.out).mono ?_); (case side1 => repeat (first | exact (Kd.R_reads' HO_3.out).2.2 | (with_reducible refine Kd.C_alloc ?_ _) | (with_reducible refine Kd.C_drewN ?_ _) | (with_reducible refine Kd.C_drew ?_))); (case side2 => exact (Kd.R_reads' HO_3.out).2.1); (case side3 => repeat (first | exact (Kd.R_reads' HO_4.out).2.2 | (with_reducible refine Kd.C_alloc ?_ _) | (with_reducible refine Kd.C_drewN ?_ _) | (with_reducible refine Kd.C_drew ?_))); (case side4 => exact (Kd.R_reads' HO_4.out).2.1); rintro e w' ⟨rfl, ⟨nd, rfl⟩⟩) | (go_at_call 35; (with_reducible refine (R1_Hull.calls _ _ t665 t687 _ ?side1 ?side2 A35.out).mono ?_); (case side1 => repeat (first | exact (Kd.R_reads' HO_4.out).2.2 | (with_reducible refine Kd.C_alloc ?_ _) | (with_reducible refine Kd.C_drewN ?_ _) | (with_reducible refine Kd.C_drew ?_))); (case side2 => exact (Kd.R_reads' HO_4.out).2.1); rintro e wz0 ⟨v688, rfl, hoz1, hb⟩; have n0_ := Aside0.mk (Kd.R_elder' (by (with_reducible repeat (first | apply Kd.R_alloc | apply Kd.R_drewN | apply Kd.R_drew)); exact HO_3.out) (Kd.R_base hoz1) hb); have n1_ := Aside0.mk (Kd.R_elder' (by (with_reducible repeat (first | apply Kd.R_alloc | apply Kd.R_drewN | apply Kd.R_drew)); exact HO_4.out) (Kd.R_base hoz1) hb); have n2_ := Aside0.mk (Kd.R_below (by (with_reducible repeat (first | apply Kd.R_alloc | apply Kd.R_drewN | apply Kd.R_drew)); exact HO_8.out) hb); have n3_ := Aside0.mk (Kd.R_elder' (by (with_reducible repeat (first | apply Kd.R_alloc | apply Kd.R_drewN | apply Kd.R_drew)); exact HO681.out) (Kd.R_base hoz1) hb); have n4_ := Aside0.mk (Kd.R_below (by (with_reducible repeat (first | apply Kd.R_alloc | apply Kd.R_drewN | apply Kd.R_drew)); exact HO685.out) hb); have n5_ := Aside0.mk (Kd.R_lower (Kd.R_new' (Kd.R_new' (Kd.R_new' hoz1 (Kd.R_lt (by (with_reducible repeat (first | apply Kd.R_alloc | apply Kd.R_drewN | apply Kd.R_drew)); exact HO_3.out))) (Kd.R_lt (by (with_reducible repeat (first | apply Kd.R_alloc | apply Kd.R_drewN | apply Kd.R_drew)); exact HO_4.out))) (Kd.R_lt (by (with_reducible repeat (first | apply Kd.R_alloc | apply Kd.R_drewN | apply Kd.R_drew)); exact HO681.out))) (below_size lB)); have n6_ := Aside0.mk (below_step lB hb); clear HO_3; clear HO_4; clear HO_8; clear HO681; clear HO685; clear HB; have HO_3 := n0_; have HO_4 := n1_; have HO_8 := n2_; have HO681 := n3_; have HO685 := n4_; have HO689 := n5_; have HB := n6_; clear n0_ n1_ n2_ n3_ n4_ n5_ n6_; (try clear hb); (try clear hb2); (try clear hk); (try clear hi); (try clear hoz1); obtain ⟨Aoz2, coz3, eoz4⟩ := Kd.R_slice HO681.out; subst eoz4; obtain ⟨Aoz5, coz6, eoz7⟩ := Kd.R_slice HO689.out; subst eoz7) | (go_at_call 34; (with_reducible refine (L1_same.calls k2 _ _ t678 _ _ t687 t690 _ ?side1 ?side2 ?side3 ?side4 A36.out).mono ?_); (case side1 => repeat (first | exact (Kd.R_reads' HO681.out).2.2 | (with_reducible refine Kd.C_alloc ?_ _) | (with_reducible refine Kd.C_drewN ?_ _) | (with_reducible refine Kd.C_drew ?_))); (case side2 => exact (Kd.R_reads' HO681.out).2.1); (case side3 => repeat (first | exact (Kd.R_reads' HO689.out).2.2 | (with_reducible refine Kd.C_alloc ?_ _) | (with_reducible refine Kd.C_drewN ?_ _) | (with_reducible refine Kd.C_drew ?_))); (case side4 => exact (Kd.R_reads' HO689.out).2.1); rintro e w' ⟨rfl, ⟨nd, rfl⟩⟩))
        all_goals first
          | (go_meet
             case rel => exact ⟨_, (!t690), (by first | rfl | (simp; done) | (simp [*]; done)), H', ⟨by have := HK1.out; have := HK2.out; first | omega | exact Nat.le_refl _⟩, ⟨by (with_reducible repeat (first | apply Kd.R_alloc | apply Kd.R_drewN | apply Kd.R_drew)); exact Kd.R_mono HO_4.out (fun _ hk => trivial)⟩, ⟨by (with_reducible repeat (first | apply Kd.R_alloc | apply Kd.R_drewN | apply Kd.R_drew)); exact Kd.R_mono HO685.out (fun _ hk => trivial)⟩, ⟨by repeat (first | (with_reducible first | exact HB.out | apply lA | apply lN | apply lD) | exact HB.out)⟩⟩)
          | (go_meet
             case rel => exact ⟨_, (true), (by first | rfl | (simp; done) | (simp [*]; done)), H', ⟨by have := HK1.out; have := HK2.out; first | omega | exact Nat.le_refl _⟩, ⟨by (with_reducible repeat (first | apply Kd.R_alloc | apply Kd.R_drewN | apply Kd.R_drew)); exact Kd.R_mono HO_4.out (fun _ hk => trivial)⟩, ⟨by (with_reducible repeat (first | apply Kd.R_alloc | apply Kd.R_drewN | apply Kd.R_drew)); exact Kd.R_mono HO685.out (fun _ hk => trivial)⟩, ⟨by repeat (first | (with_reducible first | exact HB.out | apply lA | apply lN | apply lD) | exact HB.out)⟩⟩)
       case rest =>
        clear HC26
        try clear c1
        try clear p1
        try clear q1
        try clear hx1
        try clear hf1
        try clear c2
        try clear p2
        try clear q2
        try clear hx2
        try clear hf2
        try clear c3
        try clear c5
        try clear p6
        try clear c9
        try clear c9b0
        try clear c10
        try clear c10b0
        try clear c11
        try clear p11
        try clear q11
        try clear hx11
        try clear hf11
        try clear c13
        try clear hx13
        try clear hf13
        try clear c18
        try clear c18b0
        try clear c19
        try clear c19b0
        try clear c20
        try clear p20
        try clear q20
        try clear hx20
        try clear hf20
        try clear c22
        try clear hx22
        try clear hf22
        try clear c30
        try clear c30b0
        try clear c30b1
        try clear c31
        try clear c31b0
        try clear c31b1
        try clear c32
        try clear c32b0
        try clear c32b1
        try clear c34
        try clear c36
        try clear hx11_0
        try clear hx11_1
        try clear hx13_0
        try clear hx13_1
        try clear hx20_0
        try clear hx20_1
        try clear hx20_2
        try clear hx22_0
        try clear hx22_1
        try clear hx22_2
        try clear p1
        try clear p11
        try clear p2
        try clear p20
        try clear p6
        try clear q1
        try clear q11
        try clear q20
        obtain ⟨kq, x82_25, rfl, HA, HJ25, HO_4, HO_13, HB⟩ := hcut
        cases kq with
        | zero => exact absurd HA.out (by simp [L1_PlaneOwn.j2])
        | succ kj25 =>
         have H := HA.out
         clear HA
         simp only [L1_PlaneOwn.j2] at H
         by_cases c42 : x82_25 = true
         subst c42
         have H1 : (some false) = some r := by rw [if_pos rfl] at H; exact H
         clear H
         have H := H1
         clear H1
         obtain rfl := Option.some.inj H
         rotate_left 1
         replace c42 := Bool.eq_false_iff.mpr c42
         subst c42
         have H1 : (if t674 = 0 then ((R1_Covers.f t665 t682).bind fun t691 => (if t691 = true then ((L1_awake.f kj25).bind fun t692 => (some t692)) else (some false))) else ((L1_awake.f kj25).bind fun t693 => (some t693))) = some r := by rw [if_neg (show ¬ (false = true) by decide)] at H; exact H
         clear H
         have H := H1
         clear H1
         by_cases c43 : t674 = 0
         rw [if_pos c43] at H
         have c43b0 : (t674 == 0) = true := beq_iff_eq.mpr c43
         have c43b1 : (t674 != 0) = false := bne_eq_false_iff_eq.mpr c43
         clear c43
         replace H := Option.bind_eq_some_iff.mp H
         obtain ⟨t691, A440, H⟩ := H
         replace H : (if t691 = true then ((L1_awake.f kj25).bind fun t692 => (some t692)) else (some false)) = some r := H
         have A44 := Aside0.mk A440
         clear A440
         by_cases c45 : t691 = true
         subst c45
         have H1 : ((L1_awake.f kj25).bind fun t692 => (some t692)) = some r := by rw [if_pos rfl] at H; exact H
         clear H
         have H := H1
         clear H1
         replace H := Option.bind_eq_some_iff.mp H
         obtain ⟨t692, A460, H⟩ := H
         replace H : (some t692) = some r := H
         have A46 := Aside0.mk A460
         clear A460
         obtain rfl := Option.some.inj H
         obtain ⟨Ao47, co47, eo47⟩ := Kd.R_slice HO_4.out
         subst eo47
         obtain ⟨Ao48, co48, eo48⟩ := Kd.R_slice HO_13.out
         subst eo48
         rotate_left 1
         replace c45 := Bool.eq_false_iff.mpr c45
         subst c45
         have H1 : (some false) = some r := by rw [if_neg (show ¬ (false = true) by decide)] at H; exact H
         clear H
         have H := H1
         clear H1
         obtain rfl := Option.some.inj H
         obtain ⟨Ao51, co51, eo51⟩ := Kd.R_slice HO_4.out
         subst eo51
         obtain ⟨Ao52, co52, eo52⟩ := Kd.R_slice HO_13.out
         subst eo52
         rotate_left 1
         rw [if_neg c43] at H
         have c43b0 : (t674 == 0) = false := beq_eq_false_iff_ne.mpr c43
         have c43b1 : (t674 != 0) = true := bne_iff_ne.mpr c43
         replace H := Option.bind_eq_some_iff.mp H
         obtain ⟨t693, A540, H⟩ := H
         replace H : (some t693) = some r := H
         have A54 := Aside0.mk A540
         clear A540
         obtain rfl := Option.some.inj H
         all_goals go_wp2_with (first | (go_at_call 23; (with_reducible refine (L1_awake.calls kj25  t693 _ A54.out).mono ?_); rintro e wz0 ⟨rfl, hb⟩; have n0_ := Aside0.mk (Kd.R_below (by (with_reducible repeat (first | apply Kd.R_alloc | apply Kd.R_drewN | apply Kd.R_drew)); exact HO_4.out) hb); have n1_ := Aside0.mk (Kd.R_below (by (with_reducible repeat (first | apply Kd.R_alloc | apply Kd.R_drewN | apply Kd.R_drew)); exact HO_13.out) hb); have n2_ := Aside0.mk (below_step lB hb); clear HO_4; clear HO_13; clear HB; have HO_4 := n0_; have HO_13 := n1_; have HB := n2_; clear n0_ n1_ n2_; (try clear hb); (try clear hb2); (try clear hk); (try clear hi)) | (go_at_call 49; (with_reducible refine (R1_Covers.calls _ _ t665 _ _ t682 false _ ?side1 ?side2 ?side3 ?side4 A44.out).mono ?_); (case side1 => repeat (first | exact (Kd.R_reads' HO_4.out).2.2 | (with_reducible refine Kd.C_alloc ?_ _) | (with_reducible refine Kd.C_drewN ?_ _) | (with_reducible refine Kd.C_drew ?_))); (case side2 => exact (Kd.R_reads' HO_4.out).2.1); (case side3 => repeat (first | exact (Kd.R_reads' HO_13.out).2.2 | (with_reducible refine Kd.C_alloc ?_ _) | (with_reducible refine Kd.C_drewN ?_ _) | (with_reducible refine Kd.C_drew ?_))); (case side4 => exact (Kd.R_reads' HO_13.out).2.1); rintro e wz0 ⟨rfl, hb⟩; have n0_ := Aside0.mk (Kd.R_below (by (with_reducible repeat (first | apply Kd.R_alloc | apply Kd.R_drewN | apply Kd.R_drew)); exact HO_4.out) hb); have n1_ := Aside0.mk (Kd.R_below (by (with_reducible repeat (first | apply Kd.R_alloc | apply Kd.R_drewN | apply Kd.R_drew)); exact HO_13.out) hb); have n2_ := Aside0.mk (below_step lB hb); clear HO_4; clear HO_13; clear HB; have HO_4 := n0_; have HO_13 := n1_; have HB := n2_; clear n0_ n1_ n2_; (try clear hb); (try clear hb2); (try clear hk); (try clear hi)) | (go_at_call 49; (with_reducible refine (R1_Covers.calls _ _ t665 _ _ t682 true _ ?side1 ?side2 ?side3 ?side4 A44.out).mono ?_); (case side1 => repeat (first | exact (Kd.R_reads' HO_4.out).2.2 | (with_reducible refine Kd.C_alloc ?_ _) | (with_reducible refine Kd.C_drewN ?_ _) | (with_reducible refine Kd.C_drew ?_))); (case side2 => exact (Kd.R_reads' HO_4.out).2.1); (case side3 => repeat (first | exact (Kd.R_reads' HO_13.out).2.2 | (with_reducible refine Kd.C_alloc ?_ _) | (with_reducible refine Kd.C_drewN ?_ _) | (with_reducible refine Kd.C_drew ?_))); (case side4 => exact (Kd.R_reads' HO_13.out).2.1); rintro e wz0 ⟨rfl, hb⟩; have n0_ := Aside0.mk (Kd.R_below (by (with_reducible repeat (first | apply Kd.R_alloc | apply Kd.R_drewN | apply Kd.R_drew)); exact HO_4.out) hb); have n1_ := Aside0.mk (Kd.R_below (by (with_reducible repeat (first | apply Kd.R_alloc | apply Kd.R_drewN | apply Kd.R_drew)); exact HO_13.out) hb); have n2_ := Aside0.mk (below_step lB hb); clear HO_4; clear HO_13; clear HB; have HO_4 := n0_; have HO_13 := n1_; have HB := n2_; clear n0_ n1_ n2_; (try clear hb); (try clear hb2); (try clear hk); (try clear hi)) | (go_at_call 23; (with_reducible refine (L1_awake.calls kj25  t692 _ A46.out).mono ?_); rintro e wz1 ⟨rfl, hb⟩; have n0_ := Aside0.mk (Kd.R_below (by (with_reducible repeat (first | apply Kd.R_alloc | apply Kd.R_drewN | apply Kd.R_drew)); exact HO_4.out) hb); have n1_ := Aside0.mk (Kd.R_below (by (with_reducible repeat (first | apply Kd.R_alloc | apply Kd.R_drewN | apply Kd.R_drew)); exact HO_13.out) hb); have n2_ := Aside0.mk (below_step lB hb); clear HO_4; clear HO_13; clear HB; have HO_4 := n0_; have HO_13 := n1_; have HB := n2_; clear n0_ n1_ n2_; (try clear hb); (try clear hb2); (try clear hk); (try clear hi)))
         all_goals first
           | (go_ret
              exact en)

end Go.Proofs.Ythaklbjcjoolcaa.P
namespace Go.Proofs.Ythaklbjcjoolcaa.Pure
open Go.RowKit Go.Proofs.Ythaklbjcjoolcaa.P YthaklbjcjoolcaaW.PrintWords YthaklbjcjoolcaaW.PrintLast
theorem own_l1 (t : List S31) (e1 e2 : Int) (r : Bool) : ∀ (n : Nat) (i : Nat) (ts : List S58), ts.length - i = n → i ≤ ts.length → ts.length < 9223372036854775807 →
  (∀ ts' : List S58, ts'.length = ts.length → Ev (fun k => L1_PlaneOwn.l1 k t t e1 ts' e2 (ts.length : Int)) r) → Ev (fun k => L1_PlaneOwn.l1 k t t e1 ts e2 (i : Int)) r
 | 0, i, ts, hn, hi, hs, h => by
  obtain rfl : i = ts.length := by omega
  exact h ts rfl
 | n + 1, i, ts, hn, hi, hs, h => by
  have ej : wrap64 ((i : Int) + 1) = ((i + 1 : Nat) : Int) := w64i (x := (i : Int) + 1) (by omega) (by omega)
  have hl : (ts.set i ⟨9, 9, 9⟩).length = ts.length := List.length_set
  have ih := own_l1 t e1 e2 r n (i + 1) (ts.set i ⟨9, 9, 9⟩) (by omega) (by omega) (by omega) (fun ts' h' => by rw [hl]; exact h ts' (by rw [h', hl]))
  refine Ev.step (fun k => ?_) ih
  rw [L1_PlaneOwn.l1, if_pos (by omega), if_pos (by omega), ej, Int.toNat_natCast]
theorem own_l0 (t : List S31) (e1 : Int) (r : Bool) : ∀ (n : Nat) (i : Nat) (hs : List S31), hs.length - i = n → i ≤ hs.length → hs.length < 9223372036854775807 →
  (∀ hs' : List S31, hs'.length = hs.length → Ev (fun k => L1_PlaneOwn.l0 k t t hs' e1 (hs.length : Int)) r) → Ev (fun k => L1_PlaneOwn.l0 k t t hs e1 (i : Int)) r
 | 0, i, ts, hn, hi, hs, h => by
  obtain rfl : i = ts.length := by omega
  exact h ts rfl
 | n + 1, i, ts, hn, hi, hs, h => by
  have ej : wrap64 ((i : Int) + 1) = ((i + 1 : Nat) : Int) := w64i (x := (i : Int) + 1) (by omega) (by omega)
  have hl : (ts.set i ⟨7, 7⟩).length = ts.length := List.length_set
  have ih := own_l0 t e1 r n (i + 1) (ts.set i ⟨7, 7⟩) (by omega) (by omega) (by omega) (fun ts' h' => by rw [hl]; exact h ts' (by rw [h', hl]))
  refine Ev.step (fun k => ?_) ih
  rw [L1_PlaneOwn.l0, if_pos (by omega), if_pos (by omega), ej, Int.toNat_natCast]
theorem tri_len (t : List S31) : (triT t).length ≤ t.length ∨ simpleS t = false := by
 by_cases h : simpleS t = true
 ·have := (tri_fact h).1.es.len
  rw [List.length_map, List.length_map] at this
  exact .inl (by omega)
 ·rw [Bool.not_eq_true] at h; exact .inr h
theorem PlaneOwn (l : List S31) (_ : ∀ q ∈ l, (Lit.int .i64 q.f0).wf = true ∧ (Lit.int .i64 q.f1).wf = true) : ∃ k, L1_PlaneOwn.f k l = some true := by
 refine Ev.rounds ?_
 unfold L1_PlaneOwn.f
 obtain ⟨t, ht, h1, h2, hok⟩ := gset_ev l 30 (by omega) (by omega)
 refine Ev.bind ht (Ev.bind ht ?_)
 have hs := isSet_of h1 (by omega) hok
 have hcl := cornersS_len t
 have hR : R1_Hull.f t = some (cornersS t) := by unfold R1_Hull.f; rw [if_pos ⟨h1, by omega, hok⟩]
 refine Ev.bind (ev_is (hull_is hs)) ?_
 refine own_l0 t 0 true ((cornersS t).length - 0) 0 (cornersS t) rfl (by omega) (by omega) (fun hs' hl' => ?_)
 have key : ∀ (r1 : List S58) (r2 : Int), plane_Triangulate.f t = some (r1, r2) → r1.length < 9223372036854775807 → (r2 = 0 → R1_Covers.f t r1 = some true) →
   Ev (fun k => (plane_Triangulate.f t).bind fun bt673 => L1_PlaneOwn.l1 k t t 0 bt673.1 bt673.2 0) true := by
  intro r1 r2 hT hlr hC
  refine Ev.bind (ev_is hT) ?_
  refine own_l1 t 0 r2 true (r1.length - 0) 0 r1 rfl (by omega) hlr (fun ts' hl'' => ?_)
  have hj : Ev (fun k => L1_PlaneOwn.j2 k t r2 r1 false) true := by
   refine Ev.step (f := fun k => if r2 = 0 then ((R1_Covers.f t r1).bind fun t691 => (if t691 = true then ((L1_awake.f k).bind fun t692 => (some t692)) else (some false))) else ((L1_awake.f k).bind fun t693 => (some t693))) (fun k => ?_) ?_
   ·rw [L1_PlaneOwn.j2, if_neg (by decide)]
   ·by_cases h0 : r2 = 0
    ·exact ev_pos h0 (Ev.bind (ev_is (hC h0)) (ev_pos rfl awake_bind))
    ·exact ev_neg h0 awake_bind
  refine Ev.step (f := fun k => (L1_same.f k t t).bind fun t686 => (if t686 = true then ((R1_Hull.f t).bind fun t687 => ((L1_same.f k (cornersS t) t687).bind fun t690 => (L1_PlaneOwn.j2 k t r2 r1 (!t690)))) else (L1_PlaneOwn.j2 k t r2 r1 true))) (fun k => ?_) ?_
  ·rw [L1_PlaneOwn.l1, if_neg (by omega), hull_is hs, hT]
   simp only [Option.bind_some, if_true]
  ·exact Ev.bind (same_ev t (by omega)) (ev_pos rfl (Ev.bind (ev_is hR) (Ev.bind (same_ev (cornersS t) (by omega)) hj)))
 have hstep : ∀ k, L1_PlaneOwn.l0 (k + 1) t t hs' 0 ((cornersS t).length : Int) = (plane_Triangulate.f t).bind fun bt673 => L1_PlaneOwn.l1 k t t 0 bt673.1 bt673.2 0 := by
  intro k
  rw [L1_PlaneOwn.l0, if_neg (by omega)]
 refine Ev.step (f := fun k => (plane_Triangulate.f t).bind fun bt673 => L1_PlaneOwn.l1 k t t 0 bt673.1 bt673.2 0) hstep ?_
 by_cases hsim : simpleS t = true
 ·refine key (triT t) 0 (by unfold plane_Triangulate.f; rw [if_pos hsim]) (by rcases tri_len t with h | h; omega; rw [h] at hsim; cases hsim) (fun _ => ?_)
  unfold R1_Covers.f
  rw [if_pos hsim, tri_refcov hsim]
 ·exact key [] 2 (by unfold plane_Triangulate.f; rw [if_neg hsim]) (by simp) (fun h => absurd h (by decide))
end Go.Proofs.Ythaklbjcjoolcaa.Pure
