/- Proved here: what functions that the law reaches compute, and plain laws of that. Put together by a program; a part was printed by one (wip/printplus.py). -/
import Derived.Test.YtmnhcbaocoofoaaDoorBQ11
import Derived.Test.YtmnhcbaocoofoaaDoorBQ16
import Derived.Test.YtmnhcbaocoofoaaDoorBQ15
set_option linter.unusedVariables false
set_option linter.unusedSimpArgs false
namespace Go.Proofs.YtmnhcbaocoofoaaDoor.P
open Go.RowKit YtmnhcbaocoofoaaDoorW.PrintWords YtmnhcbaocoofoaaDoorW.PrintLast YtmnhcbaocoofoaaDoorW.PrintMore
attribute [local go_sem] max2_int min2_int max_two min_two max_three min_three max_four min_four

theorem eqA40 (d : Nat) (w : World) (x0 y0 : Int) (x1 y1 : Int) (x2 y2 : Int) :
    (Op.equalIn (d + 2) 40 (.agg #[.int .i64 x0, .int .i64 x1, .int .i64 x2]) (.agg #[.int .i64 y0, .int .i64 y1, .int .i64 y2])).run Tryd.prog w = .ok (x0 == y0 && (x1 == y1 && (x2 == y2))) w := by
  refine eqA_of Tryd.underlying40 (by kernel_rfl) ?_
  refine eqf_cons (by rfl) (by go_simp; rfl) (by go_simp; rfl) (by go_simp) ?_
  refine eqf_cons (by rfl) (by go_simp; rfl) (by go_simp; rfl) (by go_simp) ?_
  exact eqf_last (by rfl) (by go_simp; rfl) (by go_simp; rfl) (by go_simp)

attribute [local go_sem high] eqA40
mutual
noncomputable def L4_BenchOwn.l0 : Nat → Int → List (S40) → List (S40) → Int → Int → Bool → List (S50) → List Int → List (S34) → Option (Bool)
 | 0, _, _, _, _, _, _, _, _, _ => none
 | k + 1, x5, x6, x7, x9, x10, x301000, x301001, x301002, x301003 => if x10 < (x301001.length : Int) then (if 0 ≤ x10 then (L4_BenchOwn.l0 k x5 x6 x7 x9 (wrap64 (x10 + 1)) x301000 (x301001.set (x10 : Int).toNat (⟨(-1), 0, 0, 0⟩ : S50)) x301002 x301003) else (none)) else (L4_BenchOwn.l1 k x5 x6 x7 x9 0 x301000 x301001 x301002 x301003)
noncomputable def L4_BenchOwn.l1 : Nat → Int → List (S40) → List (S40) → Int → Int → Bool → List (S50) → List Int → List (S34) → Option (Bool)
 | 0, _, _, _, _, _, _, _, _, _ => none
 | k + 1, x5, x6, x7, x9, x11, x301000, x301001, x301002, x301003 => if x11 < (x301003.length : Int) then (if 0 ≤ x11 then (L4_BenchOwn.l1 k x5 x6 x7 x9 (wrap64 (x11 + 1)) x301000 x301001 x301002 (x301003.set (x11 : Int).toNat (⟨(-1), (-1)⟩ : S34))) else (none)) else (L4_BenchOwn.l2 k x5 x6 x7 x9 0 x301000 x301001 x301002 x301003)
noncomputable def L4_BenchOwn.l2 : Nat → Int → List (S40) → List (S40) → Int → Int → Bool → List (S50) → List Int → List (S34) → Option (Bool)
 | 0, _, _, _, _, _, _, _, _, _ => none
 | k + 1, x5, x6, x7, x9, x12, x301000, x301001, x301002, x301003 => if x12 < (x301002.length : Int) then (if 0 ≤ x12 then (L4_BenchOwn.l2 k x5 x6 x7 x9 (wrap64 (x12 + 1)) x301000 x301001 (x301002.set (x12 : Int).toNat (-1)) x301003) else (none)) else ((bench_Plan.f x5 x6).bind fun bt304 => (L4_BenchOwn.l3 k x5 x6 x7 x9 bt304.2.2.2.2 0 x301000 x301001 x301002 x301003 bt304.1 bt304.2.1 bt304.2.2.1 bt304.2.2.2.1))
noncomputable def L4_BenchOwn.l3 : Nat → Int → List (S40) → List (S40) → Int → Int → Int → Bool → List (S50) → List Int → List (S34) → Bool → List (S50) → List Int → List (S34) → Option (Bool)
 | 0, _, _, _, _, _, _, _, _, _, _, _, _, _, _ => none
 | k + 1, x5, x6, x7, x9, x14, x15, x301000, x301001, x301002, x301003, x316000, x316001, x316002, x316003 => if x15 < (x6.length : Int) then (if 0 ≤ x15 then (if x15 < (x7.length : Int) then (if (!(((rd_T40 x6 x15).f0) == ((rd_T40 x7 x15).f0)) || (!(((rd_T40 x6 x15).f1) == ((rd_T40 x7 x15).f1)) || (!(((rd_T40 x6 x15).f2) == ((rd_T40 x7 x15).f2))))) = true then (some false) else (L4_BenchOwn.l3 k x5 x6 x7 x9 x14 (wrap64 (x15 + 1)) x301000 x301001 x301002 x301003 x316000 x316001 x316002 x316003)) else (none)) else (none)) else (if x9 = 0 then (if x14 = 0 then (if (x301000 == x316000) = true then ((R4_Right.f x5 x7 x316000 x316001 x316002 x316003).bind fun t318 => (if t318 = true then ((L4_awake.f).bind fun t319 => (some t319)) else (some false))) else (some false)) else (some false)) else (some false))
end
noncomputable def L4_BenchOwn.f (k : Nat) (a0 : Int) (l1 : List (S40)) : Option (Bool) := (L4_tame.f k a0 l1 10).bind fun bt282 => ((L4_jobs.f bt282.2 10).bind fun t286 => ((bench_Plan.f bt282.1 bt282.2).bind fun bt289 => (L4_BenchOwn.l0 k bt282.1 bt282.2 t286 bt289.2.2.2.2 0 bt289.1 bt289.2.1 bt289.2.2.1 bt289.2.2.2.1)))
theorem L4_BenchOwn.mono_l : ∀ k, (∀ y0 y1 y2 y3 y4 y5 y6 y7 y8, LeO (L4_BenchOwn.l0 k y0 y1 y2 y3 y4 y5 y6 y7 y8) (L4_BenchOwn.l0 (k + 1) y0 y1 y2 y3 y4 y5 y6 y7 y8)) ∧ (∀ y0 y1 y2 y3 y4 y5 y6 y7 y8, LeO (L4_BenchOwn.l1 k y0 y1 y2 y3 y4 y5 y6 y7 y8) (L4_BenchOwn.l1 (k + 1) y0 y1 y2 y3 y4 y5 y6 y7 y8)) ∧ (∀ y0 y1 y2 y3 y4 y5 y6 y7 y8, LeO (L4_BenchOwn.l2 k y0 y1 y2 y3 y4 y5 y6 y7 y8) (L4_BenchOwn.l2 (k + 1) y0 y1 y2 y3 y4 y5 y6 y7 y8)) ∧ (∀ y0 y1 y2 y3 y4 y5 y6 y7 y8 y9 y10 y11 y12 y13, LeO (L4_BenchOwn.l3 k y0 y1 y2 y3 y4 y5 y6 y7 y8 y9 y10 y11 y12 y13) (L4_BenchOwn.l3 (k + 1) y0 y1 y2 y3 y4 y5 y6 y7 y8 y9 y10 y11 y12 y13))
 | 0 => ⟨fun _ _ _ _ _ _ _ _ _ r h => by simp [L4_BenchOwn.l0] at h, fun _ _ _ _ _ _ _ _ _ r h => by simp [L4_BenchOwn.l1] at h, fun _ _ _ _ _ _ _ _ _ r h => by simp [L4_BenchOwn.l2] at h, fun _ _ _ _ _ _ _ _ _ _ _ _ _ _ r h => by simp [L4_BenchOwn.l3] at h⟩
 | k + 1 => by
  obtain ⟨ih0, ih1, ih2, ih3⟩ := L4_BenchOwn.mono_l k
  refine ⟨?_, ?_, ?_, ?_⟩
  ·intro y0 y1 y2 y3 y4 y5 y6 y7 y8
   unfold L4_BenchOwn.l0
   repeat' first
   | (with_reducible exact ih0 _ _ _ _ _ _ _ _ _)
   | (with_reducible exact ih1 _ _ _ _ _ _ _ _ _)
   | (with_reducible exact ih2 _ _ _ _ _ _ _ _ _)
   | (with_reducible exact ih3 _ _ _ _ _ _ _ _ _ _ _ _ _ _)
   | (with_reducible exact L4_tame.mono _ _ _ _)
   | (with_reducible first | exact LeO.refl _ | exact LeO.none _ | refine LeO.ite ?_ ?_ | refine LeO.bind ?_ (fun _ => ?_))
   | exact ih0 _ _ _ _ _ _ _ _ _
   | exact ih1 _ _ _ _ _ _ _ _ _
   | exact ih2 _ _ _ _ _ _ _ _ _
   | exact ih3 _ _ _ _ _ _ _ _ _ _ _ _ _ _
   | exact L4_tame.mono _ _ _ _
   | exact LeO.none _ | refine LeO.ite ?_ ?_ | refine LeO.bind ?_ (fun _ => ?_)
  ·intro y0 y1 y2 y3 y4 y5 y6 y7 y8
   unfold L4_BenchOwn.l1
   repeat' first
   | (with_reducible exact ih0 _ _ _ _ _ _ _ _ _)
   | (with_reducible exact ih1 _ _ _ _ _ _ _ _ _)
   | (with_reducible exact ih2 _ _ _ _ _ _ _ _ _)
   | (with_reducible exact ih3 _ _ _ _ _ _ _ _ _ _ _ _ _ _)
   | (with_reducible exact L4_tame.mono _ _ _ _)
   | (with_reducible first | exact LeO.refl _ | exact LeO.none _ | refine LeO.ite ?_ ?_ | refine LeO.bind ?_ (fun _ => ?_))
   | exact ih0 _ _ _ _ _ _ _ _ _
   | exact ih1 _ _ _ _ _ _ _ _ _
   | exact ih2 _ _ _ _ _ _ _ _ _
   | exact ih3 _ _ _ _ _ _ _ _ _ _ _ _ _ _
   | exact L4_tame.mono _ _ _ _
   | exact LeO.none _ | refine LeO.ite ?_ ?_ | refine LeO.bind ?_ (fun _ => ?_)
  ·intro y0 y1 y2 y3 y4 y5 y6 y7 y8
   unfold L4_BenchOwn.l2
   repeat' first
   | (with_reducible exact ih0 _ _ _ _ _ _ _ _ _)
   | (with_reducible exact ih1 _ _ _ _ _ _ _ _ _)
   | (with_reducible exact ih2 _ _ _ _ _ _ _ _ _)
   | (with_reducible exact ih3 _ _ _ _ _ _ _ _ _ _ _ _ _ _)
   | (with_reducible exact L4_tame.mono _ _ _ _)
   | (with_reducible first | exact LeO.refl _ | exact LeO.none _ | refine LeO.ite ?_ ?_ | refine LeO.bind ?_ (fun _ => ?_))
   | exact ih0 _ _ _ _ _ _ _ _ _
   | exact ih1 _ _ _ _ _ _ _ _ _
   | exact ih2 _ _ _ _ _ _ _ _ _
   | exact ih3 _ _ _ _ _ _ _ _ _ _ _ _ _ _
   | exact L4_tame.mono _ _ _ _
   | exact LeO.none _ | refine LeO.ite ?_ ?_ | refine LeO.bind ?_ (fun _ => ?_)
  ·intro y0 y1 y2 y3 y4 y5 y6 y7 y8 y9 y10 y11 y12 y13
   unfold L4_BenchOwn.l3
   repeat' first
   | (with_reducible exact ih0 _ _ _ _ _ _ _ _ _)
   | (with_reducible exact ih1 _ _ _ _ _ _ _ _ _)
   | (with_reducible exact ih2 _ _ _ _ _ _ _ _ _)
   | (with_reducible exact ih3 _ _ _ _ _ _ _ _ _ _ _ _ _ _)
   | (with_reducible exact L4_tame.mono _ _ _ _)
   | (with_reducible first | exact LeO.refl _ | exact LeO.none _ | refine LeO.ite ?_ ?_ | refine LeO.bind ?_ (fun _ => ?_))
   | exact ih0 _ _ _ _ _ _ _ _ _
   | exact ih1 _ _ _ _ _ _ _ _ _
   | exact ih2 _ _ _ _ _ _ _ _ _
   | exact ih3 _ _ _ _ _ _ _ _ _ _ _ _ _ _
   | exact L4_tame.mono _ _ _ _
   | exact LeO.none _ | refine LeO.ite ?_ ?_ | refine LeO.bind ?_ (fun _ => ?_)
theorem L4_BenchOwn.mono : ∀ a0 a1 k, LeO (L4_BenchOwn.f k a0 a1) (L4_BenchOwn.f (k + 1) a0 a1) := by
 intro a0 a1 k
 obtain ⟨ih0, ih1, ih2, ih3⟩ := L4_BenchOwn.mono_l k
 unfold L4_BenchOwn.f
 repeat' first
   | (with_reducible exact ih0 _ _ _ _ _ _ _ _ _)
   | (with_reducible exact ih1 _ _ _ _ _ _ _ _ _)
   | (with_reducible exact ih2 _ _ _ _ _ _ _ _ _)
   | (with_reducible exact ih3 _ _ _ _ _ _ _ _ _ _ _ _ _ _)
   | (with_reducible exact L4_tame.mono _ _ _ _)
   | (with_reducible first | exact LeO.refl _ | exact LeO.none _ | refine LeO.ite ?_ ?_ | refine LeO.bind ?_ (fun _ => ?_))
   | exact ih0 _ _ _ _ _ _ _ _ _
   | exact ih1 _ _ _ _ _ _ _ _ _
   | exact ih2 _ _ _ _ _ _ _ _ _
   | exact ih3 _ _ _ _ _ _ _ _ _ _ _ _ _ _
   | exact L4_tame.mono _ _ _ _
   | exact LeO.none _ | refine LeO.ite ?_ ?_ | refine LeO.bind ?_ (fun _ => ?_)
set_option maxHeartbeats 8000000 in
set_option maxRecDepth 100000 in
theorem L4_BenchOwn.calls (k : Nat) (a0 : Int) (A1 : Option Addr) (c1 : Nat) (l1 : List (S40)) (r : Bool) (hr_ : Aside0 (r = true)) (w : World) (hno_ : None_ w) (hr1 : Kd.C k40 w A1 l1.length l1) (hc1 : l1.length ≤ c1) (h : L4_BenchOwn.f k a0 l1 = some r) :
  Calls Tryd.prog 8 #[.int .i64 a0, .slice A1 l1.length c1] w fun e w' => e = .returned (.bool r) ∧ Below w.heap.size w w' := by
 have hu46 := Tryd.underlying46
 have hu50 := Tryd.underlying50
 have hu34 := Tryd.underlying34
 have hu40 := Tryd.underlying40
 have HR1 := Aside0.mk hr1
 have HC1 := Aside0.mk hc1
 clear hr1 hc1
 have HNO := Aside0.mk hno_
 clear hno_
 have HB := Aside0.mk (Below.refl w.heap.size w)
 have H : ((L4_tame.f k a0 l1 10).bind fun bt282 => ((L4_jobs.f bt282.2 10).bind fun t286 => ((bench_Plan.f bt282.1 bt282.2).bind fun bt289 => (L4_BenchOwn.l0 k bt282.1 bt282.2 t286 bt289.2.2.2.2 0 bt289.1 bt289.2.1 bt289.2.2.1 bt289.2.2.2.1)))) = some r := h
 clear h
 replace H := Option.bind_eq_some_iff.mp H
 obtain ⟨⟨t282, t283⟩, A30, H⟩ := H
 replace H : ((L4_jobs.f t283 10).bind fun t286 => ((bench_Plan.f t282 t283).bind fun bt289 => (L4_BenchOwn.l0 k t282 t283 t286 bt289.2.2.2.2 0 bt289.1 bt289.2.1 bt289.2.2.1 bt289.2.2.2.1))) = some r := H
 have A3 := Aside0.mk A30
 clear A30
 replace H := Option.bind_eq_some_iff.mp H
 obtain ⟨t286, A40, H⟩ := H
 replace H : ((bench_Plan.f t282 t283).bind fun bt289 => (L4_BenchOwn.l0 k t282 t283 t286 bt289.2.2.2.2 0 bt289.1 bt289.2.1 bt289.2.2.1 bt289.2.2.2.1)) = some r := H
 have A4 := Aside0.mk A40
 clear A40
 replace H := Option.bind_eq_some_iff.mp H
 obtain ⟨⟨t289, t290, t293, t296, t299⟩, A50, H⟩ := H
 replace H : (L4_BenchOwn.l0 k t282 t283 t286 t299 0 t289 t290 t293 t296) = some r := H
 have A5 := Aside0.mk A50
 clear A50
 have H' := Aside0.mk H
 clear H
 go_enter Tryd.func8, Tryd.ntmps8
 go_wp2_with (first | (go_at_call 21; (with_reducible refine (L4_tame.calls k a0 _ _ l1 10 t282 t283 _ ?side1 ?side2 A3.out).mono ?_); (case side1 => repeat (first | exact HR1.out | (with_reducible refine Kd.C_alloc ?_ _) | (with_reducible refine Kd.C_drewN ?_ _) | (with_reducible refine Kd.C_drew ?_))); (case side2 => exact HC1.out); rintro e w6 ⟨v284, rfl, ho0, hb⟩; have n0_ := Aside0.mk (Kd.R_lower ho0 (below_size lB)); have n1_ := Aside0.mk (below_step lB hb); clear HB; have HO285 := n0_; have HB := n1_; clear n0_ n1_; (try clear hb); (try clear hb2); (try clear hk); (try clear hi); (try clear ho0); obtain ⟨Ao7, co7, eo7⟩ := Kd.R_slice HO285.out; subst eo7) | (go_at_call 13; (with_reducible refine (L4_jobs.calls _ _ t283 10 t286 _ ?side1 ?side2 A4.out).mono ?_); (case side1 => repeat (first | exact (Kd.R_reads' HO285.out).2.2 | (with_reducible refine Kd.C_alloc ?_ _) | (with_reducible refine Kd.C_drewN ?_ _) | (with_reducible refine Kd.C_drew ?_))); (case side2 => exact (Kd.R_reads' HO285.out).2.1); rintro e w8 ⟨v287, rfl, ho0, hb⟩; have n0_ := Aside0.mk (Kd.R_elder' (by (with_reducible repeat (first | apply Kd.R_alloc | apply Kd.R_drewN | apply Kd.R_drew)); exact HO285.out) (Kd.R_base ho0) hb); have n1_ := Aside0.mk (Kd.R_lower (Kd.R_new' ho0 (Kd.R_lt (by (with_reducible repeat (first | apply Kd.R_alloc | apply Kd.R_drewN | apply Kd.R_drew)); exact HO285.out))) (below_size lB)); have n2_ := Aside0.mk (below_step lB hb); clear HO285; clear HB; have HO285 := n0_; have HO288 := n1_; have HB := n2_; clear n0_ n1_ n2_; (try clear hb); (try clear hb2); (try clear hk); (try clear hi); (try clear ho0)) | (go_at_call 24; (with_reducible refine (bench_Plan.calls t282 _ _ t283 t289 t290 t293 t296 t299 _ ?sidenone ?side1 ?side2 A5.out).mono ?_); (case sidenone => exact HNO.out.below lB); (case side1 => repeat (first | exact (Kd.R_reads' HO285.out).2.2 | (with_reducible refine Kd.C_alloc ?_ _) | (with_reducible refine Kd.C_drewN ?_ _) | (with_reducible refine Kd.C_drew ?_))); (case side2 => exact (Kd.R_reads' HO285.out).2.1); rintro e w9 ⟨v291, v294, v297, rfl, ho0, ho1, ho2, hb⟩; have n0_ := Aside0.mk (Kd.R_below (by (with_reducible repeat (first | apply Kd.R_alloc | apply Kd.R_drewN | apply Kd.R_drew)); exact HO285.out) hb); have n1_ := Aside0.mk (Kd.R_below (by (with_reducible repeat (first | apply Kd.R_alloc | apply Kd.R_drewN | apply Kd.R_drew)); exact HO288.out) hb); have n2_ := Aside0.mk (Kd.R_lower ho0 (below_size lB)); have n3_ := Aside0.mk (Kd.R_lower ho1 (below_size lB)); have n4_ := Aside0.mk (Kd.R_lower ho2 (below_size lB)); have n5_ := Aside0.mk (below_step lB hb); clear HO285; clear HO288; clear HB; have HO285 := n0_; have HO288 := n1_; have HO292 := n2_; have HO295 := n3_; have HO298 := n4_; have HB := n5_; clear n0_ n1_ n2_ n3_ n4_ n5_; (try clear hb); (try clear hb2); (try clear hk); (try clear hi); (try clear ho0); (try clear ho1); (try clear ho2)) | ((with_reducible refine gate_dst (N := 8) rfl ?_); refine bxe 8 #[.bool false, .slice none 0 0, .slice none 0 0, .slice none 0 0] 46 ?_; intro gb300 hg w10 hbox hb; have n0_ := Aside0.mk (Kd.R_below (by (with_reducible repeat (first | apply Kd.R_alloc | apply Kd.R_drewN | apply Kd.R_drew)); exact HO285.out) hb); have n1_ := Aside0.mk (Kd.R_below (by (with_reducible repeat (first | apply Kd.R_alloc | apply Kd.R_drewN | apply Kd.R_drew)); exact HO288.out) hb); have n2_ := Aside0.mk (Kd.R_below (by (with_reducible repeat (first | apply Kd.R_alloc | apply Kd.R_drewN | apply Kd.R_drew)); exact HO292.out) hb); have n3_ := Aside0.mk (Kd.R_below (by (with_reducible repeat (first | apply Kd.R_alloc | apply Kd.R_drewN | apply Kd.R_drew)); exact HO295.out) hb); have n4_ := Aside0.mk (Kd.R_below (by (with_reducible repeat (first | apply Kd.R_alloc | apply Kd.R_drewN | apply Kd.R_drew)); exact HO298.out) hb); have n5_ := Aside0.mk (below_step lB hb); have n6_ := Aside0.mk (hbox); have n7_ := Aside0.mk (lG (w := w) hg); have n8_ := Aside0.mk (lG (w := w) hg); clear HO285; clear HO288; clear HO292; clear HO295; clear HO298; clear HB; have HO285 := n0_; have HO288 := n1_; have HO292 := n2_; have HO295 := n3_; have HO298 := n4_; have HB := n5_; have BK300 := n6_; have GW300 := n7_; have GE300 := n8_; clear n0_ n1_ n2_ n3_ n4_ n5_ n6_ n7_ n8_; clear hb hbox hg; have hcz11_0 : w10.cell? ⟨gb300, 0, none⟩ = some (.bool false) := (blk_cell BK300.out 0).trans rfl; have hcz11_1 : w10.cell? ⟨gb300, 1, none⟩ = some (.slice none 0 0) := (blk_cell BK300.out 1).trans rfl; have hcz11_2 : w10.cell? ⟨gb300, 2, none⟩ = some (.slice none 0 0) := (blk_cell BK300.out 2).trans rfl; have hcz11_3 : w10.cell? ⟨gb300, 3, none⟩ = some (.slice none 0 0) := (blk_cell BK300.out 3).trans rfl; have hfz11_0 := blk_frozen BK300.out 0; have hfz11_1 := blk_frozen BK300.out 1; have hfz11_2 := blk_frozen BK300.out 2; have hfz11_3 := blk_frozen BK300.out 3; obtain ⟨Ao12, co12, eo12⟩ := Kd.R_slice HO292.out; subst eo12; obtain ⟨Ao13, co13, eo13⟩ := Kd.R_slice HO295.out; subst eo13; obtain ⟨Ao14, co14, eo14⟩ := Kd.R_slice HO298.out; subst eo14))
 repeat (go_quiet (first | (go_at_call 21; (with_reducible refine (L4_tame.calls k a0 _ _ l1 10 t282 t283 _ ?side1 ?side2 A3.out).mono ?_); (case side1 => repeat (first | exact HR1.out | (with_reducible refine Kd.C_alloc ?_ _) | (with_reducible refine Kd.C_drewN ?_ _) | (with_reducible refine Kd.C_drew ?_))); (case side2 => exact HC1.out); rintro e w6 ⟨v284, rfl, ho0, hb⟩; have n0_ := Aside0.mk (Kd.R_lower ho0 (below_size lB)); have n1_ := Aside0.mk (below_step lB hb); clear HB; have HO285 := n0_; have HB := n1_; clear n0_ n1_; (try clear hb); (try clear hb2); (try clear hk); (try clear hi); (try clear ho0); obtain ⟨Ao7, co7, eo7⟩ := Kd.R_slice HO285.out; subst eo7) | (go_at_call 13; (with_reducible refine (L4_jobs.calls _ _ t283 10 t286 _ ?side1 ?side2 A4.out).mono ?_); (case side1 => repeat (first | exact (Kd.R_reads' HO285.out).2.2 | (with_reducible refine Kd.C_alloc ?_ _) | (with_reducible refine Kd.C_drewN ?_ _) | (with_reducible refine Kd.C_drew ?_))); (case side2 => exact (Kd.R_reads' HO285.out).2.1); rintro e w8 ⟨v287, rfl, ho0, hb⟩; have n0_ := Aside0.mk (Kd.R_elder' (by (with_reducible repeat (first | apply Kd.R_alloc | apply Kd.R_drewN | apply Kd.R_drew)); exact HO285.out) (Kd.R_base ho0) hb); have n1_ := Aside0.mk (Kd.R_lower (Kd.R_new' ho0 (Kd.R_lt (by (with_reducible repeat (first | apply Kd.R_alloc | apply Kd.R_drewN | apply Kd.R_drew)); exact HO285.out))) (below_size lB)); have n2_ := Aside0.mk (below_step lB hb); clear HO285; clear HB; have HO285 := n0_; have HO288 := n1_; have HB := n2_; clear n0_ n1_ n2_; (try clear hb); (try clear hb2); (try clear hk); (try clear hi); (try clear ho0)) | (go_at_call 24; (with_reducible refine (bench_Plan.calls t282 _ _ t283 t289 t290 t293 t296 t299 _ ?sidenone ?side1 ?side2 A5.out).mono ?_); (case sidenone => exact HNO.out.below lB); (case side1 => repeat (first | exact (Kd.R_reads' HO285.out).2.2 | (with_reducible refine Kd.C_alloc ?_ _) | (with_reducible refine Kd.C_drewN ?_ _) | (with_reducible refine Kd.C_drew ?_))); (case side2 => exact (Kd.R_reads' HO285.out).2.1); rintro e w9 ⟨v291, v294, v297, rfl, ho0, ho1, ho2, hb⟩; have n0_ := Aside0.mk (Kd.R_below (by (with_reducible repeat (first | apply Kd.R_alloc | apply Kd.R_drewN | apply Kd.R_drew)); exact HO285.out) hb); have n1_ := Aside0.mk (Kd.R_below (by (with_reducible repeat (first | apply Kd.R_alloc | apply Kd.R_drewN | apply Kd.R_drew)); exact HO288.out) hb); have n2_ := Aside0.mk (Kd.R_lower ho0 (below_size lB)); have n3_ := Aside0.mk (Kd.R_lower ho1 (below_size lB)); have n4_ := Aside0.mk (Kd.R_lower ho2 (below_size lB)); have n5_ := Aside0.mk (below_step lB hb); clear HO285; clear HO288; clear HB; have HO285 := n0_; have HO288 := n1_; have HO292 := n2_; have HO295 := n3_; have HO298 := n4_; have HB := n5_; clear n0_ n1_ n2_ n3_ n4_ n5_; (try clear hb); (try clear hb2); (try clear hk); (try clear hi); (try clear ho0); (try clear ho1); (try clear ho2)) | ((with_reducible refine gate_dst (N := 8) rfl ?_); refine bxe 8 #[.bool false, .slice none 0 0, .slice none 0 0, .slice none 0 0] 46 ?_; intro gb300 hg w10 hbox hb; have n0_ := Aside0.mk (Kd.R_below (by (with_reducible repeat (first | apply Kd.R_alloc | apply Kd.R_drewN | apply Kd.R_drew)); exact HO285.out) hb); have n1_ := Aside0.mk (Kd.R_below (by (with_reducible repeat (first | apply Kd.R_alloc | apply Kd.R_drewN | apply Kd.R_drew)); exact HO288.out) hb); have n2_ := Aside0.mk (Kd.R_below (by (with_reducible repeat (first | apply Kd.R_alloc | apply Kd.R_drewN | apply Kd.R_drew)); exact HO292.out) hb); have n3_ := Aside0.mk (Kd.R_below (by (with_reducible repeat (first | apply Kd.R_alloc | apply Kd.R_drewN | apply Kd.R_drew)); exact HO295.out) hb); have n4_ := Aside0.mk (Kd.R_below (by (with_reducible repeat (first | apply Kd.R_alloc | apply Kd.R_drewN | apply Kd.R_drew)); exact HO298.out) hb); have n5_ := Aside0.mk (below_step lB hb); have n6_ := Aside0.mk (hbox); have n7_ := Aside0.mk (lG (w := w) hg); have n8_ := Aside0.mk (lG (w := w) hg); clear HO285; clear HO288; clear HO292; clear HO295; clear HO298; clear HB; have HO285 := n0_; have HO288 := n1_; have HO292 := n2_; have HO295 := n3_; have HO298 := n4_; have HB := n5_; have BK300 := n6_; have GW300 := n7_; have GE300 := n8_; clear n0_ n1_ n2_ n3_ n4_ n5_ n6_ n7_ n8_; clear hb hbox hg; have hcz11_0 : w10.cell? ⟨gb300, 0, none⟩ = some (.bool false) := (blk_cell BK300.out 0).trans rfl; have hcz11_1 : w10.cell? ⟨gb300, 1, none⟩ = some (.slice none 0 0) := (blk_cell BK300.out 1).trans rfl; have hcz11_2 : w10.cell? ⟨gb300, 2, none⟩ = some (.slice none 0 0) := (blk_cell BK300.out 2).trans rfl; have hcz11_3 : w10.cell? ⟨gb300, 3, none⟩ = some (.slice none 0 0) := (blk_cell BK300.out 3).trans rfl; have hfz11_0 := blk_frozen BK300.out 0; have hfz11_1 := blk_frozen BK300.out 1; have hfz11_2 := blk_frozen BK300.out 2; have hfz11_3 := blk_frozen BK300.out 3; obtain ⟨Ao12, co12, eo12⟩ := Kd.R_slice HO292.out; subst eo12; obtain ⟨Ao13, co13, eo13⟩ := Kd.R_slice HO295.out; subst eo13; obtain ⟨Ao14, co14, eo14⟩ := Kd.R_slice HO298.out; subst eo14)); try go_wp2_with (first | (go_at_call 21; (with_reducible refine (L4_tame.calls k a0 _ _ l1 10 t282 t283 _ ?side1 ?side2 A3.out).mono ?_); (case side1 => repeat (first | exact HR1.out | (with_reducible refine Kd.C_alloc ?_ _) | (with_reducible refine Kd.C_drewN ?_ _) | (with_reducible refine Kd.C_drew ?_))); (case side2 => exact HC1.out); rintro e w6 ⟨v284, rfl, ho0, hb⟩; have n0_ := Aside0.mk (Kd.R_lower ho0 (below_size lB)); have n1_ := Aside0.mk (below_step lB hb); clear HB; have HO285 := n0_; have HB := n1_; clear n0_ n1_; (try clear hb); (try clear hb2); (try clear hk); (try clear hi); (try clear ho0); obtain ⟨Ao7, co7, eo7⟩ := Kd.R_slice HO285.out; subst eo7) | (go_at_call 13; (with_reducible refine (L4_jobs.calls _ _ t283 10 t286 _ ?side1 ?side2 A4.out).mono ?_); (case side1 => repeat (first | exact (Kd.R_reads' HO285.out).2.2 | (with_reducible refine Kd.C_alloc ?_ _) | (with_reducible refine Kd.C_drewN ?_ _) | (with_reducible refine Kd.C_drew ?_))); (case side2 => exact (Kd.R_reads' HO285.out).2.1); rintro e w8 ⟨v287, rfl, ho0, hb⟩; have n0_ := Aside0.mk (Kd.R_elder' (by (with_reducible repeat (first | apply Kd.R_alloc | apply Kd.R_drewN | apply Kd.R_drew)); exact HO285.out) (Kd.R_base ho0) hb); have n1_ := Aside0.mk (Kd.R_lower (Kd.R_new' ho0 (Kd.R_lt (by (with_reducible repeat (first | apply Kd.R_alloc | apply Kd.R_drewN | apply Kd.R_drew)); exact HO285.out))) (below_size lB)); have n2_ := Aside0.mk (below_step lB hb); clear HO285; clear HB; have HO285 := n0_; have HO288 := n1_; have HB := n2_; clear n0_ n1_ n2_; (try clear hb); (try clear hb2); (try clear hk); (try clear hi); (try clear ho0)) | (go_at_call 24; (with_reducible refine (bench_Plan.calls t282 _ _ t283 t289 t290 t293 t296 t299 _ ?sidenone ?side1 ?side2 A5.out).mono ?_); (case sidenone => exact HNO.out.below lB); (case side1 => repeat (first | exact (Kd.R_reads' HO285.out).2.2 | (with_reducible refine Kd.C_alloc ?_ _) | (with_reducible refine Kd.C_drewN ?_ _) | (with_reducible refine Kd.C_drew ?_))); (case side2 => exact (Kd.R_reads' HO285.out).2.1); rintro e w9 ⟨v291, v294, v297, rfl, ho0, ho1, ho2, hb⟩; have n0_ := Aside0.mk (Kd.R_below (by (with_reducible repeat (first | apply Kd.R_alloc | apply Kd.R_drewN | apply Kd.R_drew)); exact HO285.out) hb); have n1_ := Aside0.mk (Kd.R_below (by (with_reducible repeat (first | apply Kd.R_alloc | apply Kd.R_drewN | apply Kd.R_drew)); exact HO288.out) hb); have n2_ := Aside0.mk (Kd.R_lower ho0 (below_size lB)); have n3_ := Aside0.mk (Kd.R_lower ho1 (below_size lB)); have n4_ := Aside0.mk (Kd.R_lower ho2 (below_size lB)); have n5_ := Aside0.mk (below_step lB hb); clear HO285; clear HO288; clear HB; have HO285 := n0_; have HO288 := n1_; have HO292 := n2_; have HO295 := n3_; have HO298 := n4_; have HB := n5_; clear n0_ n1_ n2_ n3_ n4_ n5_; (try clear hb); (try clear hb2); (try clear hk); (try clear hi); (try clear ho0); (try clear ho1); (try clear ho2)) | ((with_reducible refine gate_dst (N := 8) rfl ?_); refine bxe 8 #[.bool false, .slice none 0 0, .slice none 0 0, .slice none 0 0] 46 ?_; intro gb300 hg w10 hbox hb; have n0_ := Aside0.mk (Kd.R_below (by (with_reducible repeat (first | apply Kd.R_alloc | apply Kd.R_drewN | apply Kd.R_drew)); exact HO285.out) hb); have n1_ := Aside0.mk (Kd.R_below (by (with_reducible repeat (first | apply Kd.R_alloc | apply Kd.R_drewN | apply Kd.R_drew)); exact HO288.out) hb); have n2_ := Aside0.mk (Kd.R_below (by (with_reducible repeat (first | apply Kd.R_alloc | apply Kd.R_drewN | apply Kd.R_drew)); exact HO292.out) hb); have n3_ := Aside0.mk (Kd.R_below (by (with_reducible repeat (first | apply Kd.R_alloc | apply Kd.R_drewN | apply Kd.R_drew)); exact HO295.out) hb); have n4_ := Aside0.mk (Kd.R_below (by (with_reducible repeat (first | apply Kd.R_alloc | apply Kd.R_drewN | apply Kd.R_drew)); exact HO298.out) hb); have n5_ := Aside0.mk (below_step lB hb); have n6_ := Aside0.mk (hbox); have n7_ := Aside0.mk (lG (w := w) hg); have n8_ := Aside0.mk (lG (w := w) hg); clear HO285; clear HO288; clear HO292; clear HO295; clear HO298; clear HB; have HO285 := n0_; have HO288 := n1_; have HO292 := n2_; have HO295 := n3_; have HO298 := n4_; have HB := n5_; have BK300 := n6_; have GW300 := n7_; have GE300 := n8_; clear n0_ n1_ n2_ n3_ n4_ n5_ n6_ n7_ n8_; clear hb hbox hg; have hcz11_0 : w10.cell? ⟨gb300, 0, none⟩ = some (.bool false) := (blk_cell BK300.out 0).trans rfl; have hcz11_1 : w10.cell? ⟨gb300, 1, none⟩ = some (.slice none 0 0) := (blk_cell BK300.out 1).trans rfl; have hcz11_2 : w10.cell? ⟨gb300, 2, none⟩ = some (.slice none 0 0) := (blk_cell BK300.out 2).trans rfl; have hcz11_3 : w10.cell? ⟨gb300, 3, none⟩ = some (.slice none 0 0) := (blk_cell BK300.out 3).trans rfl; have hfz11_0 := blk_frozen BK300.out 0; have hfz11_1 := blk_frozen BK300.out 1; have hfz11_2 := blk_frozen BK300.out 2; have hfz11_3 := blk_frozen BK300.out 3; obtain ⟨Ao12, co12, eo12⟩ := Kd.R_slice HO292.out; subst eo12; obtain ⟨Ao13, co13, eo13⟩ := Kd.R_slice HO295.out; subst eo13; obtain ⟨Ao14, co14, eo14⟩ := Kd.R_slice HO298.out; subst eo14)))
 go_loopg [10] k (fun kq v10 w' => ∃ (x10_1 : Int) (x301001_1 : List (S50)) (u301001 : Value), v10 = .int .i64 x10_1 ∧ Aside0 (L4_BenchOwn.l0 kq t282 t283 t286 t299 x10_1 t289 x301001_1 t293 t296 = some r) ∧ Aside0 (kq ≤ k) ∧ Aside0 (Kd.R k40 40 w' w.heap.size (fun k_ => some k_ ≠ (v287 : Value).ownBlock) (.slice Ao7 t283.length co7) t283) ∧ Aside0 (Kd.R k40 40 w' w.heap.size (fun k_ => some k_ ≠ ((.slice Ao7 t283.length co7) : Value).ownBlock) v287 t286) ∧ Aside0 (Kd.R k50 50 w' w.heap.size (fun _ => True) u301001 x301001_1) ∧ Aside0 (Kd.R (Kd.int .i64) 3 w' w.heap.size (fun _ => True) (.slice Ao13 t293.length co13) t293) ∧ Aside0 (Kd.R k34 34 w' w.heap.size (fun _ => True) (.slice Ao14 t296.length co14) t296) ∧ Aside0 (w'.heap[gb300]? = some (.cells #[.bool t289, u301001, (.slice Ao13 t293.length co13), (.slice Ao14 t296.length co14)] 46 (0, 0))) ∧ Aside0 (Below w.heap.size w w'))
 case atStart => exact ⟨(0), (t290), (.slice Ao12 t290.length co12), (by first | rfl | (simp; done) | (simp [*]; done)), H', ⟨Nat.le_refl _⟩, ⟨by (with_reducible repeat (first | apply Kd.R_alloc | apply Kd.R_drewN | apply Kd.R_drew)); exact Kd.R_mono (Kd.R_far (p := ⟨gb300, 3, none⟩) (Kd.R_far (p := ⟨gb300, 2, none⟩) (Kd.R_far (p := ⟨gb300, 1, none⟩) (Kd.R_far (p := ⟨gb300, 0, none⟩) (Kd.R_types HO285.out BK300.out (by decide)) (fun _ hk => hk.2) (.bool t289)) (fun _ hk => hk.2) (.slice Ao12 t290.length co12)) (fun _ hk => hk.2) (.slice Ao13 t293.length co13)) (fun _ hk => hk.2) (.slice Ao14 t296.length co14)) (fun _ hk => hk.1.2)⟩, ⟨by (with_reducible repeat (first | apply Kd.R_alloc | apply Kd.R_drewN | apply Kd.R_drew)); exact Kd.R_mono (Kd.R_far (p := ⟨gb300, 3, none⟩) (Kd.R_far (p := ⟨gb300, 2, none⟩) (Kd.R_far (p := ⟨gb300, 1, none⟩) (Kd.R_far (p := ⟨gb300, 0, none⟩) (Kd.R_types HO288.out BK300.out (by decide)) (fun _ hk => hk.2) (.bool t289)) (fun _ hk => hk.2) (.slice Ao12 t290.length co12)) (fun _ hk => hk.2) (.slice Ao13 t293.length co13)) (fun _ hk => hk.2) (.slice Ao14 t296.length co14)) (fun _ hk => hk.1.2)⟩, ⟨by (with_reducible repeat (first | apply Kd.R_alloc | apply Kd.R_drewN | apply Kd.R_drew)); exact Kd.R_mono (Kd.R_far (p := ⟨gb300, 3, none⟩) (Kd.R_far (p := ⟨gb300, 2, none⟩) (Kd.R_far (p := ⟨gb300, 1, none⟩) (Kd.R_far (p := ⟨gb300, 0, none⟩) (Kd.R_types HO292.out BK300.out (by decide)) (fun _ hk => hk.2) (.bool t289)) (fun _ hk => hk.2) (.slice Ao12 t290.length co12)) (fun _ hk => hk.2) (.slice Ao13 t293.length co13)) (fun _ hk => hk.2) (.slice Ao14 t296.length co14)) (fun _ hk => trivial)⟩, ⟨by (with_reducible repeat (first | apply Kd.R_alloc | apply Kd.R_drewN | apply Kd.R_drew)); exact Kd.R_mono (Kd.R_far (p := ⟨gb300, 3, none⟩) (Kd.R_far (p := ⟨gb300, 2, none⟩) (Kd.R_far (p := ⟨gb300, 1, none⟩) (Kd.R_far (p := ⟨gb300, 0, none⟩) (Kd.R_types HO295.out BK300.out (by decide)) (fun _ hk => hk.2) (.bool t289)) (fun _ hk => hk.2) (.slice Ao12 t290.length co12)) (fun _ hk => hk.2) (.slice Ao13 t293.length co13)) (fun _ hk => hk.2) (.slice Ao14 t296.length co14)) (fun _ hk => trivial)⟩, ⟨by (with_reducible repeat (first | apply Kd.R_alloc | apply Kd.R_drewN | apply Kd.R_drew)); exact Kd.R_mono (Kd.R_far (p := ⟨gb300, 3, none⟩) (Kd.R_far (p := ⟨gb300, 2, none⟩) (Kd.R_far (p := ⟨gb300, 1, none⟩) (Kd.R_far (p := ⟨gb300, 0, none⟩) (Kd.R_types HO298.out BK300.out (by decide)) (fun _ hk => hk.2) (.bool t289)) (fun _ hk => hk.2) (.slice Ao12 t290.length co12)) (fun _ hk => hk.2) (.slice Ao13 t293.length co13)) (fun _ hk => hk.2) (.slice Ao14 t296.length co14)) (fun _ hk => trivial)⟩, ⟨by (with_reducible repeat (first | refine kN ?_ _ | refine kD ?_ | refine kA ?_ _)); refine blk_put (cs := #[.bool t289, .slice Ao12 t290.length co12, .slice Ao13 t293.length co13, .slice none 0 0]) ?_ 3 _ rfl; (with_reducible repeat (first | refine kN ?_ _ | refine kD ?_ | refine kA ?_ _)); refine blk_put (cs := #[.bool t289, .slice Ao12 t290.length co12, .slice none 0 0, .slice none 0 0]) ?_ 2 _ rfl; (with_reducible repeat (first | refine kN ?_ _ | refine kD ?_ | refine kA ?_ _)); refine blk_put (cs := #[.bool t289, .slice none 0 0, .slice none 0 0, .slice none 0 0]) ?_ 1 _ rfl; (with_reducible repeat (first | refine kN ?_ _ | refine kD ?_ | refine kA ?_ _)); refine blk_put (cs := #[.bool false, .slice none 0 0, .slice none 0 0, .slice none 0 0]) ?_ 0 _ rfl; (with_reducible repeat (first | refine kN ?_ _ | refine kD ?_ | refine kA ?_ _)); exact BK300.out⟩, ⟨by repeat (first | (with_reducible first | exact HB.out | apply lA | apply lN | apply lD | refine lS ?_ GE300.out) | exact HB.out)⟩⟩
 case round =>
  clear H'
  try clear c1
  try clear p2
  try clear c8
  try clear hcz11_0
  try clear hcz11_1
  try clear hcz11_2
  try clear hcz11_3
  try clear hfz11_0
  try clear hfz11_1
  try clear hfz11_2
  try clear hfz11_3
  obtain ⟨x10_1, x301001_1, u301001, rfl, HA, HK1, HO_6, HO_7, HO_301001, HO_301002, HO_301003, BK300, HB⟩ := hrel
  cases gk with
  | zero => exact absurd HA.out (by simp [L4_BenchOwn.l0])
  | succ k1 =>
   have H := HA.out
   clear HA
   simp only [L4_BenchOwn.l0] at H
   by_cases c15 : x10_1 < (x301001_1.length : Int)
   ·rw [if_pos c15] at H
    have c15b0 : decide (x10_1 < (x301001_1.length : Int)) = true := decide_eq_true c15
    clear c15
    by_cases c16 : 0 ≤ x10_1
    ·rw [if_pos c16] at H
     have c16b0 : decide (0 ≤ x10_1) = true := decide_eq_true c16
     clear c16
     obtain ⟨y301, hy301⟩ : ∃ y_ : List (S50), y_ = (x301001_1.set (x10_1 : Int).toNat (⟨(-1), 0, 0, 0⟩ : S50)) := ⟨_, rfl⟩
     replace H : (L4_BenchOwn.l0 k1 t282 t283 t286 t299 (wrap64 (x10_1 + 1)) t289 y301 t293 t296) = some r := by first | (rw [hy301]; with_reducible exact H) | (have H2_ := (Option.bind_some _ _).symm.trans H; rw [hy301]; with_reducible exact H2_) | (have H2_ := (Option.bind_some _ _).symm.trans H; with_reducible exact H2_) | with_reducible exact H | (rw [hy301]; exact H) | exact H
     have Ny301 := Aside0.mk hy301
     clear hy301
     have H' := Aside0.mk H
     clear H
     have hcz18_0 : wr.cell? ⟨gb300, 0, none⟩ = some (.bool t289) := (blk_cell BK300.out 0).trans rfl
     have hcz18_1 : wr.cell? ⟨gb300, 1, none⟩ = some (u301001) := (blk_cell BK300.out 1).trans rfl
     have hcz18_2 : wr.cell? ⟨gb300, 2, none⟩ = some (.slice Ao13 t293.length co13) := (blk_cell BK300.out 2).trans rfl
     have hcz18_3 : wr.cell? ⟨gb300, 3, none⟩ = some (.slice Ao14 t296.length co14) := (blk_cell BK300.out 3).trans rfl
     have hfz18_0 := blk_frozen BK300.out 0
     have hfz18_1 := blk_frozen BK300.out 1
     have hfz18_2 := blk_frozen BK300.out 2
     have hfz18_3 := blk_frozen BK300.out 3
     obtain ⟨Ao19, co19, eo19⟩ := Kd.R_slice HO_301001.out
     subst eo19
     have p17 : 0 ≤ (x10_1 : Int) := of_decide_eq_true (by first | (with_reducible assumption) | assumption)
     have q17 : (x10_1 : Int) < ((x301001_1.length : Int) : Int) := of_decide_eq_true (by first | (with_reducible assumption) | assumption)
     obtain ⟨go17, co17, eo17, gb17, gl17, cl17, HG17⟩ := Kd.R_form HO_301001.out (by omega)
     (first | cases eo17 | (injection eo17 with ea_ en_ ec_; (first | subst ea_ | (injection ea_ with ea_; subst ea_)); subst ec_; clear en_))
     have GB17 := Aside0.mk gb17
     have GG17 := Aside0.mk HG17
     clear gb17 gl17 HG17
     obtain ⟨ce17, hcl17, hM17, hcc17, hfr17⟩ := Kd.R_elem HO_301001.out z50 (x10_1 : Int) p17 q17
     obtain rfl := k50_openM hM17
     have hx17_0 : wr.cell? ⟨go17, (x10_1 : Int).toNat * 4, none⟩ = some (.int .i64 ((rd_T50 x301001_1 x10_1).f0)) := hcc17 0 _ rfl
     have hx17_1 : wr.cell? ⟨go17, (x10_1 : Int).toNat * 4 + 1, none⟩ = some (.int .i64 ((rd_T50 x301001_1 x10_1).f1)) := hcc17 1 _ rfl
     have hx17_2 : wr.cell? ⟨go17, (x10_1 : Int).toNat * 4 + 2, none⟩ = some (.int .i64 ((rd_T50 x301001_1 x10_1).f2)) := hcc17 2 _ rfl
     have hx17_3 : wr.cell? ⟨go17, (x10_1 : Int).toNat * 4 + 3, none⟩ = some (.int .i64 ((rd_T50 x301001_1 x10_1).f3)) := hcc17 3 _ rfl
     have hf17_0 : wr.frozen? ⟨go17, (x10_1 : Int).toNat * 4, none⟩ = false := hfr17 0
     have hf17_1 : wr.frozen? ⟨go17, (x10_1 : Int).toNat * 4 + 1, none⟩ = false := hfr17 1
     have hf17_2 : wr.frozen? ⟨go17, (x10_1 : Int).toNat * 4 + 2, none⟩ = false := hfr17 2
     have hf17_3 : wr.frozen? ⟨go17, (x10_1 : Int).toNat * 4 + 3, none⟩ = false := hfr17 3
     clear hcl17 hcc17 hfr17 hM17
     replace p17 := eq_true p17
     replace q17 := eq_true q17
     have HX20 := Aside0.mk (show Kd.R k50 50 wr w.heap.size (fun _ => True) (.slice (some ⟨go17, 0, none⟩) x301001_1.length co19) x301001_1 from (by (with_reducible repeat (first | apply Kd.R_alloc | apply Kd.R_drewN | apply Kd.R_drew)); exact HO_301001.out))
     obtain ⟨ce20, hcl20, hM20, hcc20, hfr20⟩ := Kd.R_elem HX20.out z50 (x10_1 : Int) (of_decide_eq_true (by first | (with_reducible assumption) | assumption)) (by have h_ : (x10_1 : Int) < ((x301001_1.length : Int) : Int) := of_decide_eq_true (by first | (with_reducible assumption) | assumption); first | exact h_ | (have e_ := (Kd.R_reads' HO_301001.out).1; omega) | simpa using h_)
     obtain rfl := k50_openM hM20
     have HP20 := Kd.R_seg HX20.out (x10_1 : Int) (of_decide_eq_true (by first | (with_reducible assumption) | assumption)) (by have h_ : (x10_1 : Int) < ((x301001_1.length : Int) : Int) := of_decide_eq_true (by first | (with_reducible assumption) | assumption); first | exact h_ | (have e_ := (Kd.R_reads' HO_301001.out).1; omega) | simpa using h_) (seg := [.int .i64 (-1), .int .i64 0, .int .i64 0, .int .i64 0]) (j := 0) hcl20 hcc20 (show 4 ≤ 4 from by decide) (x' := (⟨(-1), 0, 0, 0⟩ : S50)) (k50_mkM _ _ _ (⟨(-1), 0, 0, 0⟩ : S50) ) (fun _ hk => hk)
     have hx20_0 := hcc20 0 _ rfl
     (try simp only [show (k50).sz = 4 from rfl, Nat.mul_one, Nat.add_zero] at hx20_0)
     have hf20_0 := hfr20 0
     (try simp only [show (k50).sz = 4 from rfl, Nat.mul_one, Nat.add_zero] at hf20_0)
     have hx20_1 := hcc20 1 _ rfl
     (try simp only [show (k50).sz = 4 from rfl, Nat.mul_one, Nat.add_zero] at hx20_1)
     have hf20_1 := hfr20 1
     (try simp only [show (k50).sz = 4 from rfl, Nat.mul_one, Nat.add_zero] at hf20_1)
     have hx20_2 := hcc20 2 _ rfl
     (try simp only [show (k50).sz = 4 from rfl, Nat.mul_one, Nat.add_zero] at hx20_2)
     have hf20_2 := hfr20 2
     (try simp only [show (k50).sz = 4 from rfl, Nat.mul_one, Nat.add_zero] at hf20_2)
     have hx20_3 := hcc20 3 _ rfl
     (try simp only [show (k50).sz = 4 from rfl, Nat.mul_one, Nat.add_zero] at hx20_3)
     have hf20_3 := hfr20 3
     (try simp only [show (k50).sz = 4 from rfl, Nat.mul_one, Nat.add_zero] at hf20_3)
     clear hcl20 hcc20 hfr20 hM20
     go_wp2_with (first | ((with_reducible refine gate_store (t := 50) (p := 41) rfl ?_); (try (rw [drewN_self wr]; generalize hq_ : World.drewN wr _ = wr; have n0_ := Aside0.mk (Kd.R_at hq_ HO_6.out); have n1_ := Aside0.mk (Kd.R_at hq_ HO_7.out); have n2_ := Aside0.mk (Kd.R_at hq_ HO_301001.out); have n3_ := Aside0.mk (Kd.R_at hq_ HO_301002.out); have n4_ := Aside0.mk (Kd.R_at hq_ HO_301003.out); have n5_ := Aside0.mk (blk_at hq_ BK300.out); have n6_ := Aside0.mk (below_at hq_ HB.out); clear hq_ HO_6 HO_7 HO_301001 HO_301002 HO_301003 BK300 HB; have HO_6 := n0_; have HO_7 := n1_; have HO_301001 := n2_; have HO_301002 := n3_; have HO_301003 := n4_; have BK300 := n5_; have HB := n6_; clear n0_ n1_ n2_ n3_ n4_ n5_ n6_; (try (have HX20 := Aside0.mk (show Kd.R k50 50 wr w.heap.size (fun _ => True) (.slice (some ⟨go17, 0, none⟩) x301001_1.length co19) x301001_1 from (by (with_reducible repeat (first | apply Kd.R_alloc | apply Kd.R_drewN | apply Kd.R_drew)); exact HO_301001.out)))); (try (obtain ⟨ce20, hcl20, hM20, hcc20, hfr20⟩ := Kd.R_elem HX20.out z50 (x10_1 : Int) (of_decide_eq_true (by first | (with_reducible assumption) | assumption)) (by have h_ : (x10_1 : Int) < ((x301001_1.length : Int) : Int) := of_decide_eq_true (by first | (with_reducible assumption) | assumption); first | exact h_ | (have e_ := (Kd.R_reads' HO_301001.out).1; omega) | simpa using h_))); (try (obtain rfl := k50_openM hM20)); (try (have HP20 := Kd.R_seg HX20.out (x10_1 : Int) (of_decide_eq_true (by first | (with_reducible assumption) | assumption)) (by have h_ : (x10_1 : Int) < ((x301001_1.length : Int) : Int) := of_decide_eq_true (by first | (with_reducible assumption) | assumption); first | exact h_ | (have e_ := (Kd.R_reads' HO_301001.out).1; omega) | simpa using h_) (seg := [.int .i64 (-1), .int .i64 0, .int .i64 0, .int .i64 0]) (j := 0) hcl20 hcc20 (show 4 ≤ 4 from by decide) (x' := (⟨(-1), 0, 0, 0⟩ : S50)) (k50_mkM _ _ _ (⟨(-1), 0, 0, 0⟩ : S50) ) (fun _ hk => hk))); (try (have hx20_0 := hcc20 0 _ rfl)); (try (try simp only [show (k50).sz = 4 from rfl, Nat.mul_one, Nat.add_zero] at hx20_0)); (try (have hf20_0 := hfr20 0)); (try (try simp only [show (k50).sz = 4 from rfl, Nat.mul_one, Nat.add_zero] at hf20_0)); (try (have hx20_1 := hcc20 1 _ rfl)); (try (try simp only [show (k50).sz = 4 from rfl, Nat.mul_one, Nat.add_zero] at hx20_1)); (try (have hf20_1 := hfr20 1)); (try (try simp only [show (k50).sz = 4 from rfl, Nat.mul_one, Nat.add_zero] at hf20_1)); (try (have hx20_2 := hcc20 2 _ rfl)); (try (try simp only [show (k50).sz = 4 from rfl, Nat.mul_one, Nat.add_zero] at hx20_2)); (try (have hf20_2 := hfr20 2)); (try (try simp only [show (k50).sz = 4 from rfl, Nat.mul_one, Nat.add_zero] at hf20_2)); (try (have hx20_3 := hcc20 3 _ rfl)); (try (try simp only [show (k50).sz = 4 from rfl, Nat.mul_one, Nat.add_zero] at hx20_3)); (try (have hf20_3 := hfr20 3)); (try (try simp only [show (k50).sz = 4 from rfl, Nat.mul_one, Nat.add_zero] at hf20_3)); (try (clear hcl20 hcc20 hfr20 hM20)))); refine store_event (t := 50) (p := 41) (v := ?vo_w21) (w1 := ((((wr.setCell ⟨go17, (x10_1 : Int).toNat * 4, none⟩ (.int .i64 (-1))).setCell ⟨go17, (x10_1 : Int).toNat * 4 + 1, none⟩ (.int .i64 0)).setCell ⟨go17, (x10_1 : Int).toNat * 4 + 2, none⟩ (.int .i64 0)).setCell ⟨go17, (x10_1 : Int).toNat * 4 + 3, none⟩ (.int .i64 0))) ?hg ?ho ?hn ?hr ?_; (case ho => rfl); (case hg => rfl); (case hn => rfl); (case hr => first | (go_simp; done) | (go_simp; rfl)); intro w21 hw; have hg : wr.grownBy w21 (some go17) := (by rw [hw]; exact HP20.2); have hp_ : Kd.R k50 50 w21 w.heap.size (fun _ => True) (.slice (some ⟨go17, 0, none⟩) x301001_1.length co19) y301 := (by rw [hw, Ny301.out]; exact HP20.1); clear HP20; have n0_ := Aside0.mk (Kd.R_over' (v := (.slice (some ⟨go17, 0, none⟩) x301001_1.length co19)) (by (with_reducible repeat (first | apply Kd.R_alloc | apply Kd.R_drewN | apply Kd.R_drew)); exact HO_6.out) (Kd.R_typed HO_301001.out) (by decide) hg); have n1_ := Aside0.mk (Kd.R_over' (v := (.slice (some ⟨go17, 0, none⟩) x301001_1.length co19)) (by (with_reducible repeat (first | apply Kd.R_alloc | apply Kd.R_drewN | apply Kd.R_drew)); exact HO_7.out) (Kd.R_typed HO_301001.out) (by decide) hg); have n2_ := Aside0.mk (hp_); have n3_ := Aside0.mk (Kd.R_over' (v := (.slice (some ⟨go17, 0, none⟩) x301001_1.length co19)) (by (with_reducible repeat (first | apply Kd.R_alloc | apply Kd.R_drewN | apply Kd.R_drew)); exact HO_301002.out) (Kd.R_typed HO_301001.out) (by decide) hg); have n4_ := Aside0.mk (Kd.R_over' (v := (.slice (some ⟨go17, 0, none⟩) x301001_1.length co19)) (by (with_reducible repeat (first | apply Kd.R_alloc | apply Kd.R_drewN | apply Kd.R_drew)); exact HO_301003.out) (Kd.R_typed HO_301001.out) (by decide) hg); have n5_ := Aside0.mk (blk_grown (g := gb300) (o := .cells #[.bool t289, .slice (some ⟨go17, 0, none⟩) x301001_1.length co19, .slice Ao13 t293.length co13, .slice Ao14 t296.length co14] 46 (0, 0)) (kX BK300.out) hg (Kd.R_ne HO_301001.out BK300.out (by decide))); have n6_ := Aside0.mk ((by rw [hw]; exact lS (lS (lS (lS (HB.out) GB17.out) GB17.out) GB17.out) GB17.out : Below w.heap.size w w21)); clear HO_6; clear HO_7; clear HO_301001; clear HO_301002; clear HO_301003; clear BK300; clear HB; have HO_6 := n0_; have HO_7 := n1_; have HO_301001 := n2_; have HO_301002 := n3_; have HO_301003 := n4_; have BK300 := n5_; have HB := n6_; clear n0_ n1_ n2_ n3_ n4_ n5_ n6_; clear hg hw hp_))
     repeat (go_quiet (first | ((with_reducible refine gate_store (t := 50) (p := 41) rfl ?_); (try (rw [drewN_self wr]; generalize hq_ : World.drewN wr _ = wr; have n0_ := Aside0.mk (Kd.R_at hq_ HO_6.out); have n1_ := Aside0.mk (Kd.R_at hq_ HO_7.out); have n2_ := Aside0.mk (Kd.R_at hq_ HO_301001.out); have n3_ := Aside0.mk (Kd.R_at hq_ HO_301002.out); have n4_ := Aside0.mk (Kd.R_at hq_ HO_301003.out); have n5_ := Aside0.mk (blk_at hq_ BK300.out); have n6_ := Aside0.mk (below_at hq_ HB.out); clear hq_ HO_6 HO_7 HO_301001 HO_301002 HO_301003 BK300 HB; have HO_6 := n0_; have HO_7 := n1_; have HO_301001 := n2_; have HO_301002 := n3_; have HO_301003 := n4_; have BK300 := n5_; have HB := n6_; clear n0_ n1_ n2_ n3_ n4_ n5_ n6_; (try (have HX20 := Aside0.mk (show Kd.R k50 50 wr w.heap.size (fun _ => True) (.slice (some ⟨go17, 0, none⟩) x301001_1.length co19) x301001_1 from (by (with_reducible repeat (first | apply Kd.R_alloc | apply Kd.R_drewN | apply Kd.R_drew)); exact HO_301001.out)))); (try (obtain ⟨ce20, hcl20, hM20, hcc20, hfr20⟩ := Kd.R_elem HX20.out z50 (x10_1 : Int) (of_decide_eq_true (by first | (with_reducible assumption) | assumption)) (by have h_ : (x10_1 : Int) < ((x301001_1.length : Int) : Int) := of_decide_eq_true (by first | (with_reducible assumption) | assumption); first | exact h_ | (have e_ := (Kd.R_reads' HO_301001.out).1; omega) | simpa using h_))); (try (obtain rfl := k50_openM hM20)); (try (have HP20 := Kd.R_seg HX20.out (x10_1 : Int) (of_decide_eq_true (by first | (with_reducible assumption) | assumption)) (by have h_ : (x10_1 : Int) < ((x301001_1.length : Int) : Int) := of_decide_eq_true (by first | (with_reducible assumption) | assumption); first | exact h_ | (have e_ := (Kd.R_reads' HO_301001.out).1; omega) | simpa using h_) (seg := [.int .i64 (-1), .int .i64 0, .int .i64 0, .int .i64 0]) (j := 0) hcl20 hcc20 (show 4 ≤ 4 from by decide) (x' := (⟨(-1), 0, 0, 0⟩ : S50)) (k50_mkM _ _ _ (⟨(-1), 0, 0, 0⟩ : S50) ) (fun _ hk => hk))); (try (have hx20_0 := hcc20 0 _ rfl)); (try (try simp only [show (k50).sz = 4 from rfl, Nat.mul_one, Nat.add_zero] at hx20_0)); (try (have hf20_0 := hfr20 0)); (try (try simp only [show (k50).sz = 4 from rfl, Nat.mul_one, Nat.add_zero] at hf20_0)); (try (have hx20_1 := hcc20 1 _ rfl)); (try (try simp only [show (k50).sz = 4 from rfl, Nat.mul_one, Nat.add_zero] at hx20_1)); (try (have hf20_1 := hfr20 1)); (try (try simp only [show (k50).sz = 4 from rfl, Nat.mul_one, Nat.add_zero] at hf20_1)); (try (have hx20_2 := hcc20 2 _ rfl)); (try (try simp only [show (k50).sz = 4 from rfl, Nat.mul_one, Nat.add_zero] at hx20_2)); (try (have hf20_2 := hfr20 2)); (try (try simp only [show (k50).sz = 4 from rfl, Nat.mul_one, Nat.add_zero] at hf20_2)); (try (have hx20_3 := hcc20 3 _ rfl)); (try (try simp only [show (k50).sz = 4 from rfl, Nat.mul_one, Nat.add_zero] at hx20_3)); (try (have hf20_3 := hfr20 3)); (try (try simp only [show (k50).sz = 4 from rfl, Nat.mul_one, Nat.add_zero] at hf20_3)); (try (clear hcl20 hcc20 hfr20 hM20)))); refine store_event (t := 50) (p := 41) (v := ?vo_w21) (w1 := ((((wr.setCell ⟨go17, (x10_1 : Int).toNat * 4, none⟩ (.int .i64 (-1))).setCell ⟨go17, (x10_1 : Int).toNat * 4 + 1, none⟩ (.int .i64 0)).setCell ⟨go17, (x10_1 : Int).toNat * 4 + 2, none⟩ (.int .i64 0)).setCell ⟨go17, (x10_1 : Int).toNat * 4 + 3, none⟩ (.int .i64 0))) ?hg ?ho ?hn ?hr ?_; (case ho => rfl); (case hg => rfl); (case hn => rfl); (case hr => first | (go_simp; done) | (go_simp; rfl)); intro w21 hw; have hg : wr.grownBy w21 (some go17) := (by rw [hw]; exact HP20.2); have hp_ : Kd.R k50 50 w21 w.heap.size (fun _ => True) (.slice (some ⟨go17, 0, none⟩) x301001_1.length co19) y301 := (by rw [hw, Ny301.out]; exact HP20.1); clear HP20; have n0_ := Aside0.mk (Kd.R_over' (v := (.slice (some ⟨go17, 0, none⟩) x301001_1.length co19)) (by (with_reducible repeat (first | apply Kd.R_alloc | apply Kd.R_drewN | apply Kd.R_drew)); exact HO_6.out) (Kd.R_typed HO_301001.out) (by decide) hg); have n1_ := Aside0.mk (Kd.R_over' (v := (.slice (some ⟨go17, 0, none⟩) x301001_1.length co19)) (by (with_reducible repeat (first | apply Kd.R_alloc | apply Kd.R_drewN | apply Kd.R_drew)); exact HO_7.out) (Kd.R_typed HO_301001.out) (by decide) hg); have n2_ := Aside0.mk (hp_); have n3_ := Aside0.mk (Kd.R_over' (v := (.slice (some ⟨go17, 0, none⟩) x301001_1.length co19)) (by (with_reducible repeat (first | apply Kd.R_alloc | apply Kd.R_drewN | apply Kd.R_drew)); exact HO_301002.out) (Kd.R_typed HO_301001.out) (by decide) hg); have n4_ := Aside0.mk (Kd.R_over' (v := (.slice (some ⟨go17, 0, none⟩) x301001_1.length co19)) (by (with_reducible repeat (first | apply Kd.R_alloc | apply Kd.R_drewN | apply Kd.R_drew)); exact HO_301003.out) (Kd.R_typed HO_301001.out) (by decide) hg); have n5_ := Aside0.mk (blk_grown (g := gb300) (o := .cells #[.bool t289, .slice (some ⟨go17, 0, none⟩) x301001_1.length co19, .slice Ao13 t293.length co13, .slice Ao14 t296.length co14] 46 (0, 0)) (kX BK300.out) hg (Kd.R_ne HO_301001.out BK300.out (by decide))); have n6_ := Aside0.mk ((by rw [hw]; exact lS (lS (lS (lS (HB.out) GB17.out) GB17.out) GB17.out) GB17.out : Below w.heap.size w w21)); clear HO_6; clear HO_7; clear HO_301001; clear HO_301002; clear HO_301003; clear BK300; clear HB; have HO_6 := n0_; have HO_7 := n1_; have HO_301001 := n2_; have HO_301002 := n3_; have HO_301003 := n4_; have BK300 := n5_; have HB := n6_; clear n0_ n1_ n2_ n3_ n4_ n5_ n6_; clear hg hw hp_)); try go_wp2_with (first | ((with_reducible refine gate_store (t := 50) (p := 41) rfl ?_); (try (rw [drewN_self wr]; generalize hq_ : World.drewN wr _ = wr; have n0_ := Aside0.mk (Kd.R_at hq_ HO_6.out); have n1_ := Aside0.mk (Kd.R_at hq_ HO_7.out); have n2_ := Aside0.mk (Kd.R_at hq_ HO_301001.out); have n3_ := Aside0.mk (Kd.R_at hq_ HO_301002.out); have n4_ := Aside0.mk (Kd.R_at hq_ HO_301003.out); have n5_ := Aside0.mk (blk_at hq_ BK300.out); have n6_ := Aside0.mk (below_at hq_ HB.out); clear hq_ HO_6 HO_7 HO_301001 HO_301002 HO_301003 BK300 HB; have HO_6 := n0_; have HO_7 := n1_; have HO_301001 := n2_; have HO_301002 := n3_; have HO_301003 := n4_; have BK300 := n5_; have HB := n6_; clear n0_ n1_ n2_ n3_ n4_ n5_ n6_; (try (have HX20 := Aside0.mk (show Kd.R k50 50 wr w.heap.size (fun _ => True) (.slice (some ⟨go17, 0, none⟩) x301001_1.length co19) x301001_1 from (by (with_reducible repeat (first | apply Kd.R_alloc | apply Kd.R_drewN | apply Kd.R_drew)); exact HO_301001.out)))); (try (obtain ⟨ce20, hcl20, hM20, hcc20, hfr20⟩ := Kd.R_elem HX20.out z50 (x10_1 : Int) (of_decide_eq_true (by first | (with_reducible assumption) | assumption)) (by have h_ : (x10_1 : Int) < ((x301001_1.length : Int) : Int) := of_decide_eq_true (by first | (with_reducible assumption) | assumption); first | exact h_ | (have e_ := (Kd.R_reads' HO_301001.out).1; omega) | simpa using h_))); (try (obtain rfl := k50_openM hM20)); (try (have HP20 := Kd.R_seg HX20.out (x10_1 : Int) (of_decide_eq_true (by first | (with_reducible assumption) | assumption)) (by have h_ : (x10_1 : Int) < ((x301001_1.length : Int) : Int) := of_decide_eq_true (by first | (with_reducible assumption) | assumption); first | exact h_ | (have e_ := (Kd.R_reads' HO_301001.out).1; omega) | simpa using h_) (seg := [.int .i64 (-1), .int .i64 0, .int .i64 0, .int .i64 0]) (j := 0) hcl20 hcc20 (show 4 ≤ 4 from by decide) (x' := (⟨(-1), 0, 0, 0⟩ : S50)) (k50_mkM _ _ _ (⟨(-1), 0, 0, 0⟩ : S50) ) (fun _ hk => hk))); (try (have hx20_0 := hcc20 0 _ rfl)); (try (try simp only [show (k50).sz = 4 from rfl, Nat.mul_one, Nat.add_zero] at hx20_0)); (try (have hf20_0 := hfr20 0)); (try (try simp only [show (k50).sz = 4 from rfl, Nat.mul_one, Nat.add_zero] at hf20_0)); (try (have hx20_1 := hcc20 1 _ rfl)); (try (try simp only [show (k50).sz = 4 from rfl, Nat.mul_one, Nat.add_zero] at hx20_1)); (try (have hf20_1 := hfr20 1)); (try (try simp only [show (k50).sz = 4 from rfl, Nat.mul_one, Nat.add_zero] at hf20_1)); (try (have hx20_2 := hcc20 2 _ rfl)); (try (try simp only [show (k50).sz = 4 from rfl, Nat.mul_one, Nat.add_zero] at hx20_2)); (try (have hf20_2 := hfr20 2)); (try (try simp only [show (k50).sz = 4 from rfl, Nat.mul_one, Nat.add_zero] at hf20_2)); (try (have hx20_3 := hcc20 3 _ rfl)); (try (try simp only [show (k50).sz = 4 from rfl, Nat.mul_one, Nat.add_zero] at hx20_3)); (try (have hf20_3 := hfr20 3)); (try (try simp only [show (k50).sz = 4 from rfl, Nat.mul_one, Nat.add_zero] at hf20_3)); (try (clear hcl20 hcc20 hfr20 hM20)))); refine store_event (t := 50) (p := 41) (v := ?vo_w21) (w1 := ((((wr.setCell ⟨go17, (x10_1 : Int).toNat * 4, none⟩ (.int .i64 (-1))).setCell ⟨go17, (x10_1 : Int).toNat * 4 + 1, none⟩ (.int .i64 0)).setCell ⟨go17, (x10_1 : Int).toNat * 4 + 2, none⟩ (.int .i64 0)).setCell ⟨go17, (x10_1 : Int).toNat * 4 + 3, none⟩ (.int .i64 0))) ?hg ?ho ?hn ?hr ?_; (case ho => rfl); (case hg => rfl); (case hn => rfl); (case hr => first | (go_simp; done) | (go_simp; rfl)); intro w21 hw; have hg : wr.grownBy w21 (some go17) := (by rw [hw]; exact HP20.2); have hp_ : Kd.R k50 50 w21 w.heap.size (fun _ => True) (.slice (some ⟨go17, 0, none⟩) x301001_1.length co19) y301 := (by rw [hw, Ny301.out]; exact HP20.1); clear HP20; have n0_ := Aside0.mk (Kd.R_over' (v := (.slice (some ⟨go17, 0, none⟩) x301001_1.length co19)) (by (with_reducible repeat (first | apply Kd.R_alloc | apply Kd.R_drewN | apply Kd.R_drew)); exact HO_6.out) (Kd.R_typed HO_301001.out) (by decide) hg); have n1_ := Aside0.mk (Kd.R_over' (v := (.slice (some ⟨go17, 0, none⟩) x301001_1.length co19)) (by (with_reducible repeat (first | apply Kd.R_alloc | apply Kd.R_drewN | apply Kd.R_drew)); exact HO_7.out) (Kd.R_typed HO_301001.out) (by decide) hg); have n2_ := Aside0.mk (hp_); have n3_ := Aside0.mk (Kd.R_over' (v := (.slice (some ⟨go17, 0, none⟩) x301001_1.length co19)) (by (with_reducible repeat (first | apply Kd.R_alloc | apply Kd.R_drewN | apply Kd.R_drew)); exact HO_301002.out) (Kd.R_typed HO_301001.out) (by decide) hg); have n4_ := Aside0.mk (Kd.R_over' (v := (.slice (some ⟨go17, 0, none⟩) x301001_1.length co19)) (by (with_reducible repeat (first | apply Kd.R_alloc | apply Kd.R_drewN | apply Kd.R_drew)); exact HO_301003.out) (Kd.R_typed HO_301001.out) (by decide) hg); have n5_ := Aside0.mk (blk_grown (g := gb300) (o := .cells #[.bool t289, .slice (some ⟨go17, 0, none⟩) x301001_1.length co19, .slice Ao13 t293.length co13, .slice Ao14 t296.length co14] 46 (0, 0)) (kX BK300.out) hg (Kd.R_ne HO_301001.out BK300.out (by decide))); have n6_ := Aside0.mk ((by rw [hw]; exact lS (lS (lS (lS (HB.out) GB17.out) GB17.out) GB17.out) GB17.out : Below w.heap.size w w21)); clear HO_6; clear HO_7; clear HO_301001; clear HO_301002; clear HO_301003; clear BK300; clear HB; have HO_6 := n0_; have HO_7 := n1_; have HO_301001 := n2_; have HO_301002 := n3_; have HO_301003 := n4_; have BK300 := n5_; have HB := n6_; clear n0_ n1_ n2_ n3_ n4_ n5_ n6_; clear hg hw hp_)))
     go_roundg k1
     case measure => have := HK1.out; omega
     case rel => exact ⟨(wrap64 (x10_1 + 1)), (y301), (.slice (some ⟨go17, 0, none⟩) x301001_1.length co19), (by first | rfl | (simp; done) | (simp [*]; done)), H', ⟨by have := HK1.out; omega⟩, ⟨by (with_reducible repeat (first | apply Kd.R_alloc | apply Kd.R_drewN | apply Kd.R_drew)); exact HO_6.out⟩, ⟨by (with_reducible repeat (first | apply Kd.R_alloc | apply Kd.R_drewN | apply Kd.R_drew)); exact HO_7.out⟩, ⟨by (with_reducible repeat (first | apply Kd.R_alloc | apply Kd.R_drewN | apply Kd.R_drew)); exact HO_301001.out⟩, ⟨by (with_reducible repeat (first | apply Kd.R_alloc | apply Kd.R_drewN | apply Kd.R_drew)); exact HO_301002.out⟩, ⟨by (with_reducible repeat (first | apply Kd.R_alloc | apply Kd.R_drewN | apply Kd.R_drew)); exact HO_301003.out⟩, ⟨by (with_reducible repeat (first | refine kN ?_ _ | refine kD ?_ | refine kA ?_ _)); exact BK300.out⟩, ⟨by repeat (first | (with_reducible first | exact HB.out | apply lA | apply lN | apply lD | refine lS ?_ GE300.out) | exact HB.out)⟩⟩
    ·rw [if_neg c16] at H
     exact absurd H (by simp)
   ·rw [if_neg c15] at H
    have c15b0 : decide (x10_1 < (x301001_1.length : Int)) = false := decide_eq_false c15
    clear c15
    have H' := Aside0.mk H
    clear H
    have hcz22_0 : wr.cell? ⟨gb300, 0, none⟩ = some (.bool t289) := (blk_cell BK300.out 0).trans rfl
    have hcz22_1 : wr.cell? ⟨gb300, 1, none⟩ = some (u301001) := (blk_cell BK300.out 1).trans rfl
    have hcz22_2 : wr.cell? ⟨gb300, 2, none⟩ = some (.slice Ao13 t293.length co13) := (blk_cell BK300.out 2).trans rfl
    have hcz22_3 : wr.cell? ⟨gb300, 3, none⟩ = some (.slice Ao14 t296.length co14) := (blk_cell BK300.out 3).trans rfl
    have hfz22_0 := blk_frozen BK300.out 0
    have hfz22_1 := blk_frozen BK300.out 1
    have hfz22_2 := blk_frozen BK300.out 2
    have hfz22_3 := blk_frozen BK300.out 3
    obtain ⟨Ao23, co23, eo23⟩ := Kd.R_slice HO_301001.out
    subst eo23
    go_wp2
    repeat (go_quiet (fail); try go_wp2)
    go_loopg [11] k1 (fun kq v11 w' => ∃ (x11_2 : Int) (x301003_2 : List (S34)) (u301003 : Value), v11 = .int .i64 x11_2 ∧ Aside0 (L4_BenchOwn.l1 kq t282 t283 t286 t299 x11_2 t289 x301001_1 t293 x301003_2 = some r) ∧ Aside0 (kq ≤ k1) ∧ Aside0 (Kd.R k40 40 w' w.heap.size (fun k_ => some k_ ≠ (v287 : Value).ownBlock) (.slice Ao7 t283.length co7) t283) ∧ Aside0 (Kd.R k40 40 w' w.heap.size (fun k_ => some k_ ≠ ((.slice Ao7 t283.length co7) : Value).ownBlock) v287 t286) ∧ Aside0 (Kd.R k50 50 w' w.heap.size (fun _ => True) (.slice Ao23 x301001_1.length co23) x301001_1) ∧ Aside0 (Kd.R (Kd.int .i64) 3 w' w.heap.size (fun _ => True) (.slice Ao13 t293.length co13) t293) ∧ Aside0 (Kd.R k34 34 w' w.heap.size (fun _ => True) u301003 x301003_2) ∧ Aside0 (w'.heap[gb300]? = some (.cells #[.bool t289, (.slice Ao23 x301001_1.length co23), (.slice Ao13 t293.length co13), u301003] 46 (0, 0))) ∧ Aside0 (Below w.heap.size w w'))
    case atStart => exact ⟨(0), (t296), (.slice Ao14 t296.length co14), (by first | rfl | (simp; done) | (simp [*]; done)), H', ⟨Nat.le_refl _⟩, ⟨by (with_reducible repeat (first | apply Kd.R_alloc | apply Kd.R_drewN | apply Kd.R_drew)); exact HO_6.out⟩, ⟨by (with_reducible repeat (first | apply Kd.R_alloc | apply Kd.R_drewN | apply Kd.R_drew)); exact HO_7.out⟩, ⟨by (with_reducible repeat (first | apply Kd.R_alloc | apply Kd.R_drewN | apply Kd.R_drew)); exact HO_301001.out⟩, ⟨by (with_reducible repeat (first | apply Kd.R_alloc | apply Kd.R_drewN | apply Kd.R_drew)); exact HO_301002.out⟩, ⟨by (with_reducible repeat (first | apply Kd.R_alloc | apply Kd.R_drewN | apply Kd.R_drew)); exact HO_301003.out⟩, ⟨by (with_reducible repeat (first | refine kN ?_ _ | refine kD ?_ | refine kA ?_ _)); exact BK300.out⟩, ⟨by repeat (first | (with_reducible first | exact HB.out | apply lA | apply lN | apply lD | refine lS ?_ GE300.out) | exact HB.out)⟩⟩
    case round =>
     clear H'
     try clear c1
     try clear p1
     try clear q1
     try clear hx1
     try clear c2
     try clear p2
     try clear hx2
     try clear hf2
     try clear p6
     try clear c8
     try clear c15
     try clear c15b0
     try clear c16
     try clear c16b0
     try clear c17
     try clear p17
     try clear q17
     try clear hx17
     try clear hf17
     try clear c20
     try clear hx20
     try clear hf20
     try clear hcz11_0
     try clear hcz11_1
     try clear hcz11_2
     try clear hcz11_3
     try clear hcz18_0
     try clear hcz18_1
     try clear hcz18_2
     try clear hcz18_3
     try clear hcz22_0
     try clear hcz22_1
     try clear hcz22_2
     try clear hcz22_3
     try clear hfz11_0
     try clear hfz11_1
     try clear hfz11_2
     try clear hfz11_3
     try clear hfz18_0
     try clear hfz18_1
     try clear hfz18_2
     try clear hfz18_3
     try clear hfz22_0
     try clear hfz22_1
     try clear hfz22_2
     try clear hfz22_3
     try clear hx17_0
     try clear hx17_1
     try clear hx17_2
     try clear hx17_3
     try clear hx20_0
     try clear hx20_1
     try clear hx20_2
     try clear hx20_3
     try clear p17
     try clear p2
     try clear q17
     obtain ⟨x11_2, x301003_2, u301003, rfl, HA, HK2, HO_6, HO_7, HO_301001, HO_301002, HO_301003, BK300, HB⟩ := hrel
     cases gk with
     | zero => exact absurd HA.out (by simp [L4_BenchOwn.l1])
     | succ k2 =>
      have H := HA.out
      clear HA
      simp only [L4_BenchOwn.l1] at H
      by_cases c24 : x11_2 < (x301003_2.length : Int)
      ·rw [if_pos c24] at H
       have c24b0 : decide (x11_2 < (x301003_2.length : Int)) = true := decide_eq_true c24
       clear c24
       by_cases c25 : 0 ≤ x11_2
       ·rw [if_pos c25] at H
        have c25b0 : decide (0 ≤ x11_2) = true := decide_eq_true c25
        clear c25
        obtain ⟨y302, hy302⟩ : ∃ y_ : List (S34), y_ = (x301003_2.set (x11_2 : Int).toNat (⟨(-1), (-1)⟩ : S34)) := ⟨_, rfl⟩
        replace H : (L4_BenchOwn.l1 k2 t282 t283 t286 t299 (wrap64 (x11_2 + 1)) t289 x301001_1 t293 y302) = some r := by first | (rw [hy302]; with_reducible exact H) | (have H2_ := (Option.bind_some _ _).symm.trans H; rw [hy302]; with_reducible exact H2_) | (have H2_ := (Option.bind_some _ _).symm.trans H; with_reducible exact H2_) | with_reducible exact H | (rw [hy302]; exact H) | exact H
        have Ny302 := Aside0.mk hy302
        clear hy302
        have H' := Aside0.mk H
        clear H
        have hcz27_0 : wr.cell? ⟨gb300, 0, none⟩ = some (.bool t289) := (blk_cell BK300.out 0).trans rfl
        have hcz27_1 : wr.cell? ⟨gb300, 1, none⟩ = some (.slice Ao23 x301001_1.length co23) := (blk_cell BK300.out 1).trans rfl
        have hcz27_2 : wr.cell? ⟨gb300, 2, none⟩ = some (.slice Ao13 t293.length co13) := (blk_cell BK300.out 2).trans rfl
        have hcz27_3 : wr.cell? ⟨gb300, 3, none⟩ = some (u301003) := (blk_cell BK300.out 3).trans rfl
        have hfz27_0 := blk_frozen BK300.out 0
        have hfz27_1 := blk_frozen BK300.out 1
        have hfz27_2 := blk_frozen BK300.out 2
        have hfz27_3 := blk_frozen BK300.out 3
        obtain ⟨Ao28, co28, eo28⟩ := Kd.R_slice HO_301003.out
        subst eo28
        have p26 : 0 ≤ (x11_2 : Int) := of_decide_eq_true (by first | (with_reducible assumption) | assumption)
        have q26 : (x11_2 : Int) < ((x301003_2.length : Int) : Int) := of_decide_eq_true (by first | (with_reducible assumption) | assumption)
        obtain ⟨go26, co26, eo26, gb26, gl26, cl26, HG26⟩ := Kd.R_form HO_301003.out (by omega)
        (first | cases eo26 | (injection eo26 with ea_ en_ ec_; (first | subst ea_ | (injection ea_ with ea_; subst ea_)); subst ec_; clear en_))
        have GB26 := Aside0.mk gb26
        have GG26 := Aside0.mk HG26
        clear gb26 gl26 HG26
        obtain ⟨ce26, hcl26, hM26, hcc26, hfr26⟩ := Kd.R_elem HO_301003.out z34 (x11_2 : Int) p26 q26
        obtain rfl := k34_openM hM26
        have hx26_0 : wr.cell? ⟨go26, (x11_2 : Int).toNat * 2, none⟩ = some (.int .i64 ((rd_T34 x301003_2 x11_2).f0)) := hcc26 0 _ rfl
        have hx26_1 : wr.cell? ⟨go26, (x11_2 : Int).toNat * 2 + 1, none⟩ = some (.int .i64 ((rd_T34 x301003_2 x11_2).f1)) := hcc26 1 _ rfl
        have hf26_0 : wr.frozen? ⟨go26, (x11_2 : Int).toNat * 2, none⟩ = false := hfr26 0
        have hf26_1 : wr.frozen? ⟨go26, (x11_2 : Int).toNat * 2 + 1, none⟩ = false := hfr26 1
        clear hcl26 hcc26 hfr26 hM26
        replace p26 := eq_true p26
        replace q26 := eq_true q26
        have HX29 := Aside0.mk (show Kd.R k34 34 wr w.heap.size (fun _ => True) (.slice (some ⟨go26, 0, none⟩) x301003_2.length co28) x301003_2 from (by (with_reducible repeat (first | apply Kd.R_alloc | apply Kd.R_drewN | apply Kd.R_drew)); exact HO_301003.out))
        obtain ⟨ce29, hcl29, hM29, hcc29, hfr29⟩ := Kd.R_elem HX29.out z34 (x11_2 : Int) (of_decide_eq_true (by first | (with_reducible assumption) | assumption)) (by have h_ : (x11_2 : Int) < ((x301003_2.length : Int) : Int) := of_decide_eq_true (by first | (with_reducible assumption) | assumption); first | exact h_ | (have e_ := (Kd.R_reads' HO_301003.out).1; omega) | simpa using h_)
        obtain rfl := k34_openM hM29
        have HP29 := Kd.R_seg HX29.out (x11_2 : Int) (of_decide_eq_true (by first | (with_reducible assumption) | assumption)) (by have h_ : (x11_2 : Int) < ((x301003_2.length : Int) : Int) := of_decide_eq_true (by first | (with_reducible assumption) | assumption); first | exact h_ | (have e_ := (Kd.R_reads' HO_301003.out).1; omega) | simpa using h_) (seg := [.int .i64 (-1), .int .i64 (-1)]) (j := 0) hcl29 hcc29 (show 2 ≤ 2 from by decide) (x' := (⟨(-1), (-1)⟩ : S34)) (k34_mkM _ _ _ (⟨(-1), (-1)⟩ : S34) ) (fun _ hk => hk)
        have hx29_0 := hcc29 0 _ rfl
        (try simp only [show (k34).sz = 2 from rfl, Nat.mul_one, Nat.add_zero] at hx29_0)
        have hf29_0 := hfr29 0
        (try simp only [show (k34).sz = 2 from rfl, Nat.mul_one, Nat.add_zero] at hf29_0)
        have hx29_1 := hcc29 1 _ rfl
        (try simp only [show (k34).sz = 2 from rfl, Nat.mul_one, Nat.add_zero] at hx29_1)
        have hf29_1 := hfr29 1
        (try simp only [show (k34).sz = 2 from rfl, Nat.mul_one, Nat.add_zero] at hf29_1)
        clear hcl29 hcc29 hfr29 hM29
        go_wp2_with (first | ((with_reducible refine gate_store (t := 34) (p := 53) rfl ?_); (try (rw [drewN_self wr]; generalize hq_ : World.drewN wr _ = wr; have n0_ := Aside0.mk (Kd.R_at hq_ HO_6.out); have n1_ := Aside0.mk (Kd.R_at hq_ HO_7.out); have n2_ := Aside0.mk (Kd.R_at hq_ HO_301001.out); have n3_ := Aside0.mk (Kd.R_at hq_ HO_301002.out); have n4_ := Aside0.mk (Kd.R_at hq_ HO_301003.out); have n5_ := Aside0.mk (blk_at hq_ BK300.out); have n6_ := Aside0.mk (below_at hq_ HB.out); clear hq_ HO_6 HO_7 HO_301001 HO_301002 HO_301003 BK300 HB; have HO_6 := n0_; have HO_7 := n1_; have HO_301001 := n2_; have HO_301002 := n3_; have HO_301003 := n4_; have BK300 := n5_; have HB := n6_; clear n0_ n1_ n2_ n3_ n4_ n5_ n6_; (try (have HX29 := Aside0.mk (show Kd.R k34 34 wr w.heap.size (fun _ => True) (.slice (some ⟨go26, 0, none⟩) x301003_2.length co28) x301003_2 from (by (with_reducible repeat (first | apply Kd.R_alloc | apply Kd.R_drewN | apply Kd.R_drew)); exact HO_301003.out)))); (try (obtain ⟨ce29, hcl29, hM29, hcc29, hfr29⟩ := Kd.R_elem HX29.out z34 (x11_2 : Int) (of_decide_eq_true (by first | (with_reducible assumption) | assumption)) (by have h_ : (x11_2 : Int) < ((x301003_2.length : Int) : Int) := of_decide_eq_true (by first | (with_reducible assumption) | assumption); first | exact h_ | (have e_ := (Kd.R_reads' HO_301003.out).1; omega) | simpa using h_))); (try (obtain rfl := k34_openM hM29)); (try (have HP29 := Kd.R_seg HX29.out (x11_2 : Int) (of_decide_eq_true (by first | (with_reducible assumption) | assumption)) (by have h_ : (x11_2 : Int) < ((x301003_2.length : Int) : Int) := of_decide_eq_true (by first | (with_reducible assumption) | assumption); first | exact h_ | (have e_ := (Kd.R_reads' HO_301003.out).1; omega) | simpa using h_) (seg := [.int .i64 (-1), .int .i64 (-1)]) (j := 0) hcl29 hcc29 (show 2 ≤ 2 from by decide) (x' := (⟨(-1), (-1)⟩ : S34)) (k34_mkM _ _ _ (⟨(-1), (-1)⟩ : S34) ) (fun _ hk => hk))); (try (have hx29_0 := hcc29 0 _ rfl)); (try (try simp only [show (k34).sz = 2 from rfl, Nat.mul_one, Nat.add_zero] at hx29_0)); (try (have hf29_0 := hfr29 0)); (try (try simp only [show (k34).sz = 2 from rfl, Nat.mul_one, Nat.add_zero] at hf29_0)); (try (have hx29_1 := hcc29 1 _ rfl)); (try (try simp only [show (k34).sz = 2 from rfl, Nat.mul_one, Nat.add_zero] at hx29_1)); (try (have hf29_1 := hfr29 1)); (try (try simp only [show (k34).sz = 2 from rfl, Nat.mul_one, Nat.add_zero] at hf29_1)); (try (clear hcl29 hcc29 hfr29 hM29)))); refine store_event (t := 34) (p := 53) (v := ?vo_w30) (w1 := ((wr.setCell ⟨go26, (x11_2 : Int).toNat * 2, none⟩ (.int .i64 (-1))).setCell ⟨go26, (x11_2 : Int).toNat * 2 + 1, none⟩ (.int .i64 (-1)))) ?hg ?ho ?hn ?hr ?_; (case ho => rfl); (case hg => rfl); (case hn => rfl); (case hr => first | (go_simp; done) | (go_simp; rfl)); intro w30 hw; have hg : wr.grownBy w30 (some go26) := (by rw [hw]; exact HP29.2); have hp_ : Kd.R k34 34 w30 w.heap.size (fun _ => True) (.slice (some ⟨go26, 0, none⟩) x301003_2.length co28) y302 := (by rw [hw, Ny302.out]; exact HP29.1); clear HP29; have n0_ := Aside0.mk (Kd.R_over' (v := (.slice (some ⟨go26, 0, none⟩) x301003_2.length co28)) (by (with_reducible repeat (first | apply Kd.R_alloc | apply Kd.R_drewN | apply Kd.R_drew)); exact HO_6.out) (Kd.R_typed HO_301003.out) (by decide) hg); have n1_ := Aside0.mk (Kd.R_over' (v := (.slice (some ⟨go26, 0, none⟩) x301003_2.length co28)) (by (with_reducible repeat (first | apply Kd.R_alloc | apply Kd.R_drewN | apply Kd.R_drew)); exact HO_7.out) (Kd.R_typed HO_301003.out) (by decide) hg); have n2_ := Aside0.mk (Kd.R_over' (v := (.slice (some ⟨go26, 0, none⟩) x301003_2.length co28)) (by (with_reducible repeat (first | apply Kd.R_alloc | apply Kd.R_drewN | apply Kd.R_drew)); exact HO_301001.out) (Kd.R_typed HO_301003.out) (by decide) hg); have n3_ := Aside0.mk (Kd.R_over' (v := (.slice (some ⟨go26, 0, none⟩) x301003_2.length co28)) (by (with_reducible repeat (first | apply Kd.R_alloc | apply Kd.R_drewN | apply Kd.R_drew)); exact HO_301002.out) (Kd.R_typed HO_301003.out) (by decide) hg); have n4_ := Aside0.mk (hp_); have n5_ := Aside0.mk (blk_grown (g := gb300) (o := .cells #[.bool t289, .slice Ao23 x301001_1.length co23, .slice Ao13 t293.length co13, .slice (some ⟨go26, 0, none⟩) x301003_2.length co28] 46 (0, 0)) (kX BK300.out) hg (Kd.R_ne HO_301003.out BK300.out (by decide))); have n6_ := Aside0.mk ((by rw [hw]; exact lS (lS (HB.out) GB26.out) GB26.out : Below w.heap.size w w30)); clear HO_6; clear HO_7; clear HO_301001; clear HO_301002; clear HO_301003; clear BK300; clear HB; have HO_6 := n0_; have HO_7 := n1_; have HO_301001 := n2_; have HO_301002 := n3_; have HO_301003 := n4_; have BK300 := n5_; have HB := n6_; clear n0_ n1_ n2_ n3_ n4_ n5_ n6_; clear hg hw hp_))
        repeat (go_quiet (first | ((with_reducible refine gate_store (t := 34) (p := 53) rfl ?_); (try (rw [drewN_self wr]; generalize hq_ : World.drewN wr _ = wr; have n0_ := Aside0.mk (Kd.R_at hq_ HO_6.out); have n1_ := Aside0.mk (Kd.R_at hq_ HO_7.out); have n2_ := Aside0.mk (Kd.R_at hq_ HO_301001.out); have n3_ := Aside0.mk (Kd.R_at hq_ HO_301002.out); have n4_ := Aside0.mk (Kd.R_at hq_ HO_301003.out); have n5_ := Aside0.mk (blk_at hq_ BK300.out); have n6_ := Aside0.mk (below_at hq_ HB.out); clear hq_ HO_6 HO_7 HO_301001 HO_301002 HO_301003 BK300 HB; have HO_6 := n0_; have HO_7 := n1_; have HO_301001 := n2_; have HO_301002 := n3_; have HO_301003 := n4_; have BK300 := n5_; have HB := n6_; clear n0_ n1_ n2_ n3_ n4_ n5_ n6_; (try (have HX29 := Aside0.mk (show Kd.R k34 34 wr w.heap.size (fun _ => True) (.slice (some ⟨go26, 0, none⟩) x301003_2.length co28) x301003_2 from (by (with_reducible repeat (first | apply Kd.R_alloc | apply Kd.R_drewN | apply Kd.R_drew)); exact HO_301003.out)))); (try (obtain ⟨ce29, hcl29, hM29, hcc29, hfr29⟩ := Kd.R_elem HX29.out z34 (x11_2 : Int) (of_decide_eq_true (by first | (with_reducible assumption) | assumption)) (by have h_ : (x11_2 : Int) < ((x301003_2.length : Int) : Int) := of_decide_eq_true (by first | (with_reducible assumption) | assumption); first | exact h_ | (have e_ := (Kd.R_reads' HO_301003.out).1; omega) | simpa using h_))); (try (obtain rfl := k34_openM hM29)); (try (have HP29 := Kd.R_seg HX29.out (x11_2 : Int) (of_decide_eq_true (by first | (with_reducible assumption) | assumption)) (by have h_ : (x11_2 : Int) < ((x301003_2.length : Int) : Int) := of_decide_eq_true (by first | (with_reducible assumption) | assumption); first | exact h_ | (have e_ := (Kd.R_reads' HO_301003.out).1; omega) | simpa using h_) (seg := [.int .i64 (-1), .int .i64 (-1)]) (j := 0) hcl29 hcc29 (show 2 ≤ 2 from by decide) (x' := (⟨(-1), (-1)⟩ : S34)) (k34_mkM _ _ _ (⟨(-1), (-1)⟩ : S34) ) (fun _ hk => hk))); (try (have hx29_0 := hcc29 0 _ rfl)); (try (try simp only [show (k34).sz = 2 from rfl, Nat.mul_one, Nat.add_zero] at hx29_0)); (try (have hf29_0 := hfr29 0)); (try (try simp only [show (k34).sz = 2 from rfl, Nat.mul_one, Nat.add_zero] at hf29_0)); (try (have hx29_1 := hcc29 1 _ rfl)); (try (try simp only [show (k34).sz = 2 from rfl, Nat.mul_one, Nat.add_zero] at hx29_1)); (try (have hf29_1 := hfr29 1)); (try (try simp only [show (k34).sz = 2 from rfl, Nat.mul_one, Nat.add_zero] at hf29_1)); (try (clear hcl29 hcc29 hfr29 hM29)))); refine store_event (t := 34) (p := 53) (v := ?vo_w30) (w1 := ((wr.setCell ⟨go26, (x11_2 : Int).toNat * 2, none⟩ (.int .i64 (-1))).setCell ⟨go26, (x11_2 : Int).toNat * 2 + 1, none⟩ (.int .i64 (-1)))) ?hg ?ho ?hn ?hr ?_; (case ho => rfl); (case hg => rfl); (case hn => rfl); (case hr => first | (go_simp; done) | (go_simp; rfl)); intro w30 hw; have hg : wr.grownBy w30 (some go26) := (by rw [hw]; exact HP29.2); have hp_ : Kd.R k34 34 w30 w.heap.size (fun _ => True) (.slice (some ⟨go26, 0, none⟩) x301003_2.length co28) y302 := (by rw [hw, Ny302.out]; exact HP29.1); clear HP29; have n0_ := Aside0.mk (Kd.R_over' (v := (.slice (some ⟨go26, 0, none⟩) x301003_2.length co28)) (by (with_reducible repeat (first | apply Kd.R_alloc | apply Kd.R_drewN | apply Kd.R_drew)); exact HO_6.out) (Kd.R_typed HO_301003.out) (by decide) hg); have n1_ := Aside0.mk (Kd.R_over' (v := (.slice (some ⟨go26, 0, none⟩) x301003_2.length co28)) (by (with_reducible repeat (first | apply Kd.R_alloc | apply Kd.R_drewN | apply Kd.R_drew)); exact HO_7.out) (Kd.R_typed HO_301003.out) (by decide) hg); have n2_ := Aside0.mk (Kd.R_over' (v := (.slice (some ⟨go26, 0, none⟩) x301003_2.length co28)) (by (with_reducible repeat (first | apply Kd.R_alloc | apply Kd.R_drewN | apply Kd.R_drew)); exact HO_301001.out) (Kd.R_typed HO_301003.out) (by decide) hg); have n3_ := Aside0.mk (Kd.R_over' (v := (.slice (some ⟨go26, 0, none⟩) x301003_2.length co28)) (by (with_reducible repeat (first | apply Kd.R_alloc | apply Kd.R_drewN | apply Kd.R_drew)); exact HO_301002.out) (Kd.R_typed HO_301003.out) (by decide) hg); have n4_ := Aside0.mk (hp_); have n5_ := Aside0.mk (blk_grown (g := gb300) (o := .cells #[.bool t289, .slice Ao23 x301001_1.length co23, .slice Ao13 t293.length co13, .slice (some ⟨go26, 0, none⟩) x301003_2.length co28] 46 (0, 0)) (kX BK300.out) hg (Kd.R_ne HO_301003.out BK300.out (by decide))); have n6_ := Aside0.mk ((by rw [hw]; exact lS (lS (HB.out) GB26.out) GB26.out : Below w.heap.size w w30)); clear HO_6; clear HO_7; clear HO_301001; clear HO_301002; clear HO_301003; clear BK300; clear HB; have HO_6 := n0_; have HO_7 := n1_; have HO_301001 := n2_; have HO_301002 := n3_; have HO_301003 := n4_; have BK300 := n5_; have HB := n6_; clear n0_ n1_ n2_ n3_ n4_ n5_ n6_; clear hg hw hp_)); try go_wp2_with (first | ((with_reducible refine gate_store (t := 34) (p := 53) rfl ?_); (try (rw [drewN_self wr]; generalize hq_ : World.drewN wr _ = wr; have n0_ := Aside0.mk (Kd.R_at hq_ HO_6.out); have n1_ := Aside0.mk (Kd.R_at hq_ HO_7.out); have n2_ := Aside0.mk (Kd.R_at hq_ HO_301001.out); have n3_ := Aside0.mk (Kd.R_at hq_ HO_301002.out); have n4_ := Aside0.mk (Kd.R_at hq_ HO_301003.out); have n5_ := Aside0.mk (blk_at hq_ BK300.out); have n6_ := Aside0.mk (below_at hq_ HB.out); clear hq_ HO_6 HO_7 HO_301001 HO_301002 HO_301003 BK300 HB; have HO_6 := n0_; have HO_7 := n1_; have HO_301001 := n2_; have HO_301002 := n3_; have HO_301003 := n4_; have BK300 := n5_; have HB := n6_; clear n0_ n1_ n2_ n3_ n4_ n5_ n6_; (try (have HX29 := Aside0.mk (show Kd.R k34 34 wr w.heap.size (fun _ => True) (.slice (some ⟨go26, 0, none⟩) x301003_2.length co28) x301003_2 from (by (with_reducible repeat (first | apply Kd.R_alloc | apply Kd.R_drewN | apply Kd.R_drew)); exact HO_301003.out)))); (try (obtain ⟨ce29, hcl29, hM29, hcc29, hfr29⟩ := Kd.R_elem HX29.out z34 (x11_2 : Int) (of_decide_eq_true (by first | (with_reducible assumption) | assumption)) (by have h_ : (x11_2 : Int) < ((x301003_2.length : Int) : Int) := of_decide_eq_true (by first | (with_reducible assumption) | assumption); first | exact h_ | (have e_ := (Kd.R_reads' HO_301003.out).1; omega) | simpa using h_))); (try (obtain rfl := k34_openM hM29)); (try (have HP29 := Kd.R_seg HX29.out (x11_2 : Int) (of_decide_eq_true (by first | (with_reducible assumption) | assumption)) (by have h_ : (x11_2 : Int) < ((x301003_2.length : Int) : Int) := of_decide_eq_true (by first | (with_reducible assumption) | assumption); first | exact h_ | (have e_ := (Kd.R_reads' HO_301003.out).1; omega) | simpa using h_) (seg := [.int .i64 (-1), .int .i64 (-1)]) (j := 0) hcl29 hcc29 (show 2 ≤ 2 from by decide) (x' := (⟨(-1), (-1)⟩ : S34)) (k34_mkM _ _ _ (⟨(-1), (-1)⟩ : S34) ) (fun _ hk => hk))); (try (have hx29_0 := hcc29 0 _ rfl)); (try (try simp only [show (k34).sz = 2 from rfl, Nat.mul_one, Nat.add_zero] at hx29_0)); (try (have hf29_0 := hfr29 0)); (try (try simp only [show (k34).sz = 2 from rfl, Nat.mul_one, Nat.add_zero] at hf29_0)); (try (have hx29_1 := hcc29 1 _ rfl)); (try (try simp only [show (k34).sz = 2 from rfl, Nat.mul_one, Nat.add_zero] at hx29_1)); (try (have hf29_1 := hfr29 1)); (try (try simp only [show (k34).sz = 2 from rfl, Nat.mul_one, Nat.add_zero] at hf29_1)); (try (clear hcl29 hcc29 hfr29 hM29)))); refine store_event (t := 34) (p := 53) (v := ?vo_w30) (w1 := ((wr.setCell ⟨go26, (x11_2 : Int).toNat * 2, none⟩ (.int .i64 (-1))).setCell ⟨go26, (x11_2 : Int).toNat * 2 + 1, none⟩ (.int .i64 (-1)))) ?hg ?ho ?hn ?hr ?_; (case ho => rfl); (case hg => rfl); (case hn => rfl); (case hr => first | (go_simp; done) | (go_simp; rfl)); intro w30 hw; have hg : wr.grownBy w30 (some go26) := (by rw [hw]; exact HP29.2); have hp_ : Kd.R k34 34 w30 w.heap.size (fun _ => True) (.slice (some ⟨go26, 0, none⟩) x301003_2.length co28) y302 := (by rw [hw, Ny302.out]; exact HP29.1); clear HP29; have n0_ := Aside0.mk (Kd.R_over' (v := (.slice (some ⟨go26, 0, none⟩) x301003_2.length co28)) (by (with_reducible repeat (first | apply Kd.R_alloc | apply Kd.R_drewN | apply Kd.R_drew)); exact HO_6.out) (Kd.R_typed HO_301003.out) (by decide) hg); have n1_ := Aside0.mk (Kd.R_over' (v := (.slice (some ⟨go26, 0, none⟩) x301003_2.length co28)) (by (with_reducible repeat (first | apply Kd.R_alloc | apply Kd.R_drewN | apply Kd.R_drew)); exact HO_7.out) (Kd.R_typed HO_301003.out) (by decide) hg); have n2_ := Aside0.mk (Kd.R_over' (v := (.slice (some ⟨go26, 0, none⟩) x301003_2.length co28)) (by (with_reducible repeat (first | apply Kd.R_alloc | apply Kd.R_drewN | apply Kd.R_drew)); exact HO_301001.out) (Kd.R_typed HO_301003.out) (by decide) hg); have n3_ := Aside0.mk (Kd.R_over' (v := (.slice (some ⟨go26, 0, none⟩) x301003_2.length co28)) (by (with_reducible repeat (first | apply Kd.R_alloc | apply Kd.R_drewN | apply Kd.R_drew)); exact HO_301002.out) (Kd.R_typed HO_301003.out) (by decide) hg); have n4_ := Aside0.mk (hp_); have n5_ := Aside0.mk (blk_grown (g := gb300) (o := .cells #[.bool t289, .slice Ao23 x301001_1.length co23, .slice Ao13 t293.length co13, .slice (some ⟨go26, 0, none⟩) x301003_2.length co28] 46 (0, 0)) (kX BK300.out) hg (Kd.R_ne HO_301003.out BK300.out (by decide))); have n6_ := Aside0.mk ((by rw [hw]; exact lS (lS (HB.out) GB26.out) GB26.out : Below w.heap.size w w30)); clear HO_6; clear HO_7; clear HO_301001; clear HO_301002; clear HO_301003; clear BK300; clear HB; have HO_6 := n0_; have HO_7 := n1_; have HO_301001 := n2_; have HO_301002 := n3_; have HO_301003 := n4_; have BK300 := n5_; have HB := n6_; clear n0_ n1_ n2_ n3_ n4_ n5_ n6_; clear hg hw hp_)))
        go_roundg k2
        case measure => have := HK1.out; have := HK2.out; omega
        case rel => exact ⟨(wrap64 (x11_2 + 1)), (y302), (.slice (some ⟨go26, 0, none⟩) x301003_2.length co28), (by first | rfl | (simp; done) | (simp [*]; done)), H', ⟨by have := HK1.out; have := HK2.out; omega⟩, ⟨by (with_reducible repeat (first | apply Kd.R_alloc | apply Kd.R_drewN | apply Kd.R_drew)); exact HO_6.out⟩, ⟨by (with_reducible repeat (first | apply Kd.R_alloc | apply Kd.R_drewN | apply Kd.R_drew)); exact HO_7.out⟩, ⟨by (with_reducible repeat (first | apply Kd.R_alloc | apply Kd.R_drewN | apply Kd.R_drew)); exact HO_301001.out⟩, ⟨by (with_reducible repeat (first | apply Kd.R_alloc | apply Kd.R_drewN | apply Kd.R_drew)); exact HO_301002.out⟩, ⟨by (with_reducible repeat (first | apply Kd.R_alloc | apply Kd.R_drewN | apply Kd.R_drew)); exact HO_301003.out⟩, ⟨by (with_reducible repeat (first | refine kN ?_ _ | refine kD ?_ | refine kA ?_ _)); exact BK300.out⟩, ⟨by repeat (first | (with_reducible first | exact HB.out | apply lA | apply lN | apply lD | refine lS ?_ GE300.out) | exact HB.out)⟩⟩
       ·rw [if_neg c25] at H
        exact absurd H (by simp)
      ·rw [if_neg c24] at H
       have c24b0 : decide (x11_2 < (x301003_2.length : Int)) = false := decide_eq_false c24
       clear c24
       have H' := Aside0.mk H
       clear H
       have hcz31_0 : wr.cell? ⟨gb300, 0, none⟩ = some (.bool t289) := (blk_cell BK300.out 0).trans rfl
       have hcz31_1 : wr.cell? ⟨gb300, 1, none⟩ = some (.slice Ao23 x301001_1.length co23) := (blk_cell BK300.out 1).trans rfl
       have hcz31_2 : wr.cell? ⟨gb300, 2, none⟩ = some (.slice Ao13 t293.length co13) := (blk_cell BK300.out 2).trans rfl
       have hcz31_3 : wr.cell? ⟨gb300, 3, none⟩ = some (u301003) := (blk_cell BK300.out 3).trans rfl
       have hfz31_0 := blk_frozen BK300.out 0
       have hfz31_1 := blk_frozen BK300.out 1
       have hfz31_2 := blk_frozen BK300.out 2
       have hfz31_3 := blk_frozen BK300.out 3
       obtain ⟨Ao32, co32, eo32⟩ := Kd.R_slice HO_301003.out
       subst eo32
       go_wp2
       repeat (go_quiet (fail); try go_wp2)
       go_loopg [12] k2 (fun kq v12 w' => ∃ (x12_3 : Int) (x301002_3 : List Int) (u301002 : Value), v12 = .int .i64 x12_3 ∧ Aside0 (L4_BenchOwn.l2 kq t282 t283 t286 t299 x12_3 t289 x301001_1 x301002_3 x301003_2 = some r) ∧ Aside0 (kq ≤ k2) ∧ Aside0 (Kd.R k40 40 w' w.heap.size (fun k_ => some k_ ≠ (v287 : Value).ownBlock) (.slice Ao7 t283.length co7) t283) ∧ Aside0 (Kd.R k40 40 w' w.heap.size (fun k_ => some k_ ≠ ((.slice Ao7 t283.length co7) : Value).ownBlock) v287 t286) ∧ Aside0 (Kd.R k50 50 w' w.heap.size (fun _ => True) (.slice Ao23 x301001_1.length co23) x301001_1) ∧ Aside0 (Kd.R (Kd.int .i64) 3 w' w.heap.size (fun _ => True) u301002 x301002_3) ∧ Aside0 (Kd.R k34 34 w' w.heap.size (fun _ => True) (.slice Ao32 x301003_2.length co32) x301003_2) ∧ Aside0 (w'.heap[gb300]? = some (.cells #[.bool t289, (.slice Ao23 x301001_1.length co23), u301002, (.slice Ao32 x301003_2.length co32)] 46 (0, 0))) ∧ Aside0 (Below w.heap.size w w'))
       case atStart => exact ⟨(0), (t293), (.slice Ao13 t293.length co13), (by first | rfl | (simp; done) | (simp [*]; done)), H', ⟨Nat.le_refl _⟩, ⟨by (with_reducible repeat (first | apply Kd.R_alloc | apply Kd.R_drewN | apply Kd.R_drew)); exact HO_6.out⟩, ⟨by (with_reducible repeat (first | apply Kd.R_alloc | apply Kd.R_drewN | apply Kd.R_drew)); exact HO_7.out⟩, ⟨by (with_reducible repeat (first | apply Kd.R_alloc | apply Kd.R_drewN | apply Kd.R_drew)); exact HO_301001.out⟩, ⟨by (with_reducible repeat (first | apply Kd.R_alloc | apply Kd.R_drewN | apply Kd.R_drew)); exact HO_301002.out⟩, ⟨by (with_reducible repeat (first | apply Kd.R_alloc | apply Kd.R_drewN | apply Kd.R_drew)); exact HO_301003.out⟩, ⟨by (with_reducible repeat (first | refine kN ?_ _ | refine kD ?_ | refine kA ?_ _)); exact BK300.out⟩, ⟨by repeat (first | (with_reducible first | exact HB.out | apply lA | apply lN | apply lD | refine lS ?_ GE300.out) | exact HB.out)⟩⟩
       case round =>
        clear H'
        try clear c1
        try clear p1
        try clear q1
        try clear hx1
        try clear c2
        try clear p2
        try clear q2
        try clear hx2
        try clear hf2
        try clear p6
        try clear c8
        try clear c15
        try clear c15b0
        try clear c16
        try clear c16b0
        try clear c17
        try clear p17
        try clear q17
        try clear hx17
        try clear hf17
        try clear c20
        try clear hx20
        try clear hf20
        try clear c24
        try clear c24b0
        try clear c25
        try clear c25b0
        try clear c26
        try clear p26
        try clear q26
        try clear hx26
        try clear hf26
        try clear c29
        try clear hx29
        try clear hf29
        try clear hcz11_0
        try clear hcz11_1
        try clear hcz11_2
        try clear hcz11_3
        try clear hcz18_0
        try clear hcz18_1
        try clear hcz18_2
        try clear hcz18_3
        try clear hcz22_0
        try clear hcz22_1
        try clear hcz22_2
        try clear hcz22_3
        try clear hcz27_0
        try clear hcz27_1
        try clear hcz27_2
        try clear hcz27_3
        try clear hcz31_0
        try clear hcz31_1
        try clear hcz31_2
        try clear hcz31_3
        try clear hfz11_0
        try clear hfz11_1
        try clear hfz11_2
        try clear hfz11_3
        try clear hfz18_0
        try clear hfz18_1
        try clear hfz18_2
        try clear hfz18_3
        try clear hfz22_0
        try clear hfz22_1
        try clear hfz22_2
        try clear hfz22_3
        try clear hfz27_0
        try clear hfz27_1
        try clear hfz27_2
        try clear hfz27_3
        try clear hfz31_0
        try clear hfz31_1
        try clear hfz31_2
        try clear hfz31_3
        try clear hx17_0
        try clear hx17_1
        try clear hx17_2
        try clear hx17_3
        try clear hx20_0
        try clear hx20_1
        try clear hx20_2
        try clear hx20_3
        try clear hx26_0
        try clear hx26_1
        try clear hx29_0
        try clear hx29_1
        try clear p1
        try clear p17
        try clear p2
        try clear p26
        try clear p6
        try clear q1
        try clear q17
        try clear q26
        obtain ⟨x12_3, x301002_3, u301002, rfl, HA, HK3, HO_6, HO_7, HO_301001, HO_301002, HO_301003, BK300, HB⟩ := hrel
        cases gk with
        | zero => exact absurd HA.out (by simp [L4_BenchOwn.l2])
        | succ k3 =>
         have H := HA.out
         clear HA
         simp only [L4_BenchOwn.l2] at H
         by_cases c33 : x12_3 < (x301002_3.length : Int)
         ·rw [if_pos c33] at H
          have c33b0 : decide (x12_3 < (x301002_3.length : Int)) = true := decide_eq_true c33
          clear c33
          by_cases c34 : 0 ≤ x12_3
          ·rw [if_pos c34] at H
           have c34b0 : decide (0 ≤ x12_3) = true := decide_eq_true c34
           clear c34
           obtain ⟨y303, hy303⟩ : ∃ y_ : List Int, y_ = (x301002_3.set (x12_3 : Int).toNat (-1)) := ⟨_, rfl⟩
           replace H : (L4_BenchOwn.l2 k3 t282 t283 t286 t299 (wrap64 (x12_3 + 1)) t289 x301001_1 y303 x301003_2) = some r := by first | (rw [hy303]; with_reducible exact H) | (have H2_ := (Option.bind_some _ _).symm.trans H; rw [hy303]; with_reducible exact H2_) | (have H2_ := (Option.bind_some _ _).symm.trans H; with_reducible exact H2_) | with_reducible exact H | (rw [hy303]; exact H) | exact H
           have Ny303 := Aside0.mk hy303
           clear hy303
           have H' := Aside0.mk H
           clear H
           have hcz36_0 : wr.cell? ⟨gb300, 0, none⟩ = some (.bool t289) := (blk_cell BK300.out 0).trans rfl
           have hcz36_1 : wr.cell? ⟨gb300, 1, none⟩ = some (.slice Ao23 x301001_1.length co23) := (blk_cell BK300.out 1).trans rfl
           have hcz36_2 : wr.cell? ⟨gb300, 2, none⟩ = some (u301002) := (blk_cell BK300.out 2).trans rfl
           have hcz36_3 : wr.cell? ⟨gb300, 3, none⟩ = some (.slice Ao32 x301003_2.length co32) := (blk_cell BK300.out 3).trans rfl
           have hfz36_0 := blk_frozen BK300.out 0
           have hfz36_1 := blk_frozen BK300.out 1
           have hfz36_2 := blk_frozen BK300.out 2
           have hfz36_3 := blk_frozen BK300.out 3
           obtain ⟨Ao37, co37, eo37⟩ := Kd.R_slice HO_301002.out
           subst eo37
           have p35 : 0 ≤ (x12_3 : Int) := of_decide_eq_true (by first | (with_reducible assumption) | assumption)
           have q35 : (x12_3 : Int) < ((x301002_3.length : Int) : Int) := of_decide_eq_true (by first | (with_reducible assumption) | assumption)
           obtain ⟨go35, co35, eo35, gb35, gl35, cl35, HG35⟩ := Kd.R_form HO_301002.out (by omega)
           (first | cases eo35 | (injection eo35 with ea_ en_ ec_; (first | subst ea_ | (injection ea_ with ea_; subst ea_)); subst ec_; clear en_))
           have GB35 := Aside0.mk gb35
           have GG35 := Aside0.mk HG35
           clear gb35 gl35 HG35
           obtain ⟨hx35_0, hf35_0⟩ := Kd.R_celln 0 HO_301002.out (x12_3 : Int) p35 q35
           replace p35 := eq_true p35
           replace q35 := eq_true q35
           have HP38 := Kd.R_putg HO_301002.out (x12_3 : Int) (-1)
           go_wp2_with (first | ((with_reducible refine gate_store (t := 3) (p := 64) rfl ?_); (try (rw [drewN_self wr]; generalize hq_ : World.drewN wr _ = wr; have n0_ := Aside0.mk (Kd.R_at hq_ HO_6.out); have n1_ := Aside0.mk (Kd.R_at hq_ HO_7.out); have n2_ := Aside0.mk (Kd.R_at hq_ HO_301001.out); have n3_ := Aside0.mk (Kd.R_at hq_ HO_301002.out); have n4_ := Aside0.mk (Kd.R_at hq_ HO_301003.out); have n5_ := Aside0.mk (blk_at hq_ BK300.out); have n6_ := Aside0.mk (below_at hq_ HB.out); clear hq_ HO_6 HO_7 HO_301001 HO_301002 HO_301003 BK300 HB; have HO_6 := n0_; have HO_7 := n1_; have HO_301001 := n2_; have HO_301002 := n3_; have HO_301003 := n4_; have BK300 := n5_; have HB := n6_; clear n0_ n1_ n2_ n3_ n4_ n5_ n6_; (try (have HP38 := Kd.R_putg HO_301002.out (x12_3 : Int) (-1))))); refine store_event (t := 3) (p := 64) (v := ?vo_w39) (w1 := (wr.setCell ⟨go35, (x12_3 : Int).toNat, none⟩ (.int .i64 (-1)))) ?hg ?ho ?hn ?hr ?_; (case ho => rfl); (case hg => rfl); (case hn => rfl); (case hr => first | (go_simp; done) | (go_simp; rfl)); intro w39 hw; have hg : wr.grownBy w39 (some go35) := (by rw [hw]; exact HP38.2); have hp_ : Kd.R (Kd.int .i64) 3 w39 w.heap.size (fun _ => True) (.slice (some ⟨go35, 0, none⟩) x301002_3.length co37) y303 := (by rw [hw, Ny303.out]; exact HP38.1); clear HP38; have n0_ := Aside0.mk (Kd.R_over' (v := (.slice (some ⟨go35, 0, none⟩) x301002_3.length co37)) (by (with_reducible repeat (first | apply Kd.R_alloc | apply Kd.R_drewN | apply Kd.R_drew)); exact HO_6.out) (Kd.R_typed HO_301002.out) (by decide) hg); have n1_ := Aside0.mk (Kd.R_over' (v := (.slice (some ⟨go35, 0, none⟩) x301002_3.length co37)) (by (with_reducible repeat (first | apply Kd.R_alloc | apply Kd.R_drewN | apply Kd.R_drew)); exact HO_7.out) (Kd.R_typed HO_301002.out) (by decide) hg); have n2_ := Aside0.mk (Kd.R_over' (v := (.slice (some ⟨go35, 0, none⟩) x301002_3.length co37)) (by (with_reducible repeat (first | apply Kd.R_alloc | apply Kd.R_drewN | apply Kd.R_drew)); exact HO_301001.out) (Kd.R_typed HO_301002.out) (by decide) hg); have n3_ := Aside0.mk (hp_); have n4_ := Aside0.mk (Kd.R_over' (v := (.slice (some ⟨go35, 0, none⟩) x301002_3.length co37)) (by (with_reducible repeat (first | apply Kd.R_alloc | apply Kd.R_drewN | apply Kd.R_drew)); exact HO_301003.out) (Kd.R_typed HO_301002.out) (by decide) hg); have n5_ := Aside0.mk (blk_grown (g := gb300) (o := .cells #[.bool t289, .slice Ao23 x301001_1.length co23, .slice (some ⟨go35, 0, none⟩) x301002_3.length co37, .slice Ao32 x301003_2.length co32] 46 (0, 0)) (kX BK300.out) hg (Kd.R_ne HO_301002.out BK300.out (by decide))); have n6_ := Aside0.mk ((by rw [hw]; exact lS (HB.out) GB35.out : Below w.heap.size w w39)); clear HO_6; clear HO_7; clear HO_301001; clear HO_301002; clear HO_301003; clear BK300; clear HB; have HO_6 := n0_; have HO_7 := n1_; have HO_301001 := n2_; have HO_301002 := n3_; have HO_301003 := n4_; have BK300 := n5_; have HB := n6_; clear n0_ n1_ n2_ n3_ n4_ n5_ n6_; clear hg hw hp_))
           repeat (go_quiet (first | ((with_reducible refine gate_store (t := 3) (p := 64) rfl ?_); (try (rw [drewN_self wr]; generalize hq_ : World.drewN wr _ = wr; have n0_ := Aside0.mk (Kd.R_at hq_ HO_6.out); have n1_ := Aside0.mk (Kd.R_at hq_ HO_7.out); have n2_ := Aside0.mk (Kd.R_at hq_ HO_301001.out); have n3_ := Aside0.mk (Kd.R_at hq_ HO_301002.out); have n4_ := Aside0.mk (Kd.R_at hq_ HO_301003.out); have n5_ := Aside0.mk (blk_at hq_ BK300.out); have n6_ := Aside0.mk (below_at hq_ HB.out); clear hq_ HO_6 HO_7 HO_301001 HO_301002 HO_301003 BK300 HB; have HO_6 := n0_; have HO_7 := n1_; have HO_301001 := n2_; have HO_301002 := n3_; have HO_301003 := n4_; have BK300 := n5_; have HB := n6_; clear n0_ n1_ n2_ n3_ n4_ n5_ n6_; (try (have HP38 := Kd.R_putg HO_301002.out (x12_3 : Int) (-1))))); refine store_event (t := 3) (p := 64) (v := ?vo_w39) (w1 := (wr.setCell ⟨go35, (x12_3 : Int).toNat, none⟩ (.int .i64 (-1)))) ?hg ?ho ?hn ?hr ?_; (case ho => rfl); (case hg => rfl); (case hn => rfl); (case hr => first | (go_simp; done) | (go_simp; rfl)); intro w39 hw; have hg : wr.grownBy w39 (some go35) := (by rw [hw]; exact HP38.2); have hp_ : Kd.R (Kd.int .i64) 3 w39 w.heap.size (fun _ => True) (.slice (some ⟨go35, 0, none⟩) x301002_3.length co37) y303 := (by rw [hw, Ny303.out]; exact HP38.1); clear HP38; have n0_ := Aside0.mk (Kd.R_over' (v := (.slice (some ⟨go35, 0, none⟩) x301002_3.length co37)) (by (with_reducible repeat (first | apply Kd.R_alloc | apply Kd.R_drewN | apply Kd.R_drew)); exact HO_6.out) (Kd.R_typed HO_301002.out) (by decide) hg); have n1_ := Aside0.mk (Kd.R_over' (v := (.slice (some ⟨go35, 0, none⟩) x301002_3.length co37)) (by (with_reducible repeat (first | apply Kd.R_alloc | apply Kd.R_drewN | apply Kd.R_drew)); exact HO_7.out) (Kd.R_typed HO_301002.out) (by decide) hg); have n2_ := Aside0.mk (Kd.R_over' (v := (.slice (some ⟨go35, 0, none⟩) x301002_3.length co37)) (by (with_reducible repeat (first | apply Kd.R_alloc | apply Kd.R_drewN | apply Kd.R_drew)); exact HO_301001.out) (Kd.R_typed HO_301002.out) (by decide) hg); have n3_ := Aside0.mk (hp_); have n4_ := Aside0.mk (Kd.R_over' (v := (.slice (some ⟨go35, 0, none⟩) x301002_3.length co37)) (by (with_reducible repeat (first | apply Kd.R_alloc | apply Kd.R_drewN | apply Kd.R_drew)); exact HO_301003.out) (Kd.R_typed HO_301002.out) (by decide) hg); have n5_ := Aside0.mk (blk_grown (g := gb300) (o := .cells #[.bool t289, .slice Ao23 x301001_1.length co23, .slice (some ⟨go35, 0, none⟩) x301002_3.length co37, .slice Ao32 x301003_2.length co32] 46 (0, 0)) (kX BK300.out) hg (Kd.R_ne HO_301002.out BK300.out (by decide))); have n6_ := Aside0.mk ((by rw [hw]; exact lS (HB.out) GB35.out : Below w.heap.size w w39)); clear HO_6; clear HO_7; clear HO_301001; clear HO_301002; clear HO_301003; clear BK300; clear HB; have HO_6 := n0_; have HO_7 := n1_; have HO_301001 := n2_; have HO_301002 := n3_; have HO_301003 := n4_; have BK300 := n5_; have HB := n6_; clear n0_ n1_ n2_ n3_ n4_ n5_ n6_; clear hg hw hp_)); try go_wp2_with (first | ((with_reducible refine gate_store (t := 3) (p := 64) rfl ?_); (try (rw [drewN_self wr]; generalize hq_ : World.drewN wr _ = wr; have n0_ := Aside0.mk (Kd.R_at hq_ HO_6.out); have n1_ := Aside0.mk (Kd.R_at hq_ HO_7.out); have n2_ := Aside0.mk (Kd.R_at hq_ HO_301001.out); have n3_ := Aside0.mk (Kd.R_at hq_ HO_301002.out); have n4_ := Aside0.mk (Kd.R_at hq_ HO_301003.out); have n5_ := Aside0.mk (blk_at hq_ BK300.out); have n6_ := Aside0.mk (below_at hq_ HB.out); clear hq_ HO_6 HO_7 HO_301001 HO_301002 HO_301003 BK300 HB; have HO_6 := n0_; have HO_7 := n1_; have HO_301001 := n2_; have HO_301002 := n3_; have HO_301003 := n4_; have BK300 := n5_; have HB := n6_; clear n0_ n1_ n2_ n3_ n4_ n5_ n6_; (try (have HP38 := Kd.R_putg HO_301002.out (x12_3 : Int) (-1))))); refine store_event (t := 3) (p := 64) (v := ?vo_w39) (w1 := (wr.setCell ⟨go35, (x12_3 : Int).toNat, none⟩ (.int .i64 (-1)))) ?hg ?ho ?hn ?hr ?_; (case ho => rfl); (case hg => rfl); (case hn => rfl); (case hr => first | (go_simp; done) | (go_simp; rfl)); intro w39 hw; have hg : wr.grownBy w39 (some go35) := (by rw [hw]; exact HP38.2); have hp_ : Kd.R (Kd.int .i64) 3 w39 w.heap.size (fun _ => True) (.slice (some ⟨go35, 0, none⟩) x301002_3.length co37) y303 := (by rw [hw, Ny303.out]; exact HP38.1); clear HP38; have n0_ := Aside0.mk (Kd.R_over' (v := (.slice (some ⟨go35, 0, none⟩) x301002_3.length co37)) (by (with_reducible repeat (first | apply Kd.R_alloc | apply Kd.R_drewN | apply Kd.R_drew)); exact HO_6.out) (Kd.R_typed HO_301002.out) (by decide) hg); have n1_ := Aside0.mk (Kd.R_over' (v := (.slice (some ⟨go35, 0, none⟩) x301002_3.length co37)) (by (with_reducible repeat (first | apply Kd.R_alloc | apply Kd.R_drewN | apply Kd.R_drew)); exact HO_7.out) (Kd.R_typed HO_301002.out) (by decide) hg); have n2_ := Aside0.mk (Kd.R_over' (v := (.slice (some ⟨go35, 0, none⟩) x301002_3.length co37)) (by (with_reducible repeat (first | apply Kd.R_alloc | apply Kd.R_drewN | apply Kd.R_drew)); exact HO_301001.out) (Kd.R_typed HO_301002.out) (by decide) hg); have n3_ := Aside0.mk (hp_); have n4_ := Aside0.mk (Kd.R_over' (v := (.slice (some ⟨go35, 0, none⟩) x301002_3.length co37)) (by (with_reducible repeat (first | apply Kd.R_alloc | apply Kd.R_drewN | apply Kd.R_drew)); exact HO_301003.out) (Kd.R_typed HO_301002.out) (by decide) hg); have n5_ := Aside0.mk (blk_grown (g := gb300) (o := .cells #[.bool t289, .slice Ao23 x301001_1.length co23, .slice (some ⟨go35, 0, none⟩) x301002_3.length co37, .slice Ao32 x301003_2.length co32] 46 (0, 0)) (kX BK300.out) hg (Kd.R_ne HO_301002.out BK300.out (by decide))); have n6_ := Aside0.mk ((by rw [hw]; exact lS (HB.out) GB35.out : Below w.heap.size w w39)); clear HO_6; clear HO_7; clear HO_301001; clear HO_301002; clear HO_301003; clear BK300; clear HB; have HO_6 := n0_; have HO_7 := n1_; have HO_301001 := n2_; have HO_301002 := n3_; have HO_301003 := n4_; have BK300 := n5_; have HB := n6_; clear n0_ n1_ n2_ n3_ n4_ n5_ n6_; clear hg hw hp_)))
           go_roundg k3
           case measure => have := HK1.out; have := HK2.out; have := HK3.out; omega
           case rel => exact ⟨(wrap64 (x12_3 + 1)), (y303), (.slice (some ⟨go35, 0, none⟩) x301002_3.length co37), (by first | rfl | (simp; done) | (simp [*]; done)), H', ⟨by have := HK1.out; have := HK2.out; have := HK3.out; omega⟩, ⟨by (with_reducible repeat (first | apply Kd.R_alloc | apply Kd.R_drewN | apply Kd.R_drew)); exact HO_6.out⟩, ⟨by (with_reducible repeat (first | apply Kd.R_alloc | apply Kd.R_drewN | apply Kd.R_drew)); exact HO_7.out⟩, ⟨by (with_reducible repeat (first | apply Kd.R_alloc | apply Kd.R_drewN | apply Kd.R_drew)); exact HO_301001.out⟩, ⟨by (with_reducible repeat (first | apply Kd.R_alloc | apply Kd.R_drewN | apply Kd.R_drew)); exact HO_301002.out⟩, ⟨by (with_reducible repeat (first | apply Kd.R_alloc | apply Kd.R_drewN | apply Kd.R_drew)); exact HO_301003.out⟩, ⟨by (with_reducible repeat (first | refine kN ?_ _ | refine kD ?_ | refine kA ?_ _)); exact BK300.out⟩, ⟨by repeat (first | (with_reducible first | exact HB.out | apply lA | apply lN | apply lD | refine lS ?_ GE300.out) | exact HB.out)⟩⟩
          ·rw [if_neg c34] at H
           exact absurd H (by simp)
         ·rw [if_neg c33] at H
          have c33b0 : decide (x12_3 < (x301002_3.length : Int)) = false := decide_eq_false c33
          clear c33
          replace H := Option.bind_eq_some_iff.mp H
          obtain ⟨⟨t304, t305, t308, t311, t314⟩, A400, H⟩ := H
          replace H : (L4_BenchOwn.l3 k3 t282 t283 t286 t299 t314 0 t289 x301001_1 x301002_3 x301003_2 t304 t305 t308 t311) = some r := H
          have A40 := Aside0.mk A400
          clear A400
          have H' := Aside0.mk H
          clear H
          have hcz41_0 : wr.cell? ⟨gb300, 0, none⟩ = some (.bool t289) := (blk_cell BK300.out 0).trans rfl
          have hcz41_1 : wr.cell? ⟨gb300, 1, none⟩ = some (.slice Ao23 x301001_1.length co23) := (blk_cell BK300.out 1).trans rfl
          have hcz41_2 : wr.cell? ⟨gb300, 2, none⟩ = some (u301002) := (blk_cell BK300.out 2).trans rfl
          have hcz41_3 : wr.cell? ⟨gb300, 3, none⟩ = some (.slice Ao32 x301003_2.length co32) := (blk_cell BK300.out 3).trans rfl
          have hfz41_0 := blk_frozen BK300.out 0
          have hfz41_1 := blk_frozen BK300.out 1
          have hfz41_2 := blk_frozen BK300.out 2
          have hfz41_3 := blk_frozen BK300.out 3
          obtain ⟨Ao42, co42, eo42⟩ := Kd.R_slice HO_301002.out
          subst eo42
          go_wp2_with (first | (go_at_call 24; (with_reducible refine (bench_Plan.calls t282 _ _ t283 t304 t305 t308 t311 t314 _ ?sidenone ?side1 ?side2 A40.out).mono ?_); (case sidenone => exact HNO.out.below lB); (case side1 => repeat (first | exact (Kd.R_reads' HO_6.out).2.2 | (with_reducible refine Kd.C_alloc ?_ _) | (with_reducible refine Kd.C_drewN ?_ _) | (with_reducible refine Kd.C_drew ?_))); (case side2 => exact (Kd.R_reads' HO_6.out).2.1); rintro e w43 ⟨v306, v309, v312, rfl, ho0, ho1, ho2, hb⟩; have n0_ := Aside0.mk (Kd.R_below (by (with_reducible repeat (first | apply Kd.R_alloc | apply Kd.R_drewN | apply Kd.R_drew)); exact HO_6.out) hb); have n1_ := Aside0.mk (Kd.R_below (by (with_reducible repeat (first | apply Kd.R_alloc | apply Kd.R_drewN | apply Kd.R_drew)); exact HO_7.out) hb); have n2_ := Aside0.mk (Kd.R_elder' (by (with_reducible repeat (first | apply Kd.R_alloc | apply Kd.R_drewN | apply Kd.R_drew)); exact HO_301001.out) (Kd.R_base ho0) hb); have n3_ := Aside0.mk (Kd.R_elder' (by (with_reducible repeat (first | apply Kd.R_alloc | apply Kd.R_drewN | apply Kd.R_drew)); exact HO_301002.out) (Kd.R_base ho1) hb); have n4_ := Aside0.mk (Kd.R_elder' (by (with_reducible repeat (first | apply Kd.R_alloc | apply Kd.R_drewN | apply Kd.R_drew)); exact HO_301003.out) (Kd.R_base ho2) hb); have n5_ := Aside0.mk (Kd.R_lower (Kd.R_new' ho0 (Kd.R_lt (by (with_reducible repeat (first | apply Kd.R_alloc | apply Kd.R_drewN | apply Kd.R_drew)); exact HO_301001.out))) (below_size lB)); have n6_ := Aside0.mk (Kd.R_lower (Kd.R_new' ho1 (Kd.R_lt (by (with_reducible repeat (first | apply Kd.R_alloc | apply Kd.R_drewN | apply Kd.R_drew)); exact HO_301002.out))) (below_size lB)); have n7_ := Aside0.mk (Kd.R_lower (Kd.R_new' ho2 (Kd.R_lt (by (with_reducible repeat (first | apply Kd.R_alloc | apply Kd.R_drewN | apply Kd.R_drew)); exact HO_301003.out))) (below_size lB)); have n8_ := Aside0.mk (blk_below (g := gb300) (o := .cells #[.bool t289, .slice Ao23 x301001_1.length co23, .slice Ao42 x301002_3.length co42, .slice Ao32 x301003_2.length co32] 46 (0, 0)) (kX BK300.out) hb); have n9_ := Aside0.mk (below_step lB hb); clear HO_6; clear HO_7; clear HO_301001; clear HO_301002; clear HO_301003; clear BK300; clear HB; have HO_6 := n0_; have HO_7 := n1_; have HO_301001 := n2_; have HO_301002 := n3_; have HO_301003 := n4_; have HO307 := n5_; have HO310 := n6_; have HO313 := n7_; have BK300 := n8_; have HB := n9_; clear n0_ n1_ n2_ n3_ n4_ n5_ n6_ n7_ n8_ n9_; (try clear hb); (try clear hb2); (try clear hk); (try clear hi); (try clear ho0); (try clear ho1); (try clear ho2)) | ((with_reducible refine gate_dst (N := 13) rfl ?_); refine bxe 13 #[.bool false, .slice none 0 0, .slice none 0 0, .slice none 0 0] 46 ?_; intro gb315 hg w44 hbox hb; have n0_ := Aside0.mk (Kd.R_below (by (with_reducible repeat (first | apply Kd.R_alloc | apply Kd.R_drewN | apply Kd.R_drew)); exact HO_6.out) hb); have n1_ := Aside0.mk (Kd.R_below (by (with_reducible repeat (first | apply Kd.R_alloc | apply Kd.R_drewN | apply Kd.R_drew)); exact HO_7.out) hb); have n2_ := Aside0.mk (Kd.R_below (by (with_reducible repeat (first | apply Kd.R_alloc | apply Kd.R_drewN | apply Kd.R_drew)); exact HO_301001.out) hb); have n3_ := Aside0.mk (Kd.R_below (by (with_reducible repeat (first | apply Kd.R_alloc | apply Kd.R_drewN | apply Kd.R_drew)); exact HO_301002.out) hb); have n4_ := Aside0.mk (Kd.R_below (by (with_reducible repeat (first | apply Kd.R_alloc | apply Kd.R_drewN | apply Kd.R_drew)); exact HO_301003.out) hb); have n5_ := Aside0.mk (Kd.R_below (by (with_reducible repeat (first | apply Kd.R_alloc | apply Kd.R_drewN | apply Kd.R_drew)); exact HO307.out) hb); have n6_ := Aside0.mk (Kd.R_below (by (with_reducible repeat (first | apply Kd.R_alloc | apply Kd.R_drewN | apply Kd.R_drew)); exact HO310.out) hb); have n7_ := Aside0.mk (Kd.R_below (by (with_reducible repeat (first | apply Kd.R_alloc | apply Kd.R_drewN | apply Kd.R_drew)); exact HO313.out) hb); have n8_ := Aside0.mk (blk_below (g := gb300) (o := .cells #[.bool t289, .slice Ao23 x301001_1.length co23, .slice Ao42 x301002_3.length co42, .slice Ao32 x301003_2.length co32] 46 (0, 0)) (kX BK300.out) hb); have n9_ := Aside0.mk (below_step lB hb); have n10_ := Aside0.mk (hbox); have n11_ := Aside0.mk (lG (w := w) hg); have n12_ := Aside0.mk (lG (w := w) hg); have n13_ := Aside0.mk ((by rw [hg]; exact Nat.ne_of_lt (blk_lt (g := gb300) (o := .cells #[.bool t289, .slice Ao23 x301001_1.length co23, .slice Ao42 x301002_3.length co42, .slice Ao32 x301003_2.length co32] 46 (0, 0)) (kX BK300.out)) : gb300 ≠ gb315)); have n14_ := Aside0.mk ((by rw [hg]; exact Nat.ne_of_gt (blk_lt (g := gb300) (o := .cells #[.bool t289, .slice Ao23 x301001_1.length co23, .slice Ao42 x301002_3.length co42, .slice Ao32 x301003_2.length co32] 46 (0, 0)) (kX BK300.out)) : gb315 ≠ gb300)); clear HO_6; clear HO_7; clear HO_301001; clear HO_301002; clear HO_301003; clear HO307; clear HO310; clear HO313; clear BK300; clear HB; have HO_6 := n0_; have HO_7 := n1_; have HO_301001 := n2_; have HO_301002 := n3_; have HO_301003 := n4_; have HO307 := n5_; have HO310 := n6_; have HO313 := n7_; have BK300 := n8_; have HB := n9_; have BK315 := n10_; have GW315 := n11_; have GE315 := n12_; have NB300_315 := n13_; have NB315_300 := n14_; clear n0_ n1_ n2_ n3_ n4_ n5_ n6_ n7_ n8_ n9_ n10_ n11_ n12_ n13_ n14_; clear hb hbox hg; have hnb45 := NB315_300.out; have hnc45 := NB300_315.out; have hcz46_0 : w44.cell? ⟨gb315, 0, none⟩ = some (.bool false) := (blk_cell BK315.out 0).trans rfl; have hcz46_1 : w44.cell? ⟨gb315, 1, none⟩ = some (.slice none 0 0) := (blk_cell BK315.out 1).trans rfl; have hcz46_2 : w44.cell? ⟨gb315, 2, none⟩ = some (.slice none 0 0) := (blk_cell BK315.out 2).trans rfl; have hcz46_3 : w44.cell? ⟨gb315, 3, none⟩ = some (.slice none 0 0) := (blk_cell BK315.out 3).trans rfl; have hfz46_0 := blk_frozen BK315.out 0; have hfz46_1 := blk_frozen BK315.out 1; have hfz46_2 := blk_frozen BK315.out 2; have hfz46_3 := blk_frozen BK315.out 3; obtain ⟨Ao47, co47, eo47⟩ := Kd.R_slice HO307.out; subst eo47; obtain ⟨Ao48, co48, eo48⟩ := Kd.R_slice HO310.out; subst eo48; obtain ⟨Ao49, co49, eo49⟩ := Kd.R_slice HO313.out; subst eo49))
          repeat (go_quiet (first | (go_at_call 24; (with_reducible refine (bench_Plan.calls t282 _ _ t283 t304 t305 t308 t311 t314 _ ?sidenone ?side1 ?side2 A40.out).mono ?_); (case sidenone => exact HNO.out.below lB); (case side1 => repeat (first | exact (Kd.R_reads' HO_6.out).2.2 | (with_reducible refine Kd.C_alloc ?_ _) | (with_reducible refine Kd.C_drewN ?_ _) | (with_reducible refine Kd.C_drew ?_))); (case side2 => exact (Kd.R_reads' HO_6.out).2.1); rintro e w43 ⟨v306, v309, v312, rfl, ho0, ho1, ho2, hb⟩; have n0_ := Aside0.mk (Kd.R_below (by (with_reducible repeat (first | apply Kd.R_alloc | apply Kd.R_drewN | apply Kd.R_drew)); exact HO_6.out) hb); have n1_ := Aside0.mk (Kd.R_below (by (with_reducible repeat (first | apply Kd.R_alloc | apply Kd.R_drewN | apply Kd.R_drew)); exact HO_7.out) hb); have n2_ := Aside0.mk (Kd.R_elder' (by (with_reducible repeat (first | apply Kd.R_alloc | apply Kd.R_drewN | apply Kd.R_drew)); exact HO_301001.out) (Kd.R_base ho0) hb); have n3_ := Aside0.mk (Kd.R_elder' (by (with_reducible repeat (first | apply Kd.R_alloc | apply Kd.R_drewN | apply Kd.R_drew)); exact HO_301002.out) (Kd.R_base ho1) hb); have n4_ := Aside0.mk (Kd.R_elder' (by (with_reducible repeat (first | apply Kd.R_alloc | apply Kd.R_drewN | apply Kd.R_drew)); exact HO_301003.out) (Kd.R_base ho2) hb); have n5_ := Aside0.mk (Kd.R_lower (Kd.R_new' ho0 (Kd.R_lt (by (with_reducible repeat (first | apply Kd.R_alloc | apply Kd.R_drewN | apply Kd.R_drew)); exact HO_301001.out))) (below_size lB)); have n6_ := Aside0.mk (Kd.R_lower (Kd.R_new' ho1 (Kd.R_lt (by (with_reducible repeat (first | apply Kd.R_alloc | apply Kd.R_drewN | apply Kd.R_drew)); exact HO_301002.out))) (below_size lB)); have n7_ := Aside0.mk (Kd.R_lower (Kd.R_new' ho2 (Kd.R_lt (by (with_reducible repeat (first | apply Kd.R_alloc | apply Kd.R_drewN | apply Kd.R_drew)); exact HO_301003.out))) (below_size lB)); have n8_ := Aside0.mk (blk_below (g := gb300) (o := .cells #[.bool t289, .slice Ao23 x301001_1.length co23, .slice Ao42 x301002_3.length co42, .slice Ao32 x301003_2.length co32] 46 (0, 0)) (kX BK300.out) hb); have n9_ := Aside0.mk (below_step lB hb); clear HO_6; clear HO_7; clear HO_301001; clear HO_301002; clear HO_301003; clear BK300; clear HB; have HO_6 := n0_; have HO_7 := n1_; have HO_301001 := n2_; have HO_301002 := n3_; have HO_301003 := n4_; have HO307 := n5_; have HO310 := n6_; have HO313 := n7_; have BK300 := n8_; have HB := n9_; clear n0_ n1_ n2_ n3_ n4_ n5_ n6_ n7_ n8_ n9_; (try clear hb); (try clear hb2); (try clear hk); (try clear hi); (try clear ho0); (try clear ho1); (try clear ho2)) | ((with_reducible refine gate_dst (N := 13) rfl ?_); refine bxe 13 #[.bool false, .slice none 0 0, .slice none 0 0, .slice none 0 0] 46 ?_; intro gb315 hg w44 hbox hb; have n0_ := Aside0.mk (Kd.R_below (by (with_reducible repeat (first | apply Kd.R_alloc | apply Kd.R_drewN | apply Kd.R_drew)); exact HO_6.out) hb); have n1_ := Aside0.mk (Kd.R_below (by (with_reducible repeat (first | apply Kd.R_alloc | apply Kd.R_drewN | apply Kd.R_drew)); exact HO_7.out) hb); have n2_ := Aside0.mk (Kd.R_below (by (with_reducible repeat (first | apply Kd.R_alloc | apply Kd.R_drewN | apply Kd.R_drew)); exact HO_301001.out) hb); have n3_ := Aside0.mk (Kd.R_below (by (with_reducible repeat (first | apply Kd.R_alloc | apply Kd.R_drewN | apply Kd.R_drew)); exact HO_301002.out) hb); have n4_ := Aside0.mk (Kd.R_below (by (with_reducible repeat (first | apply Kd.R_alloc | apply Kd.R_drewN | apply Kd.R_drew)); exact HO_301003.out) hb); have n5_ := Aside0.mk (Kd.R_below (by (with_reducible repeat (first | apply Kd.R_alloc | apply Kd.R_drewN | apply Kd.R_drew)); exact HO307.out) hb); have n6_ := Aside0.mk (Kd.R_below (by (with_reducible repeat (first | apply Kd.R_alloc | apply Kd.R_drewN | apply Kd.R_drew)); exact HO310.out) hb); have n7_ := Aside0.mk (Kd.R_below (by (with_reducible repeat (first | apply Kd.R_alloc | apply Kd.R_drewN | apply Kd.R_drew)); exact HO313.out) hb); have n8_ := Aside0.mk (blk_below (g := gb300) (o := .cells #[.bool t289, .slice Ao23 x301001_1.length co23, .slice Ao42 x301002_3.length co42, .slice Ao32 x301003_2.length co32] 46 (0, 0)) (kX BK300.out) hb); have n9_ := Aside0.mk (below_step lB hb); have n10_ := Aside0.mk (hbox); have n11_ := Aside0.mk (lG (w := w) hg); have n12_ := Aside0.mk (lG (w := w) hg); have n13_ := Aside0.mk ((by rw [hg]; exact Nat.ne_of_lt (blk_lt (g := gb300) (o := .cells #[.bool t289, .slice Ao23 x301001_1.length co23, .slice Ao42 x301002_3.length co42, .slice Ao32 x301003_2.length co32] 46 (0, 0)) (kX BK300.out)) : gb300 ≠ gb315)); have n14_ := Aside0.mk ((by rw [hg]; exact Nat.ne_of_gt (blk_lt (g := gb300) (o := .cells #[.bool t289, .slice Ao23 x301001_1.length co23, .slice Ao42 x301002_3.length co42, .slice Ao32 x301003_2.length co32] 46 (0, 0)) (kX BK300.out)) : gb315 ≠ gb300)); clear HO_6; clear HO_7; clear HO_301001; clear HO_301002; clear HO_301003; clear HO307; clear HO310; clear HO313; clear BK300; clear HB; have HO_6 := n0_; have HO_7 := n1_; have HO_301001 := n2_; have HO_301002 := n3_; have HO_301003 := n4_; have HO307 := n5_; have HO310 := n6_; have HO313 := n7_; have BK300 := n8_; have HB := n9_; have BK315 := n10_; have GW315 := n11_; have GE315 := n12_; have NB300_315 := n13_; have NB315_300 := n14_; clear n0_ n1_ n2_ n3_ n4_ n5_ n6_ n7_ n8_ n9_ n10_ n11_ n12_ n13_ n14_; clear hb hbox hg; have hnb45 := NB315_300.out; have hnc45 := NB300_315.out; have hcz46_0 : w44.cell? ⟨gb315, 0, none⟩ = some (.bool false) := (blk_cell BK315.out 0).trans rfl; have hcz46_1 : w44.cell? ⟨gb315, 1, none⟩ = some (.slice none 0 0) := (blk_cell BK315.out 1).trans rfl; have hcz46_2 : w44.cell? ⟨gb315, 2, none⟩ = some (.slice none 0 0) := (blk_cell BK315.out 2).trans rfl; have hcz46_3 : w44.cell? ⟨gb315, 3, none⟩ = some (.slice none 0 0) := (blk_cell BK315.out 3).trans rfl; have hfz46_0 := blk_frozen BK315.out 0; have hfz46_1 := blk_frozen BK315.out 1; have hfz46_2 := blk_frozen BK315.out 2; have hfz46_3 := blk_frozen BK315.out 3; obtain ⟨Ao47, co47, eo47⟩ := Kd.R_slice HO307.out; subst eo47; obtain ⟨Ao48, co48, eo48⟩ := Kd.R_slice HO310.out; subst eo48; obtain ⟨Ao49, co49, eo49⟩ := Kd.R_slice HO313.out; subst eo49)); try go_wp2_with (first | (go_at_call 24; (with_reducible refine (bench_Plan.calls t282 _ _ t283 t304 t305 t308 t311 t314 _ ?sidenone ?side1 ?side2 A40.out).mono ?_); (case sidenone => exact HNO.out.below lB); (case side1 => repeat (first | exact (Kd.R_reads' HO_6.out).2.2 | (with_reducible refine Kd.C_alloc ?_ _) | (with_reducible refine Kd.C_drewN ?_ _) | (with_reducible refine Kd.C_drew ?_))); (case side2 => exact (Kd.R_reads' HO_6.out).2.1); rintro e w43 ⟨v306, v309, v312, rfl, ho0, ho1, ho2, hb⟩; have n0_ := Aside0.mk (Kd.R_below (by (with_reducible repeat (first | apply Kd.R_alloc | apply Kd.R_drewN | apply Kd.R_drew)); exact HO_6.out) hb); have n1_ := Aside0.mk (Kd.R_below (by (with_reducible repeat (first | apply Kd.R_alloc | apply Kd.R_drewN | apply Kd.R_drew)); exact HO_7.out) hb); have n2_ := Aside0.mk (Kd.R_elder' (by (with_reducible repeat (first | apply Kd.R_alloc | apply Kd.R_drewN | apply Kd.R_drew)); exact HO_301001.out) (Kd.R_base ho0) hb); have n3_ := Aside0.mk (Kd.R_elder' (by (with_reducible repeat (first | apply Kd.R_alloc | apply Kd.R_drewN | apply Kd.R_drew)); exact HO_301002.out) (Kd.R_base ho1) hb); have n4_ := Aside0.mk (Kd.R_elder' (by (with_reducible repeat (first | apply Kd.R_alloc | apply Kd.R_drewN | apply Kd.R_drew)); exact HO_301003.out) (Kd.R_base ho2) hb); have n5_ := Aside0.mk (Kd.R_lower (Kd.R_new' ho0 (Kd.R_lt (by (with_reducible repeat (first | apply Kd.R_alloc | apply Kd.R_drewN | apply Kd.R_drew)); exact HO_301001.out))) (below_size lB)); have n6_ := Aside0.mk (Kd.R_lower (Kd.R_new' ho1 (Kd.R_lt (by (with_reducible repeat (first | apply Kd.R_alloc | apply Kd.R_drewN | apply Kd.R_drew)); exact HO_301002.out))) (below_size lB)); have n7_ := Aside0.mk (Kd.R_lower (Kd.R_new' ho2 (Kd.R_lt (by (with_reducible repeat (first | apply Kd.R_alloc | apply Kd.R_drewN | apply Kd.R_drew)); exact HO_301003.out))) (below_size lB)); have n8_ := Aside0.mk (blk_below (g := gb300) (o := .cells #[.bool t289, .slice Ao23 x301001_1.length co23, .slice Ao42 x301002_3.length co42, .slice Ao32 x301003_2.length co32] 46 (0, 0)) (kX BK300.out) hb); have n9_ := Aside0.mk (below_step lB hb); clear HO_6; clear HO_7; clear HO_301001; clear HO_301002; clear HO_301003; clear BK300; clear HB; have HO_6 := n0_; have HO_7 := n1_; have HO_301001 := n2_; have HO_301002 := n3_; have HO_301003 := n4_; have HO307 := n5_; have HO310 := n6_; have HO313 := n7_; have BK300 := n8_; have HB := n9_; clear n0_ n1_ n2_ n3_ n4_ n5_ n6_ n7_ n8_ n9_; (try clear hb); (try clear hb2); (try clear hk); (try clear hi); (try clear ho0); (try clear ho1); (try clear ho2)) | ((with_reducible refine gate_dst (N := 13) rfl ?_); refine bxe 13 #[.bool false, .slice none 0 0, .slice none 0 0, .slice none 0 0] 46 ?_; intro gb315 hg w44 hbox hb; have n0_ := Aside0.mk (Kd.R_below (by (with_reducible repeat (first | apply Kd.R_alloc | apply Kd.R_drewN | apply Kd.R_drew)); exact HO_6.out) hb); have n1_ := Aside0.mk (Kd.R_below (by (with_reducible repeat (first | apply Kd.R_alloc | apply Kd.R_drewN | apply Kd.R_drew)); exact HO_7.out) hb); have n2_ := Aside0.mk (Kd.R_below (by (with_reducible repeat (first | apply Kd.R_alloc | apply Kd.R_drewN | apply Kd.R_drew)); exact HO_301001.out) hb); have n3_ := Aside0.mk (Kd.R_below (by (with_reducible repeat (first | apply Kd.R_alloc | apply Kd.R_drewN | apply Kd.R_drew)); exact HO_301002.out) hb); have n4_ := Aside0.mk (Kd.R_below (by (with_reducible repeat (first | apply Kd.R_alloc | apply Kd.R_drewN | apply Kd.R_drew)); exact HO_301003.out) hb); have n5_ := Aside0.mk (Kd.R_below (by (with_reducible repeat (first | apply Kd.R_alloc | apply Kd.R_drewN | apply Kd.R_drew)); exact HO307.out) hb); have n6_ := Aside0.mk (Kd.R_below (by (with_reducible repeat (first | apply Kd.R_alloc | apply Kd.R_drewN | apply Kd.R_drew)); exact HO310.out) hb); have n7_ := Aside0.mk (Kd.R_below (by (with_reducible repeat (first | apply Kd.R_alloc | apply Kd.R_drewN | apply Kd.R_drew)); exact HO313.out) hb); have n8_ := Aside0.mk (blk_below (g := gb300) (o := .cells #[.bool t289, .slice Ao23 x301001_1.length co23, .slice Ao42 x301002_3.length co42, .slice Ao32 x301003_2.length co32] 46 (0, 0)) (kX BK300.out) hb); have n9_ := Aside0.mk (below_step lB hb); have n10_ := Aside0.mk (hbox); have n11_ := Aside0.mk (lG (w := w) hg); have n12_ := Aside0.mk (lG (w := w) hg); have n13_ := Aside0.mk ((by rw [hg]; exact Nat.ne_of_lt (blk_lt (g := gb300) (o := .cells #[.bool t289, .slice Ao23 x301001_1.length co23, .slice Ao42 x301002_3.length co42, .slice Ao32 x301003_2.length co32] 46 (0, 0)) (kX BK300.out)) : gb300 ≠ gb315)); have n14_ := Aside0.mk ((by rw [hg]; exact Nat.ne_of_gt (blk_lt (g := gb300) (o := .cells #[.bool t289, .slice Ao23 x301001_1.length co23, .slice Ao42 x301002_3.length co42, .slice Ao32 x301003_2.length co32] 46 (0, 0)) (kX BK300.out)) : gb315 ≠ gb300)); clear HO_6; clear HO_7; clear HO_301001; clear HO_301002; clear HO_301003; clear HO307; clear HO310; clear HO313; clear BK300; clear HB; have HO_6 := n0_; have HO_7 := n1_; have HO_301001 := n2_; have HO_301002 := n3_; have HO_301003 := n4_; have HO307 := n5_; have HO310 := n6_; have HO313 := n7_; have BK300 := n8_; have HB := n9_; have BK315 := n10_; have GW315 := n11_; have GE315 := n12_; have NB300_315 := n13_; have NB315_300 := n14_; clear n0_ n1_ n2_ n3_ n4_ n5_ n6_ n7_ n8_ n9_ n10_ n11_ n12_ n13_ n14_; clear hb hbox hg; have hnb45 := NB315_300.out; have hnc45 := NB300_315.out; have hcz46_0 : w44.cell? ⟨gb315, 0, none⟩ = some (.bool false) := (blk_cell BK315.out 0).trans rfl; have hcz46_1 : w44.cell? ⟨gb315, 1, none⟩ = some (.slice none 0 0) := (blk_cell BK315.out 1).trans rfl; have hcz46_2 : w44.cell? ⟨gb315, 2, none⟩ = some (.slice none 0 0) := (blk_cell BK315.out 2).trans rfl; have hcz46_3 : w44.cell? ⟨gb315, 3, none⟩ = some (.slice none 0 0) := (blk_cell BK315.out 3).trans rfl; have hfz46_0 := blk_frozen BK315.out 0; have hfz46_1 := blk_frozen BK315.out 1; have hfz46_2 := blk_frozen BK315.out 2; have hfz46_3 := blk_frozen BK315.out 3; obtain ⟨Ao47, co47, eo47⟩ := Kd.R_slice HO307.out; subst eo47; obtain ⟨Ao48, co48, eo48⟩ := Kd.R_slice HO310.out; subst eo48; obtain ⟨Ao49, co49, eo49⟩ := Kd.R_slice HO313.out; subst eo49)))
          go_loopg [15] k3 (fun kq v15 w' => ∃ (x15_4 : Int), v15 = .int .i64 x15_4 ∧ Aside0 (L4_BenchOwn.l3 kq t282 t283 t286 t299 t314 x15_4 t289 x301001_1 x301002_3 x301003_2 t304 t305 t308 t311 = some r) ∧ Aside0 (kq ≤ k3) ∧ Aside0 (Kd.R k40 40 w' w.heap.size (fun k_ => some k_ ≠ (v287 : Value).ownBlock) (.slice Ao7 t283.length co7) t283) ∧ Aside0 (Kd.R k40 40 w' w.heap.size (fun k_ => some k_ ≠ ((.slice Ao7 t283.length co7) : Value).ownBlock) v287 t286) ∧ Aside0 (Kd.R k50 50 w' w.heap.size (fun k_ => some k_ ≠ ((.slice Ao47 t305.length co47) : Value).ownBlock) (.slice Ao23 x301001_1.length co23) x301001_1) ∧ Aside0 (Kd.R (Kd.int .i64) 3 w' w.heap.size (fun k_ => some k_ ≠ ((.slice Ao48 t308.length co48) : Value).ownBlock) (.slice Ao42 x301002_3.length co42) x301002_3) ∧ Aside0 (Kd.R k34 34 w' w.heap.size (fun k_ => some k_ ≠ ((.slice Ao49 t311.length co49) : Value).ownBlock) (.slice Ao32 x301003_2.length co32) x301003_2) ∧ Aside0 (Kd.R k50 50 w' w.heap.size (fun k_ => some k_ ≠ ((.slice Ao23 x301001_1.length co23) : Value).ownBlock) (.slice Ao47 t305.length co47) t305) ∧ Aside0 (Kd.R (Kd.int .i64) 3 w' w.heap.size (fun k_ => some k_ ≠ ((.slice Ao42 x301002_3.length co42) : Value).ownBlock) (.slice Ao48 t308.length co48) t308) ∧ Aside0 (Kd.R k34 34 w' w.heap.size (fun k_ => some k_ ≠ ((.slice Ao32 x301003_2.length co32) : Value).ownBlock) (.slice Ao49 t311.length co49) t311) ∧ Aside0 (w'.heap[gb300]? = some (.cells #[.bool t289, (.slice Ao23 x301001_1.length co23), (.slice Ao42 x301002_3.length co42), (.slice Ao32 x301003_2.length co32)] 46 (0, 0))) ∧ Aside0 (w'.heap[gb315]? = some (.cells #[.bool t304, (.slice Ao47 t305.length co47), (.slice Ao48 t308.length co48), (.slice Ao49 t311.length co49)] 46 (0, 0))) ∧ Aside0 (Below w.heap.size w w'))
          case atStart => exact ⟨(0), (by first | rfl | (simp; done) | (simp [*]; done)), H', ⟨Nat.le_refl _⟩, ⟨by (with_reducible repeat (first | apply Kd.R_alloc | apply Kd.R_drewN | apply Kd.R_drew)); exact Kd.R_mono (Kd.R_far (p := ⟨gb315, 3, none⟩) (Kd.R_far (p := ⟨gb315, 2, none⟩) (Kd.R_far (p := ⟨gb315, 1, none⟩) (Kd.R_far (p := ⟨gb315, 0, none⟩) (Kd.R_types HO_6.out BK315.out (by decide)) (fun _ hk => hk.2) (.bool t304)) (fun _ hk => hk.2) (.slice Ao47 t305.length co47)) (fun _ hk => hk.2) (.slice Ao48 t308.length co48)) (fun _ hk => hk.2) (.slice Ao49 t311.length co49)) (fun _ hk => hk.1)⟩, ⟨by (with_reducible repeat (first | apply Kd.R_alloc | apply Kd.R_drewN | apply Kd.R_drew)); exact Kd.R_mono (Kd.R_far (p := ⟨gb315, 3, none⟩) (Kd.R_far (p := ⟨gb315, 2, none⟩) (Kd.R_far (p := ⟨gb315, 1, none⟩) (Kd.R_far (p := ⟨gb315, 0, none⟩) (Kd.R_types HO_7.out BK315.out (by decide)) (fun _ hk => hk.2) (.bool t304)) (fun _ hk => hk.2) (.slice Ao47 t305.length co47)) (fun _ hk => hk.2) (.slice Ao48 t308.length co48)) (fun _ hk => hk.2) (.slice Ao49 t311.length co49)) (fun _ hk => hk.1)⟩, ⟨by (with_reducible repeat (first | apply Kd.R_alloc | apply Kd.R_drewN | apply Kd.R_drew)); exact Kd.R_mono (Kd.R_far (p := ⟨gb315, 3, none⟩) (Kd.R_far (p := ⟨gb315, 2, none⟩) (Kd.R_far (p := ⟨gb315, 1, none⟩) (Kd.R_far (p := ⟨gb315, 0, none⟩) (Kd.R_types HO_301001.out BK315.out (by decide)) (fun _ hk => hk.2) (.bool t304)) (fun _ hk => hk.2) (.slice Ao47 t305.length co47)) (fun _ hk => hk.2) (.slice Ao48 t308.length co48)) (fun _ hk => hk.2) (.slice Ao49 t311.length co49)) (fun _ hk => hk.1.2)⟩, ⟨by (with_reducible repeat (first | apply Kd.R_alloc | apply Kd.R_drewN | apply Kd.R_drew)); exact Kd.R_mono (Kd.R_far (p := ⟨gb315, 3, none⟩) (Kd.R_far (p := ⟨gb315, 2, none⟩) (Kd.R_far (p := ⟨gb315, 1, none⟩) (Kd.R_far (p := ⟨gb315, 0, none⟩) (Kd.R_types HO_301002.out BK315.out (by decide)) (fun _ hk => hk.2) (.bool t304)) (fun _ hk => hk.2) (.slice Ao47 t305.length co47)) (fun _ hk => hk.2) (.slice Ao48 t308.length co48)) (fun _ hk => hk.2) (.slice Ao49 t311.length co49)) (fun _ hk => hk.1.2)⟩, ⟨by (with_reducible repeat (first | apply Kd.R_alloc | apply Kd.R_drewN | apply Kd.R_drew)); exact Kd.R_mono (Kd.R_far (p := ⟨gb315, 3, none⟩) (Kd.R_far (p := ⟨gb315, 2, none⟩) (Kd.R_far (p := ⟨gb315, 1, none⟩) (Kd.R_far (p := ⟨gb315, 0, none⟩) (Kd.R_types HO_301003.out BK315.out (by decide)) (fun _ hk => hk.2) (.bool t304)) (fun _ hk => hk.2) (.slice Ao47 t305.length co47)) (fun _ hk => hk.2) (.slice Ao48 t308.length co48)) (fun _ hk => hk.2) (.slice Ao49 t311.length co49)) (fun _ hk => hk.1.2)⟩, ⟨by (with_reducible repeat (first | apply Kd.R_alloc | apply Kd.R_drewN | apply Kd.R_drew)); exact Kd.R_mono (Kd.R_far (p := ⟨gb315, 3, none⟩) (Kd.R_far (p := ⟨gb315, 2, none⟩) (Kd.R_far (p := ⟨gb315, 1, none⟩) (Kd.R_far (p := ⟨gb315, 0, none⟩) (Kd.R_types HO307.out BK315.out (by decide)) (fun _ hk => hk.2) (.bool t304)) (fun _ hk => hk.2) (.slice Ao47 t305.length co47)) (fun _ hk => hk.2) (.slice Ao48 t308.length co48)) (fun _ hk => hk.2) (.slice Ao49 t311.length co49)) (fun _ hk => hk.1.2)⟩, ⟨by (with_reducible repeat (first | apply Kd.R_alloc | apply Kd.R_drewN | apply Kd.R_drew)); exact Kd.R_mono (Kd.R_far (p := ⟨gb315, 3, none⟩) (Kd.R_far (p := ⟨gb315, 2, none⟩) (Kd.R_far (p := ⟨gb315, 1, none⟩) (Kd.R_far (p := ⟨gb315, 0, none⟩) (Kd.R_types HO310.out BK315.out (by decide)) (fun _ hk => hk.2) (.bool t304)) (fun _ hk => hk.2) (.slice Ao47 t305.length co47)) (fun _ hk => hk.2) (.slice Ao48 t308.length co48)) (fun _ hk => hk.2) (.slice Ao49 t311.length co49)) (fun _ hk => hk.1.2)⟩, ⟨by (with_reducible repeat (first | apply Kd.R_alloc | apply Kd.R_drewN | apply Kd.R_drew)); exact Kd.R_mono (Kd.R_far (p := ⟨gb315, 3, none⟩) (Kd.R_far (p := ⟨gb315, 2, none⟩) (Kd.R_far (p := ⟨gb315, 1, none⟩) (Kd.R_far (p := ⟨gb315, 0, none⟩) (Kd.R_types HO313.out BK315.out (by decide)) (fun _ hk => hk.2) (.bool t304)) (fun _ hk => hk.2) (.slice Ao47 t305.length co47)) (fun _ hk => hk.2) (.slice Ao48 t308.length co48)) (fun _ hk => hk.2) (.slice Ao49 t311.length co49)) (fun _ hk => hk.1.2)⟩, ⟨by (with_reducible repeat (first | refine kN ?_ _ | refine kD ?_ | refine kA ?_ _)); refine blk_far ?_ NB300_315.out _; (with_reducible repeat (first | refine kN ?_ _ | refine kD ?_ | refine kA ?_ _)); refine blk_far ?_ NB300_315.out _; (with_reducible repeat (first | refine kN ?_ _ | refine kD ?_ | refine kA ?_ _)); refine blk_far ?_ NB300_315.out _; (with_reducible repeat (first | refine kN ?_ _ | refine kD ?_ | refine kA ?_ _)); refine blk_far ?_ NB300_315.out _; (with_reducible repeat (first | refine kN ?_ _ | refine kD ?_ | refine kA ?_ _)); exact BK300.out⟩, ⟨by (with_reducible repeat (first | refine kN ?_ _ | refine kD ?_ | refine kA ?_ _)); refine blk_put (cs := #[.bool t304, .slice Ao47 t305.length co47, .slice Ao48 t308.length co48, .slice none 0 0]) ?_ 3 _ rfl; (with_reducible repeat (first | refine kN ?_ _ | refine kD ?_ | refine kA ?_ _)); refine blk_put (cs := #[.bool t304, .slice Ao47 t305.length co47, .slice none 0 0, .slice none 0 0]) ?_ 2 _ rfl; (with_reducible repeat (first | refine kN ?_ _ | refine kD ?_ | refine kA ?_ _)); refine blk_put (cs := #[.bool t304, .slice none 0 0, .slice none 0 0, .slice none 0 0]) ?_ 1 _ rfl; (with_reducible repeat (first | refine kN ?_ _ | refine kD ?_ | refine kA ?_ _)); refine blk_put (cs := #[.bool false, .slice none 0 0, .slice none 0 0, .slice none 0 0]) ?_ 0 _ rfl; (with_reducible repeat (first | refine kN ?_ _ | refine kD ?_ | refine kA ?_ _)); exact BK315.out⟩, ⟨by repeat (first | (with_reducible first | exact HB.out | apply lA | apply lN | apply lD | refine lS ?_ GE300.out | refine lS ?_ GE315.out) | exact HB.out)⟩⟩
          case round =>
           clear H'
           try clear c1
           try clear p1
           try clear q1
           try clear hx1
           try clear c2
           try clear p2
           try clear q2
           try clear hx2
           try clear hf2
           try clear c3
           try clear p3
           try clear q3
           try clear hx3
           try clear hf3
           try clear c4
           try clear p6
           try clear c8
           try clear c15
           try clear c15b0
           try clear c16
           try clear c16b0
           try clear c17
           try clear p17
           try clear q17
           try clear hx17
           try clear hf17
           try clear c20
           try clear hx20
           try clear hf20
           try clear c24
           try clear c24b0
           try clear c25
           try clear c25b0
           try clear c26
           try clear p26
           try clear q26
           try clear hx26
           try clear hf26
           try clear c29
           try clear hx29
           try clear hf29
           try clear c33
           try clear c33b0
           try clear c34
           try clear c34b0
           try clear p35
           try clear q35
           try clear hx35
           try clear hf35
           try clear c45
           try clear hcz11_0
           try clear hcz11_1
           try clear hcz11_2
           try clear hcz11_3
           try clear hcz18_0
           try clear hcz18_1
           try clear hcz18_2
           try clear hcz18_3
           try clear hcz22_0
           try clear hcz22_1
           try clear hcz22_2
           try clear hcz22_3
           try clear hcz27_0
           try clear hcz27_1
           try clear hcz27_2
           try clear hcz27_3
           try clear hcz31_0
           try clear hcz31_1
           try clear hcz31_2
           try clear hcz31_3
           try clear hcz36_0
           try clear hcz36_1
           try clear hcz36_2
           try clear hcz36_3
           try clear hcz41_0
           try clear hcz41_1
           try clear hcz41_2
           try clear hcz41_3
           try clear hcz46_0
           try clear hcz46_1
           try clear hcz46_2
           try clear hcz46_3
           try clear hfz11_0
           try clear hfz11_1
           try clear hfz11_2
           try clear hfz11_3
           try clear hfz18_0
           try clear hfz18_1
           try clear hfz18_2
           try clear hfz18_3
           try clear hfz22_0
           try clear hfz22_1
           try clear hfz22_2
           try clear hfz22_3
           try clear hfz27_0
           try clear hfz27_1
           try clear hfz27_2
           try clear hfz27_3
           try clear hfz31_0
           try clear hfz31_1
           try clear hfz31_2
           try clear hfz31_3
           try clear hfz36_0
           try clear hfz36_1
           try clear hfz36_2
           try clear hfz36_3
           try clear hfz41_0
           try clear hfz41_1
           try clear hfz41_2
           try clear hfz41_3
           try clear hfz46_0
           try clear hfz46_1
           try clear hfz46_2
           try clear hfz46_3
           try clear hx17_0
           try clear hx17_1
           try clear hx17_2
           try clear hx17_3
           try clear hx20_0
           try clear hx20_1
           try clear hx20_2
           try clear hx20_3
           try clear hx26_0
           try clear hx26_1
           try clear hx29_0
           try clear hx29_1
           try clear hx35_0
           try clear p1
           try clear p17
           try clear p2
           try clear p26
           try clear p35
           try clear p6
           try clear q1
           try clear q17
           try clear q2
           try clear q26
           try clear q35
           obtain ⟨x15_4, rfl, HA, HK4, HO_6, HO_7, HO_301001, HO_301002, HO_301003, HO_316001, HO_316002, HO_316003, BK300, BK315, HB⟩ := hrel
           cases gk with
           | zero => exact absurd HA.out (by simp [L4_BenchOwn.l3])
           | succ k4 =>
            have H := HA.out
            clear HA
            simp only [L4_BenchOwn.l3] at H
            by_cases c50 : x15_4 < (t283.length : Int)
            ·rw [if_pos c50] at H
             have c50b0 : decide (x15_4 < (t283.length : Int)) = true := decide_eq_true c50
             clear c50
             by_cases c51 : 0 ≤ x15_4
             ·rw [if_pos c51] at H
              have c51b0 : decide (0 ≤ x15_4) = true := decide_eq_true c51
              clear c51
              by_cases c52 : x15_4 < (t286.length : Int)
              ·rw [if_pos c52] at H
               have c52b0 : decide (x15_4 < (t286.length : Int)) = true := decide_eq_true c52
               clear c52
               by_cases c53 : (!(((rd_T40 t283 x15_4).f0) == ((rd_T40 t286 x15_4).f0)) || (!(((rd_T40 t283 x15_4).f1) == ((rd_T40 t286 x15_4).f1)) || (!(((rd_T40 t283 x15_4).f2) == ((rd_T40 t286 x15_4).f2))))) = true
               ·rw [if_pos c53] at H
                exact absurd ((Option.some.inj H).trans hr_.out) (by decide)
               ·rw [if_neg c53] at H
                have c53b0 : (!(((rd_T40 t283 x15_4).f0) == ((rd_T40 t286 x15_4).f0)) || (!(((rd_T40 t283 x15_4).f1) == ((rd_T40 t286 x15_4).f1)) || (!(((rd_T40 t283 x15_4).f2) == ((rd_T40 t286 x15_4).f2))))) = false := by simpa using c53
                clear c53
                have H' := Aside0.mk H
                clear H
                have p316 : 0 ≤ (x15_4 : Int) := of_decide_eq_true (by first | (with_reducible assumption) | assumption)
                have q316 : x15_4 < (t283.length : Int) := of_decide_eq_true (by first | (with_reducible assumption) | assumption)
                obtain ⟨ad316, e316, hx316_0, hx316_1, hx316_2⟩ := at_T40 (Kd.R_reads' HO_6.out).2.2 x15_4 p316 q316
                cases e316
                replace p316 := eq_true p316
                replace q316 := eq_true q316
                obtain ⟨Ao55, co55, eo55⟩ := Kd.R_slice HO_7.out
                subst eo55
                have p317 : 0 ≤ (x15_4 : Int) := of_decide_eq_true (by first | (with_reducible assumption) | assumption)
                have q317 : x15_4 < (t286.length : Int) := of_decide_eq_true (by first | (with_reducible assumption) | assumption)
                obtain ⟨ad317, e317, hx317_0, hx317_1, hx317_2⟩ := at_T40 (Kd.R_reads' HO_7.out).2.2 x15_4 p317 q317
                cases e317
                replace p317 := eq_true p317
                replace q317 := eq_true q317
                go_wp2
                repeat (go_quiet (fail); try go_wp2)
                go_roundg k4
                case measure => have := HK1.out; have := HK2.out; have := HK3.out; have := HK4.out; omega
                case rel => exact ⟨(wrap64 (x15_4 + 1)), (by first | rfl | (simp; done) | (simp [*]; done)), H', ⟨by have := HK1.out; have := HK2.out; have := HK3.out; have := HK4.out; omega⟩, ⟨by (with_reducible repeat (first | apply Kd.R_alloc | apply Kd.R_drewN | apply Kd.R_drew)); exact HO_6.out⟩, ⟨by (with_reducible repeat (first | apply Kd.R_alloc | apply Kd.R_drewN | apply Kd.R_drew)); exact HO_7.out⟩, ⟨by (with_reducible repeat (first | apply Kd.R_alloc | apply Kd.R_drewN | apply Kd.R_drew)); exact HO_301001.out⟩, ⟨by (with_reducible repeat (first | apply Kd.R_alloc | apply Kd.R_drewN | apply Kd.R_drew)); exact HO_301002.out⟩, ⟨by (with_reducible repeat (first | apply Kd.R_alloc | apply Kd.R_drewN | apply Kd.R_drew)); exact HO_301003.out⟩, ⟨by (with_reducible repeat (first | apply Kd.R_alloc | apply Kd.R_drewN | apply Kd.R_drew)); exact HO_316001.out⟩, ⟨by (with_reducible repeat (first | apply Kd.R_alloc | apply Kd.R_drewN | apply Kd.R_drew)); exact HO_316002.out⟩, ⟨by (with_reducible repeat (first | apply Kd.R_alloc | apply Kd.R_drewN | apply Kd.R_drew)); exact HO_316003.out⟩, ⟨by (with_reducible repeat (first | refine kN ?_ _ | refine kD ?_ | refine kA ?_ _)); exact BK300.out⟩, ⟨by (with_reducible repeat (first | refine kN ?_ _ | refine kD ?_ | refine kA ?_ _)); exact BK315.out⟩, ⟨by repeat (first | (with_reducible first | exact HB.out | apply lA | apply lN | apply lD | refine lS ?_ GE300.out | refine lS ?_ GE315.out) | exact HB.out)⟩⟩
              ·rw [if_neg c52] at H
               exact absurd H (by simp)
             ·rw [if_neg c51] at H
              exact absurd H (by simp)
            ·rw [if_neg c50] at H
             have c50b0 : decide (x15_4 < (t283.length : Int)) = false := decide_eq_false c50
             clear c50
             by_cases c56 : t299 = 0
             ·rw [if_pos c56] at H
              have c56b0 : (t299 == 0) = true := beq_iff_eq.mpr c56
              have c56b1 : (t299 != 0) = false := bne_eq_false_iff_eq.mpr c56
              clear c56
              by_cases c57 : t314 = 0
              ·rw [if_pos c57] at H
               have c57b0 : (t314 == 0) = true := beq_iff_eq.mpr c57
               have c57b1 : (t314 != 0) = false := bne_eq_false_iff_eq.mpr c57
               clear c57
               by_cases c58 : (t289 == t304) = true
               ·rw [if_pos c58] at H
                have c58b0 : (t289 == t304) = true := c58
                (try (have c58b1 : decide (t289 = t304) = true := by simpa using c58))
                (try (have c58b2 : (t289 == t304) = true := by simpa using c58))
                clear c58
                replace H := Option.bind_eq_some_iff.mp H
                obtain ⟨t318, A590, H⟩ := H
                replace H : (if t318 = true then ((L4_awake.f).bind fun t319 => (some t319)) else (some false)) = some r := H
                have A59 := Aside0.mk A590
                clear A590
                by_cases c60 : t318 = true
                ·subst c60
                 have H1 : ((L4_awake.f).bind fun t319 => (some t319)) = some r := by rw [if_pos rfl] at H; exact H
                 clear H
                 have H := H1
                 clear H1
                 replace H := Option.bind_eq_some_iff.mp H
                 obtain ⟨t319, A610, H⟩ := H
                 replace H : (some t319) = some r := H
                 have A61 := Aside0.mk A610
                 clear A610
                 obtain rfl := Option.some.inj H
                 have hnb62 := NB300_315.out
                 have hnc62 := NB315_300.out
                 have hcz63_0 : wr.cell? ⟨gb300, 0, none⟩ = some (.bool t289) := (blk_cell BK300.out 0).trans rfl
                 have hcz63_1 : wr.cell? ⟨gb300, 1, none⟩ = some (.slice Ao23 x301001_1.length co23) := (blk_cell BK300.out 1).trans rfl
                 have hcz63_2 : wr.cell? ⟨gb300, 2, none⟩ = some (.slice Ao42 x301002_3.length co42) := (blk_cell BK300.out 2).trans rfl
                 have hcz63_3 : wr.cell? ⟨gb300, 3, none⟩ = some (.slice Ao32 x301003_2.length co32) := (blk_cell BK300.out 3).trans rfl
                 have hfz63_0 := blk_frozen BK300.out 0
                 have hfz63_1 := blk_frozen BK300.out 1
                 have hfz63_2 := blk_frozen BK300.out 2
                 have hfz63_3 := blk_frozen BK300.out 3
                 have hcz64_0 : wr.cell? ⟨gb315, 0, none⟩ = some (.bool t304) := (blk_cell BK315.out 0).trans rfl
                 have hcz64_1 : wr.cell? ⟨gb315, 1, none⟩ = some (.slice Ao47 t305.length co47) := (blk_cell BK315.out 1).trans rfl
                 have hcz64_2 : wr.cell? ⟨gb315, 2, none⟩ = some (.slice Ao48 t308.length co48) := (blk_cell BK315.out 2).trans rfl
                 have hcz64_3 : wr.cell? ⟨gb315, 3, none⟩ = some (.slice Ao49 t311.length co49) := (blk_cell BK315.out 3).trans rfl
                 have hfz64_0 := blk_frozen BK315.out 0
                 have hfz64_1 := blk_frozen BK315.out 1
                 have hfz64_2 := blk_frozen BK315.out 2
                 have hfz64_3 := blk_frozen BK315.out 3
                 obtain ⟨Ao65, co65, eo65⟩ := Kd.R_slice HO_7.out
                 subst eo65
                 go_wp2_with (first | (go_at_call 25; (with_reducible refine (R4_Right.calls t282 _ _ t286 t304 _ _ t305 _ _ t308 _ _ t311 true _ ?side1 ?side2 ?side3 ?side4 ?side5 ?side6 ?side7 ?side8 A59.out).mono ?_); (case side1 => repeat (first | exact (Kd.R_reads' HO_7.out).2.2 | (with_reducible refine Kd.C_alloc ?_ _) | (with_reducible refine Kd.C_drewN ?_ _) | (with_reducible refine Kd.C_drew ?_))); (case side2 => exact (Kd.R_reads' HO_7.out).2.1); (case side3 => repeat (first | exact (Kd.R_reads' HO_316001.out).2.2 | (with_reducible refine Kd.C_alloc ?_ _) | (with_reducible refine Kd.C_drewN ?_ _) | (with_reducible refine Kd.C_drew ?_))); (case side4 => exact (Kd.R_reads' HO_316001.out).2.1); (case side5 => repeat (first | exact (Kd.R_reads' HO_316002.out).2.2 | (with_reducible refine Kd.C_alloc ?_ _) | (with_reducible refine Kd.C_drewN ?_ _) | (with_reducible refine Kd.C_drew ?_))); (case side6 => exact (Kd.R_reads' HO_316002.out).2.1); (case side7 => repeat (first | exact (Kd.R_reads' HO_316003.out).2.2 | (with_reducible refine Kd.C_alloc ?_ _) | (with_reducible refine Kd.C_drewN ?_ _) | (with_reducible refine Kd.C_drew ?_))); (case side8 => exact (Kd.R_reads' HO_316003.out).2.1); rintro e w66 ⟨rfl, hb⟩; have n0_ := Aside0.mk (Kd.R_below (by (with_reducible repeat (first | apply Kd.R_alloc | apply Kd.R_drewN | apply Kd.R_drew)); exact HO_6.out) hb); have n1_ := Aside0.mk (Kd.R_below (by (with_reducible repeat (first | apply Kd.R_alloc | apply Kd.R_drewN | apply Kd.R_drew)); exact HO_7.out) hb); have n2_ := Aside0.mk (Kd.R_below (by (with_reducible repeat (first | apply Kd.R_alloc | apply Kd.R_drewN | apply Kd.R_drew)); exact HO_301001.out) hb); have n3_ := Aside0.mk (Kd.R_below (by (with_reducible repeat (first | apply Kd.R_alloc | apply Kd.R_drewN | apply Kd.R_drew)); exact HO_301002.out) hb); have n4_ := Aside0.mk (Kd.R_below (by (with_reducible repeat (first | apply Kd.R_alloc | apply Kd.R_drewN | apply Kd.R_drew)); exact HO_301003.out) hb); have n5_ := Aside0.mk (Kd.R_below (by (with_reducible repeat (first | apply Kd.R_alloc | apply Kd.R_drewN | apply Kd.R_drew)); exact HO_316001.out) hb); have n6_ := Aside0.mk (Kd.R_below (by (with_reducible repeat (first | apply Kd.R_alloc | apply Kd.R_drewN | apply Kd.R_drew)); exact HO_316002.out) hb); have n7_ := Aside0.mk (Kd.R_below (by (with_reducible repeat (first | apply Kd.R_alloc | apply Kd.R_drewN | apply Kd.R_drew)); exact HO_316003.out) hb); have n8_ := Aside0.mk (blk_below (g := gb300) (o := .cells #[.bool t289, .slice Ao23 x301001_1.length co23, .slice Ao42 x301002_3.length co42, .slice Ao32 x301003_2.length co32] 46 (0, 0)) (kX BK300.out) hb); have n9_ := Aside0.mk (blk_below (g := gb315) (o := .cells #[.bool t304, .slice Ao47 t305.length co47, .slice Ao48 t308.length co48, .slice Ao49 t311.length co49] 46 (0, 0)) (kX BK315.out) hb); have n10_ := Aside0.mk (below_step lB hb); clear HO_6; clear HO_7; clear HO_301001; clear HO_301002; clear HO_301003; clear HO_316001; clear HO_316002; clear HO_316003; clear BK300; clear BK315; clear HB; have HO_6 := n0_; have HO_7 := n1_; have HO_301001 := n2_; have HO_301002 := n3_; have HO_301003 := n4_; have HO_316001 := n5_; have HO_316002 := n6_; have HO_316003 := n7_; have BK300 := n8_; have BK315 := n9_; have HB := n10_; clear n0_ n1_ n2_ n3_ n4_ n5_ n6_ n7_ n8_ n9_ n10_; (try clear hb); (try clear hb2); (try clear hk); (try clear hi)) | (go_at_call 16; (with_reducible refine (L4_awake.calls  t319 hr_ _ ?sidenone A61.out).mono ?_); (case sidenone => exact HNO.out.below lB); rintro e w67 ⟨rfl, hb⟩; have n0_ := Aside0.mk (Kd.R_below (by (with_reducible repeat (first | apply Kd.R_alloc | apply Kd.R_drewN | apply Kd.R_drew)); exact HO_6.out) hb); have n1_ := Aside0.mk (Kd.R_below (by (with_reducible repeat (first | apply Kd.R_alloc | apply Kd.R_drewN | apply Kd.R_drew)); exact HO_7.out) hb); have n2_ := Aside0.mk (Kd.R_below (by (with_reducible repeat (first | apply Kd.R_alloc | apply Kd.R_drewN | apply Kd.R_drew)); exact HO_301001.out) hb); have n3_ := Aside0.mk (Kd.R_below (by (with_reducible repeat (first | apply Kd.R_alloc | apply Kd.R_drewN | apply Kd.R_drew)); exact HO_301002.out) hb); have n4_ := Aside0.mk (Kd.R_below (by (with_reducible repeat (first | apply Kd.R_alloc | apply Kd.R_drewN | apply Kd.R_drew)); exact HO_301003.out) hb); have n5_ := Aside0.mk (Kd.R_below (by (with_reducible repeat (first | apply Kd.R_alloc | apply Kd.R_drewN | apply Kd.R_drew)); exact HO_316001.out) hb); have n6_ := Aside0.mk (Kd.R_below (by (with_reducible repeat (first | apply Kd.R_alloc | apply Kd.R_drewN | apply Kd.R_drew)); exact HO_316002.out) hb); have n7_ := Aside0.mk (Kd.R_below (by (with_reducible repeat (first | apply Kd.R_alloc | apply Kd.R_drewN | apply Kd.R_drew)); exact HO_316003.out) hb); have n8_ := Aside0.mk (blk_below (g := gb300) (o := .cells #[.bool t289, .slice Ao23 x301001_1.length co23, .slice Ao42 x301002_3.length co42, .slice Ao32 x301003_2.length co32] 46 (0, 0)) (kX BK300.out) hb); have n9_ := Aside0.mk (blk_below (g := gb315) (o := .cells #[.bool t304, .slice Ao47 t305.length co47, .slice Ao48 t308.length co48, .slice Ao49 t311.length co49] 46 (0, 0)) (kX BK315.out) hb); have n10_ := Aside0.mk (below_step lB hb); clear HO_6; clear HO_7; clear HO_301001; clear HO_301002; clear HO_301003; clear HO_316001; clear HO_316002; clear HO_316003; clear BK300; clear BK315; clear HB; have HO_6 := n0_; have HO_7 := n1_; have HO_301001 := n2_; have HO_301002 := n3_; have HO_301003 := n4_; have HO_316001 := n5_; have HO_316002 := n6_; have HO_316003 := n7_; have BK300 := n8_; have BK315 := n9_; have HB := n10_; clear n0_ n1_ n2_ n3_ n4_ n5_ n6_ n7_ n8_ n9_ n10_; (try clear hb); (try clear hb2); (try clear hk); (try clear hi)))
                 repeat (go_quiet (first | (go_at_call 25; (with_reducible refine (R4_Right.calls t282 _ _ t286 t304 _ _ t305 _ _ t308 _ _ t311 true _ ?side1 ?side2 ?side3 ?side4 ?side5 ?side6 ?side7 ?side8 A59.out).mono ?_); (case side1 => repeat (first | exact (Kd.R_reads' HO_7.out).2.2 | (with_reducible refine Kd.C_alloc ?_ _) | (with_reducible refine Kd.C_drewN ?_ _) | (with_reducible refine Kd.C_drew ?_))); (case side2 => exact (Kd.R_reads' HO_7.out).2.1); (case side3 => repeat (first | exact (Kd.R_reads' HO_316001.out).2.2 | (with_reducible refine Kd.C_alloc ?_ _) | (with_reducible refine Kd.C_drewN ?_ _) | (with_reducible refine Kd.C_drew ?_))); (case side4 => exact (Kd.R_reads' HO_316001.out).2.1); (case side5 => repeat (first | exact (Kd.R_reads' HO_316002.out).2.2 | (with_reducible refine Kd.C_alloc ?_ _) | (with_reducible refine Kd.C_drewN ?_ _) | (with_reducible refine Kd.C_drew ?_))); (case side6 => exact (Kd.R_reads' HO_316002.out).2.1); (case side7 => repeat (first | exact (Kd.R_reads' HO_316003.out).2.2 | (with_reducible refine Kd.C_alloc ?_ _) | (with_reducible refine Kd.C_drewN ?_ _) | (with_reducible refine Kd.C_drew ?_))); (case side8 => exact (Kd.R_reads' HO_316003.out).2.1); rintro e w66 ⟨rfl, hb⟩; have n0_ := Aside0.mk (Kd.R_below (by (with_reducible repeat (first | apply Kd.R_alloc | apply Kd.R_drewN | apply Kd.R_drew)); exact HO_6.out) hb); have n1_ := Aside0.mk (Kd.R_below (by (with_reducible repeat (first | apply Kd.R_alloc | apply Kd.R_drewN | apply Kd.R_drew)); exact HO_7.out) hb); have n2_ := Aside0.mk (Kd.R_below (by (with_reducible repeat (first | apply Kd.R_alloc | apply Kd.R_drewN | apply Kd.R_drew)); exact HO_301001.out) hb); have n3_ := Aside0.mk (Kd.R_below (by (with_reducible repeat (first | apply Kd.R_alloc | apply Kd.R_drewN | apply Kd.R_drew)); exact HO_301002.out) hb); have n4_ := Aside0.mk (Kd.R_below (by (with_reducible repeat (first | apply Kd.R_alloc | apply Kd.R_drewN | apply Kd.R_drew)); exact HO_301003.out) hb); have n5_ := Aside0.mk (Kd.R_below (by (with_reducible repeat (first | apply Kd.R_alloc | apply Kd.R_drewN | apply Kd.R_drew)); exact HO_316001.out) hb); have n6_ := Aside0.mk (Kd.R_below (by (with_reducible repeat (first | apply Kd.R_alloc | apply Kd.R_drewN | apply Kd.R_drew)); exact HO_316002.out) hb); have n7_ := Aside0.mk (Kd.R_below (by (with_reducible repeat (first | apply Kd.R_alloc | apply Kd.R_drewN | apply Kd.R_drew)); exact HO_316003.out) hb); have n8_ := Aside0.mk (blk_below (g := gb300) (o := .cells #[.bool t289, .slice Ao23 x301001_1.length co23, .slice Ao42 x301002_3.length co42, .slice Ao32 x301003_2.length co32] 46 (0, 0)) (kX BK300.out) hb); have n9_ := Aside0.mk (blk_below (g := gb315) (o := .cells #[.bool t304, .slice Ao47 t305.length co47, .slice Ao48 t308.length co48, .slice Ao49 t311.length co49] 46 (0, 0)) (kX BK315.out) hb); have n10_ := Aside0.mk (below_step lB hb); clear HO_6; clear HO_7; clear HO_301001; clear HO_301002; clear HO_301003; clear HO_316001; clear HO_316002; clear HO_316003; clear BK300; clear BK315; clear HB; have HO_6 := n0_; have HO_7 := n1_; have HO_301001 := n2_; have HO_301002 := n3_; have HO_301003 := n4_; have HO_316001 := n5_; have HO_316002 := n6_; have HO_316003 := n7_; have BK300 := n8_; have BK315 := n9_; have HB := n10_; clear n0_ n1_ n2_ n3_ n4_ n5_ n6_ n7_ n8_ n9_ n10_; (try clear hb); (try clear hb2); (try clear hk); (try clear hi)) | (go_at_call 16; (with_reducible refine (L4_awake.calls  t319 hr_ _ ?sidenone A61.out).mono ?_); (case sidenone => exact HNO.out.below lB); rintro e w67 ⟨rfl, hb⟩; have n0_ := Aside0.mk (Kd.R_below (by (with_reducible repeat (first | apply Kd.R_alloc | apply Kd.R_drewN | apply Kd.R_drew)); exact HO_6.out) hb); have n1_ := Aside0.mk (Kd.R_below (by (with_reducible repeat (first | apply Kd.R_alloc | apply Kd.R_drewN | apply Kd.R_drew)); exact HO_7.out) hb); have n2_ := Aside0.mk (Kd.R_below (by (with_reducible repeat (first | apply Kd.R_alloc | apply Kd.R_drewN | apply Kd.R_drew)); exact HO_301001.out) hb); have n3_ := Aside0.mk (Kd.R_below (by (with_reducible repeat (first | apply Kd.R_alloc | apply Kd.R_drewN | apply Kd.R_drew)); exact HO_301002.out) hb); have n4_ := Aside0.mk (Kd.R_below (by (with_reducible repeat (first | apply Kd.R_alloc | apply Kd.R_drewN | apply Kd.R_drew)); exact HO_301003.out) hb); have n5_ := Aside0.mk (Kd.R_below (by (with_reducible repeat (first | apply Kd.R_alloc | apply Kd.R_drewN | apply Kd.R_drew)); exact HO_316001.out) hb); have n6_ := Aside0.mk (Kd.R_below (by (with_reducible repeat (first | apply Kd.R_alloc | apply Kd.R_drewN | apply Kd.R_drew)); exact HO_316002.out) hb); have n7_ := Aside0.mk (Kd.R_below (by (with_reducible repeat (first | apply Kd.R_alloc | apply Kd.R_drewN | apply Kd.R_drew)); exact HO_316003.out) hb); have n8_ := Aside0.mk (blk_below (g := gb300) (o := .cells #[.bool t289, .slice Ao23 x301001_1.length co23, .slice Ao42 x301002_3.length co42, .slice Ao32 x301003_2.length co32] 46 (0, 0)) (kX BK300.out) hb); have n9_ := Aside0.mk (blk_below (g := gb315) (o := .cells #[.bool t304, .slice Ao47 t305.length co47, .slice Ao48 t308.length co48, .slice Ao49 t311.length co49] 46 (0, 0)) (kX BK315.out) hb); have n10_ := Aside0.mk (below_step lB hb); clear HO_6; clear HO_7; clear HO_301001; clear HO_301002; clear HO_301003; clear HO_316001; clear HO_316002; clear HO_316003; clear BK300; clear BK315; clear HB; have HO_6 := n0_; have HO_7 := n1_; have HO_301001 := n2_; have HO_301002 := n3_; have HO_301003 := n4_; have HO_316001 := n5_; have HO_316002 := n6_; have HO_316003 := n7_; have BK300 := n8_; have BK315 := n9_; have HB := n10_; clear n0_ n1_ n2_ n3_ n4_ n5_ n6_ n7_ n8_ n9_ n10_; (try clear hb); (try clear hb2); (try clear hk); (try clear hi))); try go_wp2_with (first | (go_at_call 25; (with_reducible refine (R4_Right.calls t282 _ _ t286 t304 _ _ t305 _ _ t308 _ _ t311 true _ ?side1 ?side2 ?side3 ?side4 ?side5 ?side6 ?side7 ?side8 A59.out).mono ?_); (case side1 => repeat (first | exact (Kd.R_reads' HO_7.out).2.2 | (with_reducible refine Kd.C_alloc ?_ _) | (with_reducible refine Kd.C_drewN ?_ _) | (with_reducible refine Kd.C_drew ?_))); (case side2 => exact (Kd.R_reads' HO_7.out).2.1); (case side3 => repeat (first | exact (Kd.R_reads' HO_316001.out).2.2 | (with_reducible refine Kd.C_alloc ?_ _) | (with_reducible refine Kd.C_drewN ?_ _) | (with_reducible refine Kd.C_drew ?_))); (case side4 => exact (Kd.R_reads' HO_316001.out).2.1); (case side5 => repeat (first | exact (Kd.R_reads' HO_316002.out).2.2 | (with_reducible refine Kd.C_alloc ?_ _) | (with_reducible refine Kd.C_drewN ?_ _) | (with_reducible refine Kd.C_drew ?_))); (case side6 => exact (Kd.R_reads' HO_316002.out).2.1); (case side7 => repeat (first | exact (Kd.R_reads' HO_316003.out).2.2 | (with_reducible refine Kd.C_alloc ?_ _) | (with_reducible refine Kd.C_drewN ?_ _) | (with_reducible refine Kd.C_drew ?_))); (case side8 => exact (Kd.R_reads' HO_316003.out).2.1); rintro e w66 ⟨rfl, hb⟩; have n0_ := Aside0.mk (Kd.R_below (by (with_reducible repeat (first | apply Kd.R_alloc | apply Kd.R_drewN | apply Kd.R_drew)); exact HO_6.out) hb); have n1_ := Aside0.mk (Kd.R_below (by (with_reducible repeat (first | apply Kd.R_alloc | apply Kd.R_drewN | apply Kd.R_drew)); exact HO_7.out) hb); have n2_ := Aside0.mk (Kd.R_below (by (with_reducible repeat (first | apply Kd.R_alloc | apply Kd.R_drewN | apply Kd.R_drew)); exact HO_301001.out) hb); have n3_ := Aside0.mk (Kd.R_below (by (with_reducible repeat (first | apply Kd.R_alloc | apply Kd.R_drewN | apply Kd.R_drew)); exact HO_301002.out) hb); have n4_ := Aside0.mk (Kd.R_below (by (with_reducible repeat (first | apply Kd.R_alloc | apply Kd.R_drewN | apply Kd.R_drew)); exact HO_301003.out) hb); have n5_ := Aside0.mk (Kd.R_below (by (with_reducible repeat (first | apply Kd.R_alloc | apply Kd.R_drewN | apply Kd.R_drew)); exact HO_316001.out) hb); have n6_ := Aside0.mk (Kd.R_below (by (with_reducible repeat (first | apply Kd.R_alloc | apply Kd.R_drewN | apply Kd.R_drew)); exact HO_316002.out) hb); have n7_ := Aside0.mk (Kd.R_below (by (with_reducible repeat (first | apply Kd.R_alloc | apply Kd.R_drewN | apply Kd.R_drew)); exact HO_316003.out) hb); have n8_ := Aside0.mk (blk_below (g := gb300) (o := .cells #[.bool t289, .slice Ao23 x301001_1.length co23, .slice Ao42 x301002_3.length co42, .slice Ao32 x301003_2.length co32] 46 (0, 0)) (kX BK300.out) hb); have n9_ := Aside0.mk (blk_below (g := gb315) (o := .cells #[.bool t304, .slice Ao47 t305.length co47, .slice Ao48 t308.length co48, .slice Ao49 t311.length co49] 46 (0, 0)) (kX BK315.out) hb); have n10_ := Aside0.mk (below_step lB hb); clear HO_6; clear HO_7; clear HO_301001; clear HO_301002; clear HO_301003; clear HO_316001; clear HO_316002; clear HO_316003; clear BK300; clear BK315; clear HB; have HO_6 := n0_; have HO_7 := n1_; have HO_301001 := n2_; have HO_301002 := n3_; have HO_301003 := n4_; have HO_316001 := n5_; have HO_316002 := n6_; have HO_316003 := n7_; have BK300 := n8_; have BK315 := n9_; have HB := n10_; clear n0_ n1_ n2_ n3_ n4_ n5_ n6_ n7_ n8_ n9_ n10_; (try clear hb); (try clear hb2); (try clear hk); (try clear hi)) | (go_at_call 16; (with_reducible refine (L4_awake.calls  t319 hr_ _ ?sidenone A61.out).mono ?_); (case sidenone => exact HNO.out.below lB); rintro e w67 ⟨rfl, hb⟩; have n0_ := Aside0.mk (Kd.R_below (by (with_reducible repeat (first | apply Kd.R_alloc | apply Kd.R_drewN | apply Kd.R_drew)); exact HO_6.out) hb); have n1_ := Aside0.mk (Kd.R_below (by (with_reducible repeat (first | apply Kd.R_alloc | apply Kd.R_drewN | apply Kd.R_drew)); exact HO_7.out) hb); have n2_ := Aside0.mk (Kd.R_below (by (with_reducible repeat (first | apply Kd.R_alloc | apply Kd.R_drewN | apply Kd.R_drew)); exact HO_301001.out) hb); have n3_ := Aside0.mk (Kd.R_below (by (with_reducible repeat (first | apply Kd.R_alloc | apply Kd.R_drewN | apply Kd.R_drew)); exact HO_301002.out) hb); have n4_ := Aside0.mk (Kd.R_below (by (with_reducible repeat (first | apply Kd.R_alloc | apply Kd.R_drewN | apply Kd.R_drew)); exact HO_301003.out) hb); have n5_ := Aside0.mk (Kd.R_below (by (with_reducible repeat (first | apply Kd.R_alloc | apply Kd.R_drewN | apply Kd.R_drew)); exact HO_316001.out) hb); have n6_ := Aside0.mk (Kd.R_below (by (with_reducible repeat (first | apply Kd.R_alloc | apply Kd.R_drewN | apply Kd.R_drew)); exact HO_316002.out) hb); have n7_ := Aside0.mk (Kd.R_below (by (with_reducible repeat (first | apply Kd.R_alloc | apply Kd.R_drewN | apply Kd.R_drew)); exact HO_316003.out) hb); have n8_ := Aside0.mk (blk_below (g := gb300) (o := .cells #[.bool t289, .slice Ao23 x301001_1.length co23, .slice Ao42 x301002_3.length co42, .slice Ao32 x301003_2.length co32] 46 (0, 0)) (kX BK300.out) hb); have n9_ := Aside0.mk (blk_below (g := gb315) (o := .cells #[.bool t304, .slice Ao47 t305.length co47, .slice Ao48 t308.length co48, .slice Ao49 t311.length co49] 46 (0, 0)) (kX BK315.out) hb); have n10_ := Aside0.mk (below_step lB hb); clear HO_6; clear HO_7; clear HO_301001; clear HO_301002; clear HO_301003; clear HO_316001; clear HO_316002; clear HO_316003; clear BK300; clear BK315; clear HB; have HO_6 := n0_; have HO_7 := n1_; have HO_301001 := n2_; have HO_301002 := n3_; have HO_301003 := n4_; have HO_316001 := n5_; have HO_316002 := n6_; have HO_316003 := n7_; have BK300 := n8_; have BK315 := n9_; have HB := n10_; clear n0_ n1_ n2_ n3_ n4_ n5_ n6_ n7_ n8_ n9_ n10_; (try clear hb); (try clear hb2); (try clear hk); (try clear hi))))
                 go_ret
                 exact en
                ·replace c60 := Bool.eq_false_iff.mpr c60
                 subst c60
                 exact absurd ((Option.some.inj (show (some false : Option Bool) = some r from by rw [if_neg (show ¬ (false = true) by decide)] at H; exact H)).trans hr_.out) (by decide)
               ·rw [if_neg c58] at H
                exact absurd ((Option.some.inj H).trans hr_.out) (by decide)
              ·rw [if_neg c57] at H
               exact absurd ((Option.some.inj H).trans hr_.out) (by decide)
             ·rw [if_neg c56] at H
              exact absurd ((Option.some.inj H).trans hr_.out) (by decide)
end Go.Proofs.YtmnhcbaocoofoaaDoor.P
namespace Go.Proofs.YtmnhcbaocoofoaaDoor.P
open Go.RowKit YtmnhcbaocoofoaaDoorW.PrintWords
theorem mn_is (n : Nat) (c : Nat) : mn (n : Int) (c : Int) = ((min n c : Nat) : Int) := by unfold mn; omega
theorem jobs_is (l : List S40) (most : Nat) (hm : most ≤ 32) (hl : l.length ≤ 9223372036854775807) : ∃ own, own.length ≤ 33 ∧ (l.length ≤ most → own = l) ∧ L4_jobs.f l (most : Int) = some own := by
  unfold L4_jobs.f
  by_cases c : (l.length : Int) > 32
  · refine ⟨l.take 33, by rw [List.length_take]; omega, fun h => by omega, ?_⟩
    rw [if_pos c, if_pos (by omega), Option.bind_some, if_pos (by rw [List.length_take, List.length_nil]; omega)]
    rfl
  · refine ⟨l.take (min l.length most), by rw [List.length_take]; omega, fun h => by rw [List.take_of_length_le (by omega)], ?_⟩
    rw [if_neg c, mn_is, Int.toNat_natCast, if_pos (by omega), if_pos (by omega), Option.bind_some, if_pos (by rw [List.length_take, List.length_nil]; omega)]
    rfl
theorem planA_slots {B : Int} {js : List S40} (h : TaskOk B js) : (planA B js).2.1.length ≤ 4032 := by
  unfold planA
  split
  · rename_i hc
    have := (Ben.planS_sched h.jobs hc h.m).2
    simpa using this
  · simp
section
variable {B : Int} {own : List S40} {p : Bool}
theorem own_l3 (ht : TaskOk B own) (ss : List S50) (jobs : List Int) (sp : List S34) : ∀ n i, i + n = own.length →
    Ev (fun k => L4_BenchOwn.l3 k B own own 0 0 (i : Int) (planA B own).1 ss jobs sp (planA B own).1 (planA B own).2.1 (planA B own).2.2.1 (planA B own).2.2.2) true
  | 0, i, h => by
    obtain rfl : i = own.length := by omega
    refine Ev.step (fun k => by rw [L4_BenchOwn.l3, if_neg (by omega), if_pos rfl, if_pos rfl, if_pos (by simp), right_is ht (by have := planA_len ht; omega), right_plan ht, Option.bind_some, if_pos rfl, awake_bind]) (Ev.now true)
  | n + 1, i, h => by
    have hm := ht.m
    refine Ev.step (fun k => ?_) (own_l3 ht ss jobs sp n (i + 1) (by omega))
    rw [L4_BenchOwn.l3, if_pos (by omega), if_pos (by omega), if_pos (by omega), if_neg (by simp), w1 i (by omega)]
theorem own_l2 (ht : TaskOk B own) (ss : List S50) (sp : List S34) : ∀ n i (jobs : List Int), i + n = jobs.length → jobs.length ≤ 100000 → Ev (fun k => L4_BenchOwn.l2 k B own own 0 (i : Int) (planA B own).1 ss jobs sp) true
  | 0, i, jobs, h, hl => by
    refine Ev.step (fun k => by rw [L4_BenchOwn.l2, if_neg (by omega), plan_is ht, Option.bind_some]) ?_
    exact own_l3 ht ss jobs sp own.length 0 (by omega)
  | n + 1, i, jobs, h, hl => by
    refine Ev.step (fun k => by rw [L4_BenchOwn.l2, if_pos (by omega), if_pos (by omega), w1 i (by omega)]) ?_
    exact own_l2 ht ss sp n (i + 1) _ (by rw [List.length_set]; omega) (by rw [List.length_set]; exact hl)
theorem own_l1 (ht : TaskOk B own) (ss : List S50) (jobs : List Int) (hj : jobs.length ≤ 100000) : ∀ n i (sp : List S34), i + n = sp.length → sp.length ≤ 100000 → Ev (fun k => L4_BenchOwn.l1 k B own own 0 (i : Int) (planA B own).1 ss jobs sp) true
  | 0, i, sp, h, hl => by
    refine Ev.step (fun k => by rw [L4_BenchOwn.l1, if_neg (by omega)]) ?_
    exact own_l2 ht ss sp jobs.length 0 jobs (by omega) hj
  | n + 1, i, sp, h, hl => by
    refine Ev.step (fun k => by rw [L4_BenchOwn.l1, if_pos (by omega), if_pos (by omega), w1 i (by omega)]) ?_
    exact own_l1 ht ss jobs hj n (i + 1) _ (by rw [List.length_set]; omega) (by rw [List.length_set]; exact hl)
theorem own_l0 (ht : TaskOk B own) (jobs : List Int) (sp : List S34) (hj : jobs.length ≤ 100000) (hp : sp.length ≤ 100000) : ∀ n i (ss : List S50), i + n = ss.length → ss.length ≤ 100000 → Ev (fun k => L4_BenchOwn.l0 k B own own 0 (i : Int) (planA B own).1 ss jobs sp) true
  | 0, i, ss, h, hl => by
    refine Ev.step (fun k => by rw [L4_BenchOwn.l0, if_neg (by omega)]) ?_
    exact own_l1 ht ss jobs hj sp.length 0 sp (by omega) hp
  | n + 1, i, ss, h, hl => by
    refine Ev.step (fun k => by rw [L4_BenchOwn.l0, if_pos (by omega), if_pos (by omega), w1 i (by omega)]) ?_
    exact own_l0 ht jobs sp hj hp n (i + 1) _ (by rw [List.length_set]; omega) (by rw [List.length_set]; exact hl)
end
theorem Pure.BenchOwn (a0 : Int) (l1 : List S40) (hl : l1.length ≤ 9223372036854775807) : ∃ k, L4_BenchOwn.f k a0 l1 = some true := by
  apply Ev.rounds
  obtain ⟨B, own, ht, hm, he⟩ := tame_ev a0 l1 10 (by decide) hl
  obtain ⟨own', _, hown, ej⟩ := jobs_is own 10 (by decide) (by have := ht.m; omega)
  obtain rfl := hown hm
  unfold L4_BenchOwn.f
  refine Ev.bind he ?_
  simp only
  have ej' : L4_jobs.f own' 10 = some own' := ej
  rw [ej', plan_is ht]
  simp only [Option.bind_some]
  have hp := planA_len ht
  have hs := planA_slots ht
  exact own_l0 ht _ _ (by omega) (by omega) _ 0 _ (Nat.zero_add _) (by omega)
end Go.Proofs.YtmnhcbaocoofoaaDoor.P
