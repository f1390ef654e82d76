/- Proved here: what functions that the law reaches compute, and plain laws of that. -/
import Derived.Test.YtmnhcbaocoofoaaDoorBQ14
import Derived.Test.YtmnhcbaocoofoaaDoorBQ11
import Derived.Test.YtmnhcbaocoofoaaDoorBQ12
set_option linter.unusedVariables false
set_option linter.unusedSimpArgs false
namespace Go.Proofs.YtmnhcbaocoofoaaDoor.P
open Go.RowKit YtmnhcbaocoofoaaDoorW.PrintWords YtmnhcbaocoofoaaDoorW.PrintLast YtmnhcbaocoofoaaDoorW.PrintMore
theorem over_calls (a b c d : Int) (w : World) (h1 : 0 ≤ a ∧ 0 ≤ b ∧ a ≤ 1048576 ∧ b ≤ 1048576) (h2 : 0 ≤ c ∧ 0 ≤ d ∧ c ≤ 1048576 ∧ d ≤ 1048576) : Calls Tryd.prog 50 #[.int .i64 a, .int .i64 b, .int .i64 c, .int .i64 d] w fun e w' => e = .returned (.int .i64 (Ben.lap a b c d)) ∧ Below w.heap.size w w' := by
  refine (R4_overlap.calls a b c d (Ben.lap a b c d) w ?_).mono ?_
  · unfold R4_overlap.f Ben.lap
    have e1 : mn b d = min b d := by unfold mn; omega
    have e2 : mx a c = max a c := by unfold mx; omega
    rw [e1, e2, w64i (by omega) (by omega)]
    have e3 : mx 0 (min b d - max a c) = max 0 (min b d - max a c) := by unfold mx; omega
    rw [e3]
  · rintro e w' ⟨he, hd⟩
    exact ⟨he, hd⟩
def PairOk (x y : S50) : Prop := (x.f0 = y.f0 ∨ x.f1 = y.f1) → ¬ 0 < Ben.lap x.f2 x.f3 y.f2 y.f3
theorem pair_ap {x y : S50} (hx : x.f2 < x.f3) (hy : y.f2 < y.f3) : PairOk x y ↔ ApK S50.f0 y x ∧ ApK S50.f1 y x := by
  have e : ¬ 0 < Ben.lap x.f2 x.f3 y.f2 y.f3 ↔ (y.f3 ≤ x.f2 ∨ x.f3 ≤ y.f2) := by unfold Ben.lap; omega
  unfold PairOk ApK
  rw [e]
  constructor
  · intro h; exact ⟨fun e => h (Or.inl e.symm), fun e => h (Or.inr e.symm)⟩
  · intro h e; exact e.elim (fun e => h.1 e.symm) (fun e => h.2 e.symm)
theorem SchOk.pair {B : Int} {js : List S40} {ss : List S50} (h : SchOk B js ss) {a b : Nat} (hab : a < b) (hb : b < ss.length) : PairOk (gS ss b) (gS ss a) := by
  have hx := (h.each b hb).2.2.1
  have hy := (h.each a (by omega)).2.2.1
  rw [pair_ap hx hy]
  have h1 := List.pairwise_iff_getElem.1 h.apJ a b (by omega) hb hab
  have h2 := List.pairwise_iff_getElem.1 h.apB a b (by omega) hb hab
  rw [gS_get hb, gS_get (show a < ss.length by omega)]
  exact ⟨h1, h2⟩
theorem SchOk.of_pairs {B : Int} {js : List S40} {ss : List S50} (hl : ss.length ≤ 4096) (he : ∀ i, i < ss.length → SlotOk B js (gS ss i)) (hw : ∀ k, k < js.length → doneN ss ss.length k = (gJ js k).work) (hp : ∀ a b, a < b → b < ss.length → PairOk (gS ss b) (gS ss a)) : SchOk B js ss := by
  have key : ∀ a b (hab : a < b) (hb : b < ss.length), ApK S50.f0 (gS ss a) (gS ss b) ∧ ApK S50.f1 (gS ss a) (gS ss b) := fun a b hab hb =>
    (pair_ap (he b hb).2.2.1 (he a (by omega)).2.2.1).1 (hp a b hab hb)
  refine ⟨hl, he, hw, ?_, ?_⟩
  · refine List.pairwise_iff_getElem.2 fun a b ha hb hab => ?_
    have := (key a b hab hb).1
    rwa [gS_get ha, gS_get hb] at this
  · refine List.pairwise_iff_getElem.2 fun a b ha hb hab => ?_
    have := (key a b hab hb).2
    rwa [gS_get ha, gS_get hb] at this
structure RsM (w0 W : World) (gs gd n : Nat) (x : S50) (D : Nat → Int) : Prop where
  s : W.heap[gs]? = some (.cells #[.int .i64 x.f0, .int .i64 x.f1, .int .i64 x.f2, .int .i64 x.f3] 50 (0, 0))
  d : W.rowIs gd 3 n (fun k => .int .i64 (D k))
  b : Below w0.heap.size w0 W
theorem RsM.below {w0 W W' : World} {gs gd n : Nat} {x : S50} {D : Nat → Int} (h : RsM w0 W gs gd n x D) (hb : Below W.heap.size W W') : RsM w0 W' gs gd n x D :=
  ⟨(hb.block _ (blk_lt h.s)).trans h.s, row_below h.d hb, below_step h.b hb⟩
def rschR.T8 : Bool × List (List Nat × List Nat) := (true, [([], []), ([0], [0]), ([1], [1]), ([2], [2]), ([3], [3]), ([4, 3], [3, 4]), ([3], [3]), ([6, 3], [3, 6]), ([5, 7, 3], [3, 5, 7]), ([3, 8], [3, 8]), ([9, 3], [9]), ([10], [10]), ([11, 10], [10, 11]), ([12, 10], [10, 12]), ([10, 13], [10, 13]), ([14, 10], [14]), ([15], [15]), ([16, 15], [15, 16]), ([15], [15]), ([17, 18, 15], [15, 17, 18]), ([15, 19], [15, 19]), ([20, 15], [20]), ([21], [21]), ([22, 21], [21, 22]), ([21], [21]), ([24, 21], [21, 24]), ([23, 25, 21], [21, 23, 25]), ([21, 26], [21, 26]), ([27, 21], [27]), ([28], [28]), ([29, 28], [28, 29]), ([28], [28]), ([28], [28]), ([32, 28], [28, 32]), ([31, 33, 28], [28, 31, 33]), ([34, 28], [28, 34]), ([35, 28], [28, 35]), ([30, 36, 28], [28, 30, 36]), ([28, 37], [28, 37]), ([38, 28], [38]), ([39], [39]), ([40, 39], [39, 40]), ([39], [39]), ([39], [39]), ([43, 39], [39, 43]), ([42, 44, 39], [39, 42, 44]), ([45, 39], [39, 45]), ([46, 39], [39, 46]), ([41, 47, 39], [39, 41, 47]), ([39, 48], [39, 48])])
def rschR.B8 : List Nat := [0, 1, 3, 7, 15, 31, 15, 79, 255, 511, 1023, 2047, 4095, 8191, 16383, 32767, 65535, 131071, 65535, 524287, 1048575, 2097151, 4194303, 8388607, 4194303, 20971519, 67108863, 134217727, 268435455, 536870911, 1073741823, 536870911, 536870911, 4831838207, 15569256447, 32749125631, 67108863999, 137438953471, 274877906943, 549755813887, 1099511627775, 2199023255551, 1099511627775, 1099511627775, 9895604649983, 31885837205503, 67070209294335, 137438953471999, 281474976710655, 562949953421311]
theorem rschR.tab8 : rtab .any (opsOf Tryd.f35 8) = rschR.T8 := by kernel_rfl
theorem rschR.bits8 : waitsOk rschR.T8.2 rschR.B8 = true := by kernel_rfl
def rschR.T10 : Bool × List (List Nat × List Nat) := (true, [([], []), ([], []), ([1], [1]), ([], []), ([], []), ([4], [4]), ([3, 5], [3, 5]), ([6], [6]), ([], []), ([8], [8]), ([7, 9], [7, 9]), ([], []), ([11], [11]), ([10, 12], [10, 12]), ([0, 2, 0, 1, 2, 3, 4, 5, 6, 7, 8, 9, 10, 11, 12, 13], [0, 2]), ([14, 13, 0, 1, 2, 3, 4, 5, 6, 7, 8, 9, 10, 11, 12, 13], [13, 14])])
def rschR.B10 : List Nat := [0, 0, 2, 0, 0, 16, 56, 120, 0, 256, 1016, 0, 2048, 8184, 16383, 32767]
theorem rschR.tab10 : rtab .any (opsOf Tryd.f35 10) = rschR.T10 := by kernel_rfl
theorem rschR.bits10 : waitsOk rschR.T10.2 rschR.B10 = true := by kernel_rfl
def rschR.T20 : Bool × List (List Nat × List Nat) := (true, [([], []), ([], []), ([0, 1], [0, 1]), ([2], [2]), ([], []), ([], []), ([4, 5], [4, 5]), ([6], [6]), ([7], [7]), ([3, 8], [3, 8])])
def rschR.B20 : List Nat := [0, 0, 3, 7, 0, 0, 48, 112, 240, 511]
theorem rschR.tab20 : rtab .any (opsOf Tryd.f35 20) = rschR.T20 := by kernel_rfl
theorem rschR.bits20 : waitsOk rschR.T20.2 rschR.B20 = true := by kernel_rfl
set_option maxHeartbeats 16000000 in
set_option maxRecDepth 100000 in
theorem rsch_calls (B : Int) (A : Option Addr) (c : Nat) (js : List S40) (A1 : Option Addr) (c1 : Nat) (ss : List S50) (w : World) (hr : Kd.C k40 w A js.length js) (ht : TaskOk B js) (hr1 : Kd.C k50 w A1 ss.length ss) :
    Calls Tryd.prog 35 #[.int .i64 B, .slice A js.length c, .slice A1 ss.length c1] w fun e w' => e = .returned (.bool (schB B js ss)) ∧ Below w.heap.size w w' := by
  have HB := Aside0.mk (Below.refl w.heap.size w)
  have HT := Aside0.mk ht
  have HR := Aside0.mk hr
  have HS := Aside0.mk hr1
  obtain ⟨R, hR⟩ : ∃ R, R = schB B js ss := ⟨_, rfl⟩
  have HRR := Aside0.mk (show R = true ↔ SchOk B js ss by rw [hR]; unfold schB; simp)
  rw [← hR]
  have hu50 := Tryd.underlying50
  have hu40 := Tryd.underlying40
  have hB8 : B ≤ 8 := ht.b.2
  have hB1 : 1 ≤ B := ht.b.1
  have hn32 : ((js.length : Nat) : Int) ≤ 32 := by have := ht.m; omega
  obtain ⟨n, hn⟩ : ∃ n, n = js.length := ⟨_, rfl⟩
  obtain ⟨m, hm⟩ : ∃ m, m = ss.length := ⟨_, rfl⟩
  have HNM := Aside0.mk (show n = js.length ∧ m = ss.length from ⟨hn, hm⟩)
  rw [← hn] at hn32
  rw [← hn, ← hm]
  clear hr ht hr1 hR
  by_cases h4 : m ≤ 4096
  case neg =>
    have HRF : Aside0 (R = false) := ⟨by
      cases hR : R with
      | false => rfl
      | true => have := (HRR.out.1 hR).len; omega⟩
    have hmI : (4096 : Int) < ((m : Nat) : Int) := by omega
    clear h4 hn hm
    go_enter Tryd.func35, Tryd.ntmps35
    go_wp2
    go_ret
    exact ⟨by rw [HRF.out]; rfl, HB.out⟩
  case pos =>
  have hmI : ¬ (4096 : Int) < ((m : Nat) : Int) := by omega
  have hmI2 : ((m : Nat) : Int) ≤ 4096 := by omega
  have hmk : ∀ W, (Instr.makeSlice 43 (.int .i64 ((n : Nat) : Int)) (.int .i64 ((n : Nat) : Int))).run Tryd.prog W = .ok (.slice (some ⟨W.heap.size, 0, none⟩) n n) (W.alloc (.cells (madeCells #[.int .i64 0] n) 3)) := fun W =>
    run_make_row' 43 3 (.int .i64 0) 8 Tryd.underlying43 info3 rfl .i64 .i64 n (by omega) (by omega) W
  clear hn hm
  go_enter Tryd.func35, Tryd.ntmps35
  go_wp2
  obtain ⟨gd, hgd⟩ : ∃ gd, gd = w.heap.size := ⟨_, rfl⟩
  rw [← hgd]
  have HGD := Aside0.mk (show w.heap.size ≤ gd by rw [hgd]; exact Nat.le_refl _)
  have hr0 : (w.alloc (.cells (madeCells #[.int .i64 0] n) 3)).rowIs gd 3 n (fun k => .int .i64 (doneN ss 0 k)) := by rw [hgd]; exact World.rowIs_made w (.int .i64 0) n 3
  have HD00 := Aside0.mk hr0
  have HB00 := Aside0.mk (below_alloc HB.out (.cells (madeCells #[.int .i64 0] n) 3))
  have HDL := Aside0.mk (fun i h k => doneN_le (ss := ss) HT.out i h k)
  clear hr0 hmk hgd
  go_loopg [8] m (fun f v8 wr => ∃ i : Nat, v8 = .int .i64 ((i : Nat) : Int) ∧ Aside0 (i + f = m) ∧ Aside0 (∀ q, q < i → SlotOk B js (gS ss q)) ∧ Aside0 (∀ a b, a < b → b < i → PairOk (gS ss b) (gS ss a)) ∧ Aside0 (wr.rowIs gd 3 n (fun k => .int .i64 (doneN ss i k))) ∧ Aside0 (Below w.heap.size w wr))
  case atStart => exact ⟨0, rfl, ⟨by omega⟩, ⟨fun q hq => absurd hq (Nat.not_lt_zero q)⟩, ⟨fun a b _ hb => absurd hb (Nat.not_lt_zero b)⟩, HD00, HB00⟩
  case round =>
    obtain ⟨i, rfl, HI, HE, HPP, HD0, HBr⟩ := hrel
    clear HD00 HB00
    by_cases him : i < m
    · obtain ⟨f, rfl⟩ : ∃ q, gk = q + 1 := ⟨gk - 1, by have := HI.out; omega⟩
      have himI : ((i : Nat) : Int) < ((m : Nat) : Int) := by omega
      obtain ⟨az, haz, z0, z1, z2, z3⟩ := slot_at HS.out HBr.out i (by have := HNM.out; omega)
      subst haz
      have HRF := Aside0.mk (fun (h : ¬ SlotOk B js (gS ss i)) => (by
        cases hR : R with
        | false => rfl
        | true => exact absurd ((HRR.out.1 hR).each i (by have := HNM.out; omega)) h : R = false))
      have HDN : Aside0 (∀ k, doneN ss (i + 1) k = doneN ss i k + (if (gS ss i).f0 = (k : Int) then (gS ss i).f3 - (gS ss i).f2 else 0)) := ⟨fun k => rfl⟩
      have HDB := Aside0.mk (fun k => HDL.out i HE.out k)
      have HSO := Aside0.mk (slotOk_iff B js (gS ss i))
      obtain ⟨x, hx⟩ : ∃ x, x = gS ss i := ⟨_, rfl⟩
      rw [← hx] at z0 z1 z2 z3 HRF HDN HSO
      have HXE := Aside0.mk hx
      clear hx
      obtain ⟨x0, x1, x2, x3⟩ := x
      simp only at z0 z1 z2 z3 HDN HSO
      by_cases c1 : 0 ≤ x0
      case neg =>
        have HF := Aside0.mk (HRF.out (by
          rw [HSO.out]
          intro h
          exact c1 h.1.1))
        have c1b : decide (x0 < 0) = true := decide_eq_true (by omega)
        clear HRF him
        go_wp2_with (first | ((with_reducible refine gate_dst (N := 9) rfl ?_); refine bxe 9 #[.int .i64 0, .int .i64 0, .int .i64 0, .int .i64 0] 50 ?_; intro gs hgs w3 hbox3 hb3; have HX3 := Aside0.mk hbox3; have HGS := Aside0.mk (show wr.heap.size ≤ gs by rw [hgs]; exact Nat.le_refl _); have HBS := Aside0.mk (show Below wr.heap.size wr ((((w3.setCell ⟨gs, 0, none⟩ (.int .i64 x0)).setCell ⟨gs, 1, none⟩ (.int .i64 x1)).setCell ⟨gs, 2, none⟩ (.int .i64 x2)).setCell ⟨gs, 3, none⟩ (.int .i64 x3)) from Below.setCell (Below.setCell (Below.setCell (Below.setCell hb3 HGS.out _) HGS.out _) HGS.out _) HGS.out _); have HM := Aside0.mk (show RsM w ((((w3.setCell ⟨gs, 0, none⟩ (.int .i64 x0)).setCell ⟨gs, 1, none⟩ (.int .i64 x1)).setCell ⟨gs, 2, none⟩ (.int .i64 x2)).setCell ⟨gs, 3, none⟩ (.int .i64 x3)) gs gd n ⟨x0, x1, x2, x3⟩ (doneN ss i) from ⟨blk_put (cs := #[.int .i64 x0, .int .i64 x1, .int .i64 x2, .int .i64 0]) (blk_put (cs := #[.int .i64 x0, .int .i64 x1, .int .i64 0, .int .i64 0]) (blk_put (cs := #[.int .i64 x0, .int .i64 0, .int .i64 0, .int .i64 0]) (blk_put (cs := #[.int .i64 0, .int .i64 0, .int .i64 0, .int .i64 0]) HX3.out 0 _ rfl) 1 _ rfl) 2 _ rfl) 3 _ rfl, row_below HD0.out HBS.out, below_step HBr.out HBS.out⟩); have t0 : w3.cell? ⟨gs, 0, none⟩ = some (.int .i64 0) := (blk_cell HX3.out 0).trans rfl; have q0 := blk_frozen HX3.out 0; have t1 : w3.cell? ⟨gs, 1, none⟩ = some (.int .i64 0) := (blk_cell HX3.out 1).trans rfl; have q1 := blk_frozen HX3.out 1; have t2 : w3.cell? ⟨gs, 2, none⟩ = some (.int .i64 0) := (blk_cell HX3.out 2).trans rfl; have q2 := blk_frozen HX3.out 2; have t3 : w3.cell? ⟨gs, 3, none⟩ = some (.int .i64 0) := (blk_cell HX3.out 3).trans rfl; have q3 := blk_frozen HX3.out 3; have HGN := Aside0.mk (show gd ≠ gs by have := HD0.out.lt; have := HGS.out; omega); clear hgs hbox3 hb3))
        clear t0 t1 t2 t3 q0 q1 q2 q3
        have HM4 := Aside0.mk (HM.out.below (below_drew (Below.refl _ _)))
        generalize hW4 : World.drew ((((w3.setCell ⟨gs, 0, none⟩ (.int .i64 x0)).setCell ⟨gs, 1, none⟩ (.int .i64 x1)).setCell ⟨gs, 2, none⟩ (.int .i64 x2)).setCell ⟨gs, 3, none⟩ (.int .i64 x3)) = w4 at HM4
        have s0 : w4.cell? ⟨gs, 0, none⟩ = some (.int .i64 x0) := (blk_cell HM4.out.s 0).trans rfl
        have s1 : w4.cell? ⟨gs, 1, none⟩ = some (.int .i64 x1) := (blk_cell HM4.out.s 1).trans rfl
        have s2 : w4.cell? ⟨gs, 2, none⟩ = some (.int .i64 x2) := (blk_cell HM4.out.s 2).trans rfl
        have s3 : w4.cell? ⟨gs, 3, none⟩ = some (.int .i64 x3) := (blk_cell HM4.out.s 3).trans rfl
        rw [← hW4] at s0 s1 s2 s3
        refine start_ (n := 50) (S := fun w' => w'.cell? ⟨gs, 0, none⟩ = some (.int .i64 x0) ∧ w'.cell? ⟨gs, 1, none⟩ = some (.int .i64 x1) ∧ w'.cell? ⟨gs, 2, none⟩ = some (.int .i64 x2) ∧ w'.cell? ⟨gs, 3, none⟩ = some (.int .i64 x3)) (ds := []) (Bs 0 50) (by kernel_rfl) rfl rfl ⟨s0, s1, s2, s3⟩ (fun hHeld => ?_)
        rw [hW4] at s0 s1 s2 s3 hHeld ⊢
        refine with_tabW rschR.tab8 rschR.bits8 (fun HT_ HW_ => ?_)
        refine pu 0 29 (Bs 1 50) HT_ ?_
        refine ta 1 30 (Bs 2 50) HT_ HW_ hHeld ?_
        refine pu 2 31 (Bs 3 50) HT_ ?_
        refine pu 3 32 (Bs 4 50) HT_ ?_
        refine po 4 33 (Bs 5 50) HT_ ?_
        refine po 5 34 (Bs 6 50) HT_ ?_
        refine po 6 35 (Bs 7 50) HT_ ?_
        refine po 7 36 (Bs 8 50) HT_ ?_
        refine po 8 37 (Bs 9 50) HT_ ?_
        refine pu 9 38 (Bs 10 50) HT_ ?_
        refine pu 10 39 (Bs 11 50) HT_ ?_
        refine po 11 40 (Bs 12 50) HT_ ?_
        refine po 12 41 (Bs 13 50) HT_ ?_
        refine po 13 42 (Bs 14 50) HT_ ?_
        refine pu 14 43 (Bs 15 50) HT_ ?_
        refine pu 15 44 (Bs 16 50) HT_ ?_
        refine po 16 45 (Bs 17 50) HT_ ?_
        refine po 17 46 (Bs 18 50) HT_ ?_
        refine po 18 47 (Bs 19 50) HT_ ?_
        refine po 19 48 (Bs 20 50) HT_ ?_
        refine pu 20 49 (Bs 21 50) HT_ ?_
        refine pu 21 50 (Bs 22 50) HT_ ?_
        refine po 22 51 (Bs 23 50) HT_ ?_
        refine po 23 52 (Bs 24 50) HT_ ?_
        refine po 24 53 (Bs 25 50) HT_ ?_
        refine po 25 54 (Bs 26 50) HT_ ?_
        refine po 26 55 (Bs 27 50) HT_ ?_
        refine pu 27 56 (Bs 28 50) HT_ ?_
        refine pu 28 57 (Bs 29 50) HT_ ?_
        refine po 29 58 (Bs 30 50) HT_ ?_
        refine po 30 59 (Bs 31 50) HT_ ?_
        refine po 31 60 (Bs 32 50) HT_ ?_
        refine po 32 61 (Bs 33 50) HT_ ?_
        refine po 33 62 (Bs 34 50) HT_ ?_
        refine po 34 63 (Bs 35 50) HT_ ?_
        refine po 35 64 (Bs 36 50) HT_ ?_
        refine po 36 65 (Bs 37 50) HT_ ?_
        refine po 37 66 (Bs 38 50) HT_ ?_
        refine pu 38 67 (Bs 39 50) HT_ ?_
        refine pu 39 68 (Bs 40 50) HT_ ?_
        refine po 40 69 (Bs 41 50) HT_ ?_
        refine po 41 70 (Bs 42 50) HT_ ?_
        refine po 42 71 (Bs 43 50) HT_ ?_
        refine po 43 72 (Bs 44 50) HT_ ?_
        refine po 44 73 (Bs 45 50) HT_ ?_
        refine po 45 74 (Bs 46 50) HT_ ?_
        refine po 46 75 (Bs 47 50) HT_ ?_
        refine po 47 76 (Bs 48 50) HT_ ?_
        refine po 48 77 (Bs 49 50) HT_ ?_
        refine pu 49 78 (Bs 50 50) HT_ ?_
        refine done_ (done_of HT_.out (by kernel_rfl)) ?_
        clear hHeld s0 s1 s2 s3
        go_wp2
        go_ret
        exact ⟨by rw [HF.out]; rfl, HM4.out.b⟩

      case pos =>
      have c1b : decide (x0 < 0) = false := decide_eq_false (by omega)
      by_cases c2 : x0 < ((n : Nat) : Int)
      case neg =>
        have HF := Aside0.mk (HRF.out (by
          rw [HSO.out]
          intro h
          have := h.1.2; have := HNM.out; omega))
        have c2b : decide (((n : Nat) : Int) ≤ x0) = true := decide_eq_true (by omega)
        clear HRF him
        go_wp2_with (first | ((with_reducible refine gate_dst (N := 9) rfl ?_); refine bxe 9 #[.int .i64 0, .int .i64 0, .int .i64 0, .int .i64 0] 50 ?_; intro gs hgs w3 hbox3 hb3; have HX3 := Aside0.mk hbox3; have HGS := Aside0.mk (show wr.heap.size ≤ gs by rw [hgs]; exact Nat.le_refl _); have HBS := Aside0.mk (show Below wr.heap.size wr ((((w3.setCell ⟨gs, 0, none⟩ (.int .i64 x0)).setCell ⟨gs, 1, none⟩ (.int .i64 x1)).setCell ⟨gs, 2, none⟩ (.int .i64 x2)).setCell ⟨gs, 3, none⟩ (.int .i64 x3)) from Below.setCell (Below.setCell (Below.setCell (Below.setCell hb3 HGS.out _) HGS.out _) HGS.out _) HGS.out _); have HM := Aside0.mk (show RsM w ((((w3.setCell ⟨gs, 0, none⟩ (.int .i64 x0)).setCell ⟨gs, 1, none⟩ (.int .i64 x1)).setCell ⟨gs, 2, none⟩ (.int .i64 x2)).setCell ⟨gs, 3, none⟩ (.int .i64 x3)) gs gd n ⟨x0, x1, x2, x3⟩ (doneN ss i) from ⟨blk_put (cs := #[.int .i64 x0, .int .i64 x1, .int .i64 x2, .int .i64 0]) (blk_put (cs := #[.int .i64 x0, .int .i64 x1, .int .i64 0, .int .i64 0]) (blk_put (cs := #[.int .i64 x0, .int .i64 0, .int .i64 0, .int .i64 0]) (blk_put (cs := #[.int .i64 0, .int .i64 0, .int .i64 0, .int .i64 0]) HX3.out 0 _ rfl) 1 _ rfl) 2 _ rfl) 3 _ rfl, row_below HD0.out HBS.out, below_step HBr.out HBS.out⟩); have t0 : w3.cell? ⟨gs, 0, none⟩ = some (.int .i64 0) := (blk_cell HX3.out 0).trans rfl; have q0 := blk_frozen HX3.out 0; have t1 : w3.cell? ⟨gs, 1, none⟩ = some (.int .i64 0) := (blk_cell HX3.out 1).trans rfl; have q1 := blk_frozen HX3.out 1; have t2 : w3.cell? ⟨gs, 2, none⟩ = some (.int .i64 0) := (blk_cell HX3.out 2).trans rfl; have q2 := blk_frozen HX3.out 2; have t3 : w3.cell? ⟨gs, 3, none⟩ = some (.int .i64 0) := (blk_cell HX3.out 3).trans rfl; have q3 := blk_frozen HX3.out 3; have HGN := Aside0.mk (show gd ≠ gs by have := HD0.out.lt; have := HGS.out; omega); clear hgs hbox3 hb3))
        clear t0 t1 t2 t3 q0 q1 q2 q3
        have HM4 := Aside0.mk (HM.out.below (below_drew (Below.refl _ _)))
        generalize hW4 : World.drew ((((w3.setCell ⟨gs, 0, none⟩ (.int .i64 x0)).setCell ⟨gs, 1, none⟩ (.int .i64 x1)).setCell ⟨gs, 2, none⟩ (.int .i64 x2)).setCell ⟨gs, 3, none⟩ (.int .i64 x3)) = w4 at HM4
        have s0 : w4.cell? ⟨gs, 0, none⟩ = some (.int .i64 x0) := (blk_cell HM4.out.s 0).trans rfl
        have s1 : w4.cell? ⟨gs, 1, none⟩ = some (.int .i64 x1) := (blk_cell HM4.out.s 1).trans rfl
        have s2 : w4.cell? ⟨gs, 2, none⟩ = some (.int .i64 x2) := (blk_cell HM4.out.s 2).trans rfl
        have s3 : w4.cell? ⟨gs, 3, none⟩ = some (.int .i64 x3) := (blk_cell HM4.out.s 3).trans rfl
        rw [← hW4] at s0 s1 s2 s3
        refine start_ (n := 50) (S := fun w' => w'.cell? ⟨gs, 0, none⟩ = some (.int .i64 x0) ∧ w'.cell? ⟨gs, 1, none⟩ = some (.int .i64 x1) ∧ w'.cell? ⟨gs, 2, none⟩ = some (.int .i64 x2) ∧ w'.cell? ⟨gs, 3, none⟩ = some (.int .i64 x3)) (ds := []) (Bs 0 50) (by kernel_rfl) rfl rfl ⟨s0, s1, s2, s3⟩ (fun hHeld => ?_)
        rw [hW4] at s0 s1 s2 s3 hHeld ⊢
        refine with_tabW rschR.tab8 rschR.bits8 (fun HT_ HW_ => ?_)
        refine pu 0 29 (Bs 1 50) HT_ ?_
        refine ta 1 30 (Bs 2 50) HT_ HW_ hHeld ?_
        refine pu 2 31 (Bs 3 50) HT_ ?_
        refine pu 3 32 (Bs 4 50) HT_ ?_
        refine pu 4 33 (Bs 5 50) HT_ ?_
        refine pu 6 35 (Br [5,1,1,43]) HT_ ?_
        refine pu 7 36 (Br [5,1,2,42]) HT_ ?_
        refine ta 5 34 (Bs 8 50) HT_ HW_ hHeld ?_
        refine pu 8 37 (Bs 9 50) HT_ ?_
        refine pu 9 38 (Bs 10 50) HT_ ?_
        refine pu 10 39 (Bs 11 50) HT_ ?_
        refine po 11 40 (Bs 12 50) HT_ ?_
        refine po 12 41 (Bs 13 50) HT_ ?_
        refine po 13 42 (Bs 14 50) HT_ ?_
        refine pu 14 43 (Bs 15 50) HT_ ?_
        refine pu 15 44 (Bs 16 50) HT_ ?_
        refine po 16 45 (Bs 17 50) HT_ ?_
        refine po 17 46 (Bs 18 50) HT_ ?_
        refine po 18 47 (Bs 19 50) HT_ ?_
        refine po 19 48 (Bs 20 50) HT_ ?_
        refine pu 20 49 (Bs 21 50) HT_ ?_
        refine pu 21 50 (Bs 22 50) HT_ ?_
        refine po 22 51 (Bs 23 50) HT_ ?_
        refine po 23 52 (Bs 24 50) HT_ ?_
        refine po 24 53 (Bs 25 50) HT_ ?_
        refine po 25 54 (Bs 26 50) HT_ ?_
        refine po 26 55 (Bs 27 50) HT_ ?_
        refine pu 27 56 (Bs 28 50) HT_ ?_
        refine pu 28 57 (Bs 29 50) HT_ ?_
        refine po 29 58 (Bs 30 50) HT_ ?_
        refine po 30 59 (Bs 31 50) HT_ ?_
        refine po 31 60 (Bs 32 50) HT_ ?_
        refine po 32 61 (Bs 33 50) HT_ ?_
        refine po 33 62 (Bs 34 50) HT_ ?_
        refine po 34 63 (Bs 35 50) HT_ ?_
        refine po 35 64 (Bs 36 50) HT_ ?_
        refine po 36 65 (Bs 37 50) HT_ ?_
        refine po 37 66 (Bs 38 50) HT_ ?_
        refine pu 38 67 (Bs 39 50) HT_ ?_
        refine pu 39 68 (Bs 40 50) HT_ ?_
        refine po 40 69 (Bs 41 50) HT_ ?_
        refine po 41 70 (Bs 42 50) HT_ ?_
        refine po 42 71 (Bs 43 50) HT_ ?_
        refine po 43 72 (Bs 44 50) HT_ ?_
        refine po 44 73 (Bs 45 50) HT_ ?_
        refine po 45 74 (Bs 46 50) HT_ ?_
        refine po 46 75 (Bs 47 50) HT_ ?_
        refine po 47 76 (Bs 48 50) HT_ ?_
        refine po 48 77 (Bs 49 50) HT_ ?_
        refine pu 49 78 (Bs 50 50) HT_ ?_
        refine done_ (done_of HT_.out (by kernel_rfl)) ?_
        clear hHeld s0 s1 s2 s3
        go_wp2
        go_ret
        exact ⟨by rw [HF.out]; rfl, HM4.out.b⟩

      case pos =>
      have c2b : decide (((n : Nat) : Int) ≤ x0) = false := decide_eq_false (by omega)
      obtain ⟨k, hk⟩ : ∃ k : Nat, x0 = (k : Int) := ⟨x0.toNat, by omega⟩
      subst hk
      have hkn : k < n := by omega
      have hkI : ((k : Nat) : Int) < ((n : Nat) : Int) := by omega
      have c2n : decide (n ≤ k) = false := decide_eq_false (by omega)
      by_cases c3 : 0 ≤ x1
      case neg =>
        have HF := Aside0.mk (HRF.out (by
          rw [HSO.out]
          intro h
          exact c3 h.2.1.1))
        have c3b : decide (x1 < 0) = true := decide_eq_true (by omega)
        clear HRF him
        go_wp2_with (first | ((with_reducible refine gate_dst (N := 9) rfl ?_); refine bxe 9 #[.int .i64 0, .int .i64 0, .int .i64 0, .int .i64 0] 50 ?_; intro gs hgs w3 hbox3 hb3; have HX3 := Aside0.mk hbox3; have HGS := Aside0.mk (show wr.heap.size ≤ gs by rw [hgs]; exact Nat.le_refl _); have HBS := Aside0.mk (show Below wr.heap.size wr ((((w3.setCell ⟨gs, 0, none⟩ (.int .i64 ((k : Nat) : Int))).setCell ⟨gs, 1, none⟩ (.int .i64 x1)).setCell ⟨gs, 2, none⟩ (.int .i64 x2)).setCell ⟨gs, 3, none⟩ (.int .i64 x3)) from Below.setCell (Below.setCell (Below.setCell (Below.setCell hb3 HGS.out _) HGS.out _) HGS.out _) HGS.out _); have HM := Aside0.mk (show RsM w ((((w3.setCell ⟨gs, 0, none⟩ (.int .i64 ((k : Nat) : Int))).setCell ⟨gs, 1, none⟩ (.int .i64 x1)).setCell ⟨gs, 2, none⟩ (.int .i64 x2)).setCell ⟨gs, 3, none⟩ (.int .i64 x3)) gs gd n ⟨((k : Nat) : Int), x1, x2, x3⟩ (doneN ss i) from ⟨blk_put (cs := #[.int .i64 ((k : Nat) : Int), .int .i64 x1, .int .i64 x2, .int .i64 0]) (blk_put (cs := #[.int .i64 ((k : Nat) : Int), .int .i64 x1, .int .i64 0, .int .i64 0]) (blk_put (cs := #[.int .i64 ((k : Nat) : Int), .int .i64 0, .int .i64 0, .int .i64 0]) (blk_put (cs := #[.int .i64 0, .int .i64 0, .int .i64 0, .int .i64 0]) HX3.out 0 _ rfl) 1 _ rfl) 2 _ rfl) 3 _ rfl, row_below HD0.out HBS.out, below_step HBr.out HBS.out⟩); have t0 : w3.cell? ⟨gs, 0, none⟩ = some (.int .i64 0) := (blk_cell HX3.out 0).trans rfl; have q0 := blk_frozen HX3.out 0; have t1 : w3.cell? ⟨gs, 1, none⟩ = some (.int .i64 0) := (blk_cell HX3.out 1).trans rfl; have q1 := blk_frozen HX3.out 1; have t2 : w3.cell? ⟨gs, 2, none⟩ = some (.int .i64 0) := (blk_cell HX3.out 2).trans rfl; have q2 := blk_frozen HX3.out 2; have t3 : w3.cell? ⟨gs, 3, none⟩ = some (.int .i64 0) := (blk_cell HX3.out 3).trans rfl; have q3 := blk_frozen HX3.out 3; have HGN := Aside0.mk (show gd ≠ gs by have := HD0.out.lt; have := HGS.out; omega); clear hgs hbox3 hb3))
        clear t0 t1 t2 t3 q0 q1 q2 q3
        have HM4 := Aside0.mk (HM.out.below (below_drew (Below.refl _ _)))
        generalize hW4 : World.drew ((((w3.setCell ⟨gs, 0, none⟩ (.int .i64 ((k : Nat) : Int))).setCell ⟨gs, 1, none⟩ (.int .i64 x1)).setCell ⟨gs, 2, none⟩ (.int .i64 x2)).setCell ⟨gs, 3, none⟩ (.int .i64 x3)) = w4 at HM4
        have s0 : w4.cell? ⟨gs, 0, none⟩ = some (.int .i64 ((k : Nat) : Int)) := (blk_cell HM4.out.s 0).trans rfl
        have s1 : w4.cell? ⟨gs, 1, none⟩ = some (.int .i64 x1) := (blk_cell HM4.out.s 1).trans rfl
        have s2 : w4.cell? ⟨gs, 2, none⟩ = some (.int .i64 x2) := (blk_cell HM4.out.s 2).trans rfl
        have s3 : w4.cell? ⟨gs, 3, none⟩ = some (.int .i64 x3) := (blk_cell HM4.out.s 3).trans rfl
        rw [← hW4] at s0 s1 s2 s3
        refine start_ (n := 50) (S := fun w' => w'.cell? ⟨gs, 0, none⟩ = some (.int .i64 ((k : Nat) : Int)) ∧ w'.cell? ⟨gs, 1, none⟩ = some (.int .i64 x1) ∧ w'.cell? ⟨gs, 2, none⟩ = some (.int .i64 x2) ∧ w'.cell? ⟨gs, 3, none⟩ = some (.int .i64 x3)) (ds := []) (Bs 0 50) (by kernel_rfl) rfl rfl ⟨s0, s1, s2, s3⟩ (fun hHeld => ?_)
        rw [hW4] at s0 s1 s2 s3 hHeld ⊢
        refine with_tabW rschR.tab8 rschR.bits8 (fun HT_ HW_ => ?_)
        refine pu 0 29 (Bs 1 50) HT_ ?_
        refine ta 1 30 (Bs 2 50) HT_ HW_ hHeld ?_
        refine pu 2 31 (Bs 3 50) HT_ ?_
        refine pu 3 32 (Bs 4 50) HT_ ?_
        refine pu 4 33 (Bs 5 50) HT_ ?_
        refine pu 6 35 (Br [5,1,1,43]) HT_ ?_
        refine pu 7 36 (Br [5,1,2,42]) HT_ ?_
        refine ta 5 34 (Bs 8 50) HT_ HW_ hHeld ?_
        refine pu 8 37 (Bs 9 50) HT_ ?_
        refine pu 9 38 (Bs 10 50) HT_ ?_
        refine pu 10 39 (Bs 11 50) HT_ ?_
        refine pu 11 40 (Bs 12 50) HT_ ?_
        refine ta 12 41 (Bs 13 50) HT_ HW_ hHeld ?_
        refine pu 13 42 (Bs 14 50) HT_ ?_
        refine pu 14 43 (Bs 15 50) HT_ ?_
        refine pu 15 44 (Bs 16 50) HT_ ?_
        refine po 16 45 (Bs 17 50) HT_ ?_
        refine po 17 46 (Bs 18 50) HT_ ?_
        refine po 18 47 (Bs 19 50) HT_ ?_
        refine po 19 48 (Bs 20 50) HT_ ?_
        refine pu 20 49 (Bs 21 50) HT_ ?_
        refine pu 21 50 (Bs 22 50) HT_ ?_
        refine po 22 51 (Bs 23 50) HT_ ?_
        refine po 23 52 (Bs 24 50) HT_ ?_
        refine po 24 53 (Bs 25 50) HT_ ?_
        refine po 25 54 (Bs 26 50) HT_ ?_
        refine po 26 55 (Bs 27 50) HT_ ?_
        refine pu 27 56 (Bs 28 50) HT_ ?_
        refine pu 28 57 (Bs 29 50) HT_ ?_
        refine po 29 58 (Bs 30 50) HT_ ?_
        refine po 30 59 (Bs 31 50) HT_ ?_
        refine po 31 60 (Bs 32 50) HT_ ?_
        refine po 32 61 (Bs 33 50) HT_ ?_
        refine po 33 62 (Bs 34 50) HT_ ?_
        refine po 34 63 (Bs 35 50) HT_ ?_
        refine po 35 64 (Bs 36 50) HT_ ?_
        refine po 36 65 (Bs 37 50) HT_ ?_
        refine po 37 66 (Bs 38 50) HT_ ?_
        refine pu 38 67 (Bs 39 50) HT_ ?_
        refine pu 39 68 (Bs 40 50) HT_ ?_
        refine po 40 69 (Bs 41 50) HT_ ?_
        refine po 41 70 (Bs 42 50) HT_ ?_
        refine po 42 71 (Bs 43 50) HT_ ?_
        refine po 43 72 (Bs 44 50) HT_ ?_
        refine po 44 73 (Bs 45 50) HT_ ?_
        refine po 45 74 (Bs 46 50) HT_ ?_
        refine po 46 75 (Bs 47 50) HT_ ?_
        refine po 47 76 (Bs 48 50) HT_ ?_
        refine po 48 77 (Bs 49 50) HT_ ?_
        refine pu 49 78 (Bs 50 50) HT_ ?_
        refine done_ (done_of HT_.out (by kernel_rfl)) ?_
        clear hHeld s0 s1 s2 s3
        go_wp2
        go_ret
        exact ⟨by rw [HF.out]; rfl, HM4.out.b⟩

      case pos =>
      have c3b : decide (x1 < 0) = false := decide_eq_false (by omega)
      by_cases c4 : x1 < B
      case neg =>
        have HF := Aside0.mk (HRF.out (by
          rw [HSO.out]
          intro h
          have := h.2.1.2; omega))
        have c4b : decide (B ≤ x1) = true := decide_eq_true (by omega)
        clear HRF him
        go_wp2_with (first | ((with_reducible refine gate_dst (N := 9) rfl ?_); refine bxe 9 #[.int .i64 0, .int .i64 0, .int .i64 0, .int .i64 0] 50 ?_; intro gs hgs w3 hbox3 hb3; have HX3 := Aside0.mk hbox3; have HGS := Aside0.mk (show wr.heap.size ≤ gs by rw [hgs]; exact Nat.le_refl _); have HBS := Aside0.mk (show Below wr.heap.size wr ((((w3.setCell ⟨gs, 0, none⟩ (.int .i64 ((k : Nat) : Int))).setCell ⟨gs, 1, none⟩ (.int .i64 x1)).setCell ⟨gs, 2, none⟩ (.int .i64 x2)).setCell ⟨gs, 3, none⟩ (.int .i64 x3)) from Below.setCell (Below.setCell (Below.setCell (Below.setCell hb3 HGS.out _) HGS.out _) HGS.out _) HGS.out _); have HM := Aside0.mk (show RsM w ((((w3.setCell ⟨gs, 0, none⟩ (.int .i64 ((k : Nat) : Int))).setCell ⟨gs, 1, none⟩ (.int .i64 x1)).setCell ⟨gs, 2, none⟩ (.int .i64 x2)).setCell ⟨gs, 3, none⟩ (.int .i64 x3)) gs gd n ⟨((k : Nat) : Int), x1, x2, x3⟩ (doneN ss i) from ⟨blk_put (cs := #[.int .i64 ((k : Nat) : Int), .int .i64 x1, .int .i64 x2, .int .i64 0]) (blk_put (cs := #[.int .i64 ((k : Nat) : Int), .int .i64 x1, .int .i64 0, .int .i64 0]) (blk_put (cs := #[.int .i64 ((k : Nat) : Int), .int .i64 0, .int .i64 0, .int .i64 0]) (blk_put (cs := #[.int .i64 0, .int .i64 0, .int .i64 0, .int .i64 0]) HX3.out 0 _ rfl) 1 _ rfl) 2 _ rfl) 3 _ rfl, row_below HD0.out HBS.out, below_step HBr.out HBS.out⟩); have t0 : w3.cell? ⟨gs, 0, none⟩ = some (.int .i64 0) := (blk_cell HX3.out 0).trans rfl; have q0 := blk_frozen HX3.out 0; have t1 : w3.cell? ⟨gs, 1, none⟩ = some (.int .i64 0) := (blk_cell HX3.out 1).trans rfl; have q1 := blk_frozen HX3.out 1; have t2 : w3.cell? ⟨gs, 2, none⟩ = some (.int .i64 0) := (blk_cell HX3.out 2).trans rfl; have q2 := blk_frozen HX3.out 2; have t3 : w3.cell? ⟨gs, 3, none⟩ = some (.int .i64 0) := (blk_cell HX3.out 3).trans rfl; have q3 := blk_frozen HX3.out 3; have HGN := Aside0.mk (show gd ≠ gs by have := HD0.out.lt; have := HGS.out; omega); clear hgs hbox3 hb3))
        clear t0 t1 t2 t3 q0 q1 q2 q3
        have HM4 := Aside0.mk (HM.out.below (below_drew (Below.refl _ _)))
        generalize hW4 : World.drew ((((w3.setCell ⟨gs, 0, none⟩ (.int .i64 ((k : Nat) : Int))).setCell ⟨gs, 1, none⟩ (.int .i64 x1)).setCell ⟨gs, 2, none⟩ (.int .i64 x2)).setCell ⟨gs, 3, none⟩ (.int .i64 x3)) = w4 at HM4
        have s0 : w4.cell? ⟨gs, 0, none⟩ = some (.int .i64 ((k : Nat) : Int)) := (blk_cell HM4.out.s 0).trans rfl
        have s1 : w4.cell? ⟨gs, 1, none⟩ = some (.int .i64 x1) := (blk_cell HM4.out.s 1).trans rfl
        have s2 : w4.cell? ⟨gs, 2, none⟩ = some (.int .i64 x2) := (blk_cell HM4.out.s 2).trans rfl
        have s3 : w4.cell? ⟨gs, 3, none⟩ = some (.int .i64 x3) := (blk_cell HM4.out.s 3).trans rfl
        rw [← hW4] at s0 s1 s2 s3
        refine start_ (n := 50) (S := fun w' => w'.cell? ⟨gs, 0, none⟩ = some (.int .i64 ((k : Nat) : Int)) ∧ w'.cell? ⟨gs, 1, none⟩ = some (.int .i64 x1) ∧ w'.cell? ⟨gs, 2, none⟩ = some (.int .i64 x2) ∧ w'.cell? ⟨gs, 3, none⟩ = some (.int .i64 x3)) (ds := []) (Bs 0 50) (by kernel_rfl) rfl rfl ⟨s0, s1, s2, s3⟩ (fun hHeld => ?_)
        rw [hW4] at s0 s1 s2 s3 hHeld ⊢
        refine with_tabW rschR.tab8 rschR.bits8 (fun HT_ HW_ => ?_)
        refine pu 0 29 (Bs 1 50) HT_ ?_
        refine ta 1 30 (Bs 2 50) HT_ HW_ hHeld ?_
        refine pu 2 31 (Bs 3 50) HT_ ?_
        refine pu 3 32 (Bs 4 50) HT_ ?_
        refine pu 4 33 (Bs 5 50) HT_ ?_
        refine pu 6 35 (Br [5,1,1,43]) HT_ ?_
        refine pu 7 36 (Br [5,1,2,42]) HT_ ?_
        refine ta 5 34 (Bs 8 50) HT_ HW_ hHeld ?_
        refine pu 8 37 (Bs 9 50) HT_ ?_
        refine pu 9 38 (Bs 10 50) HT_ ?_
        refine pu 10 39 (Bs 11 50) HT_ ?_
        refine pu 11 40 (Bs 12 50) HT_ ?_
        refine ta 12 41 (Bs 13 50) HT_ HW_ hHeld ?_
        refine pu 13 42 (Bs 14 50) HT_ ?_
        refine pu 14 43 (Bs 15 50) HT_ ?_
        refine pu 15 44 (Bs 16 50) HT_ ?_
        refine pu 16 45 (Bs 17 50) HT_ ?_
        refine pu 18 47 (Br [17,1,1,31]) HT_ ?_
        refine ta 17 46 (Bs 19 50) HT_ HW_ hHeld ?_
        refine pu 19 48 (Bs 20 50) HT_ ?_
        refine pu 20 49 (Bs 21 50) HT_ ?_
        refine pu 21 50 (Bs 22 50) HT_ ?_
        refine po 22 51 (Bs 23 50) HT_ ?_
        refine po 23 52 (Bs 24 50) HT_ ?_
        refine po 24 53 (Bs 25 50) HT_ ?_
        refine po 25 54 (Bs 26 50) HT_ ?_
        refine po 26 55 (Bs 27 50) HT_ ?_
        refine pu 27 56 (Bs 28 50) HT_ ?_
        refine pu 28 57 (Bs 29 50) HT_ ?_
        refine po 29 58 (Bs 30 50) HT_ ?_
        refine po 30 59 (Bs 31 50) HT_ ?_
        refine po 31 60 (Bs 32 50) HT_ ?_
        refine po 32 61 (Bs 33 50) HT_ ?_
        refine po 33 62 (Bs 34 50) HT_ ?_
        refine po 34 63 (Bs 35 50) HT_ ?_
        refine po 35 64 (Bs 36 50) HT_ ?_
        refine po 36 65 (Bs 37 50) HT_ ?_
        refine po 37 66 (Bs 38 50) HT_ ?_
        refine pu 38 67 (Bs 39 50) HT_ ?_
        refine pu 39 68 (Bs 40 50) HT_ ?_
        refine po 40 69 (Bs 41 50) HT_ ?_
        refine po 41 70 (Bs 42 50) HT_ ?_
        refine po 42 71 (Bs 43 50) HT_ ?_
        refine po 43 72 (Bs 44 50) HT_ ?_
        refine po 44 73 (Bs 45 50) HT_ ?_
        refine po 45 74 (Bs 46 50) HT_ ?_
        refine po 46 75 (Bs 47 50) HT_ ?_
        refine po 47 76 (Bs 48 50) HT_ ?_
        refine po 48 77 (Bs 49 50) HT_ ?_
        refine pu 49 78 (Bs 50 50) HT_ ?_
        refine done_ (done_of HT_.out (by kernel_rfl)) ?_
        clear hHeld s0 s1 s2 s3
        go_wp2
        go_ret
        exact ⟨by rw [HF.out]; rfl, HM4.out.b⟩

      case pos =>
      have c4b : decide (B ≤ x1) = false := decide_eq_false (by omega)
      by_cases c5 : x2 < x3
      case neg =>
        have HF := Aside0.mk (HRF.out (by
          rw [HSO.out]
          intro h
          exact c5 h.2.2.1))
        have c5b : decide (x3 ≤ x2) = true := decide_eq_true (by omega)
        clear HRF him
        go_wp2_with (first | ((with_reducible refine gate_dst (N := 9) rfl ?_); refine bxe 9 #[.int .i64 0, .int .i64 0, .int .i64 0, .int .i64 0] 50 ?_; intro gs hgs w3 hbox3 hb3; have HX3 := Aside0.mk hbox3; have HGS := Aside0.mk (show wr.heap.size ≤ gs by rw [hgs]; exact Nat.le_refl _); have HBS := Aside0.mk (show Below wr.heap.size wr ((((w3.setCell ⟨gs, 0, none⟩ (.int .i64 ((k : Nat) : Int))).setCell ⟨gs, 1, none⟩ (.int .i64 x1)).setCell ⟨gs, 2, none⟩ (.int .i64 x2)).setCell ⟨gs, 3, none⟩ (.int .i64 x3)) from Below.setCell (Below.setCell (Below.setCell (Below.setCell hb3 HGS.out _) HGS.out _) HGS.out _) HGS.out _); have HM := Aside0.mk (show RsM w ((((w3.setCell ⟨gs, 0, none⟩ (.int .i64 ((k : Nat) : Int))).setCell ⟨gs, 1, none⟩ (.int .i64 x1)).setCell ⟨gs, 2, none⟩ (.int .i64 x2)).setCell ⟨gs, 3, none⟩ (.int .i64 x3)) gs gd n ⟨((k : Nat) : Int), x1, x2, x3⟩ (doneN ss i) from ⟨blk_put (cs := #[.int .i64 ((k : Nat) : Int), .int .i64 x1, .int .i64 x2, .int .i64 0]) (blk_put (cs := #[.int .i64 ((k : Nat) : Int), .int .i64 x1, .int .i64 0, .int .i64 0]) (blk_put (cs := #[.int .i64 ((k : Nat) : Int), .int .i64 0, .int .i64 0, .int .i64 0]) (blk_put (cs := #[.int .i64 0, .int .i64 0, .int .i64 0, .int .i64 0]) HX3.out 0 _ rfl) 1 _ rfl) 2 _ rfl) 3 _ rfl, row_below HD0.out HBS.out, below_step HBr.out HBS.out⟩); have t0 : w3.cell? ⟨gs, 0, none⟩ = some (.int .i64 0) := (blk_cell HX3.out 0).trans rfl; have q0 := blk_frozen HX3.out 0; have t1 : w3.cell? ⟨gs, 1, none⟩ = some (.int .i64 0) := (blk_cell HX3.out 1).trans rfl; have q1 := blk_frozen HX3.out 1; have t2 : w3.cell? ⟨gs, 2, none⟩ = some (.int .i64 0) := (blk_cell HX3.out 2).trans rfl; have q2 := blk_frozen HX3.out 2; have t3 : w3.cell? ⟨gs, 3, none⟩ = some (.int .i64 0) := (blk_cell HX3.out 3).trans rfl; have q3 := blk_frozen HX3.out 3; have HGN := Aside0.mk (show gd ≠ gs by have := HD0.out.lt; have := HGS.out; omega); clear hgs hbox3 hb3))
        clear t0 t1 t2 t3 q0 q1 q2 q3
        have HM4 := Aside0.mk (HM.out.below (below_drew (Below.refl _ _)))
        generalize hW4 : World.drew ((((w3.setCell ⟨gs, 0, none⟩ (.int .i64 ((k : Nat) : Int))).setCell ⟨gs, 1, none⟩ (.int .i64 x1)).setCell ⟨gs, 2, none⟩ (.int .i64 x2)).setCell ⟨gs, 3, none⟩ (.int .i64 x3)) = w4 at HM4
        have s0 : w4.cell? ⟨gs, 0, none⟩ = some (.int .i64 ((k : Nat) : Int)) := (blk_cell HM4.out.s 0).trans rfl
        have s1 : w4.cell? ⟨gs, 1, none⟩ = some (.int .i64 x1) := (blk_cell HM4.out.s 1).trans rfl
        have s2 : w4.cell? ⟨gs, 2, none⟩ = some (.int .i64 x2) := (blk_cell HM4.out.s 2).trans rfl
        have s3 : w4.cell? ⟨gs, 3, none⟩ = some (.int .i64 x3) := (blk_cell HM4.out.s 3).trans rfl
        rw [← hW4] at s0 s1 s2 s3
        refine start_ (n := 50) (S := fun w' => w'.cell? ⟨gs, 0, none⟩ = some (.int .i64 ((k : Nat) : Int)) ∧ w'.cell? ⟨gs, 1, none⟩ = some (.int .i64 x1) ∧ w'.cell? ⟨gs, 2, none⟩ = some (.int .i64 x2) ∧ w'.cell? ⟨gs, 3, none⟩ = some (.int .i64 x3)) (ds := []) (Bs 0 50) (by kernel_rfl) rfl rfl ⟨s0, s1, s2, s3⟩ (fun hHeld => ?_)
        rw [hW4] at s0 s1 s2 s3 hHeld ⊢
        refine with_tabW rschR.tab8 rschR.bits8 (fun HT_ HW_ => ?_)
        refine pu 0 29 (Bs 1 50) HT_ ?_
        refine ta 1 30 (Bs 2 50) HT_ HW_ hHeld ?_
        refine pu 2 31 (Bs 3 50) HT_ ?_
        refine pu 3 32 (Bs 4 50) HT_ ?_
        refine pu 4 33 (Bs 5 50) HT_ ?_
        refine pu 6 35 (Br [5,1,1,43]) HT_ ?_
        refine pu 7 36 (Br [5,1,2,42]) HT_ ?_
        refine ta 5 34 (Bs 8 50) HT_ HW_ hHeld ?_
        refine pu 8 37 (Bs 9 50) HT_ ?_
        refine pu 9 38 (Bs 10 50) HT_ ?_
        refine pu 10 39 (Bs 11 50) HT_ ?_
        refine pu 11 40 (Bs 12 50) HT_ ?_
        refine ta 12 41 (Bs 13 50) HT_ HW_ hHeld ?_
        refine pu 13 42 (Bs 14 50) HT_ ?_
        refine pu 14 43 (Bs 15 50) HT_ ?_
        refine pu 15 44 (Bs 16 50) HT_ ?_
        refine pu 16 45 (Bs 17 50) HT_ ?_
        refine pu 18 47 (Br [17,1,1,31]) HT_ ?_
        refine ta 17 46 (Bs 19 50) HT_ HW_ hHeld ?_
        refine pu 19 48 (Bs 20 50) HT_ ?_
        refine pu 20 49 (Bs 21 50) HT_ ?_
        refine pu 21 50 (Bs 22 50) HT_ ?_
        refine pu 22 51 (Bs 23 50) HT_ ?_
        refine pu 24 53 (Br [23,1,1,25]) HT_ ?_
        refine ta 23 52 (Bs 25 50) HT_ HW_ hHeld ?_
        refine ta 25 54 (Bs 26 50) HT_ HW_ hHeld ?_
        refine pu 26 55 (Bs 27 50) HT_ ?_
        refine pu 27 56 (Bs 28 50) HT_ ?_
        refine pu 28 57 (Bs 29 50) HT_ ?_
        refine po 29 58 (Bs 30 50) HT_ ?_
        refine po 30 59 (Bs 31 50) HT_ ?_
        refine po 31 60 (Bs 32 50) HT_ ?_
        refine po 32 61 (Bs 33 50) HT_ ?_
        refine po 33 62 (Bs 34 50) HT_ ?_
        refine po 34 63 (Bs 35 50) HT_ ?_
        refine po 35 64 (Bs 36 50) HT_ ?_
        refine po 36 65 (Bs 37 50) HT_ ?_
        refine po 37 66 (Bs 38 50) HT_ ?_
        refine pu 38 67 (Bs 39 50) HT_ ?_
        refine pu 39 68 (Bs 40 50) HT_ ?_
        refine po 40 69 (Bs 41 50) HT_ ?_
        refine po 41 70 (Bs 42 50) HT_ ?_
        refine po 42 71 (Bs 43 50) HT_ ?_
        refine po 43 72 (Bs 44 50) HT_ ?_
        refine po 44 73 (Bs 45 50) HT_ ?_
        refine po 45 74 (Bs 46 50) HT_ ?_
        refine po 46 75 (Bs 47 50) HT_ ?_
        refine po 47 76 (Bs 48 50) HT_ ?_
        refine po 48 77 (Bs 49 50) HT_ ?_
        refine pu 49 78 (Bs 50 50) HT_ ?_
        refine done_ (done_of HT_.out (by kernel_rfl)) ?_
        clear hHeld s0 s1 s2 s3
        go_wp2
        go_ret
        exact ⟨by rw [HF.out]; rfl, HM4.out.b⟩

      case pos =>
      have c5b : decide (x3 ≤ x2) = false := decide_eq_false (by omega)
      obtain ⟨ad, had, j0w, j1w, j2w⟩ := job_at HR.out (Below.refl _ _) k (by have := HNM.out; omega)
      subst had
      have hjb := HT.out.job k (by have := HNM.out; omega)
      rw [Int.toNat_natCast] at HSO
      obtain ⟨J, hJ⟩ : ∃ J, J = gJ js k := ⟨_, rfl⟩
      rw [← hJ] at j0w j1w j2w HSO hjb
      clear hJ
      obtain ⟨r0, r1, r2⟩ := J
      simp only at j0w j1w j2w HSO hjb
      obtain ⟨hj0, hj1, hj2, hj3, hj4⟩ := hjb
      by_cases c6 : r0 ≤ x2
      case neg =>
        have HF := Aside0.mk (HRF.out (by
          rw [HSO.out]
          intro h
          exact c6 h.2.2.2.1))
        have c6b : decide (x2 < r0) = true := decide_eq_true (by omega)
        clear HRF him
        go_wp2_with (first | ((with_reducible refine gate_dst (N := 9) rfl ?_); refine bxe 9 #[.int .i64 0, .int .i64 0, .int .i64 0, .int .i64 0] 50 ?_; intro gs hgs w3 hbox3 hb3; have HX3 := Aside0.mk hbox3; have HGS := Aside0.mk (show wr.heap.size ≤ gs by rw [hgs]; exact Nat.le_refl _); have HBS := Aside0.mk (show Below wr.heap.size wr ((((w3.setCell ⟨gs, 0, none⟩ (.int .i64 ((k : Nat) : Int))).setCell ⟨gs, 1, none⟩ (.int .i64 x1)).setCell ⟨gs, 2, none⟩ (.int .i64 x2)).setCell ⟨gs, 3, none⟩ (.int .i64 x3)) from Below.setCell (Below.setCell (Below.setCell (Below.setCell hb3 HGS.out _) HGS.out _) HGS.out _) HGS.out _); have HM := Aside0.mk (show RsM w ((((w3.setCell ⟨gs, 0, none⟩ (.int .i64 ((k : Nat) : Int))).setCell ⟨gs, 1, none⟩ (.int .i64 x1)).setCell ⟨gs, 2, none⟩ (.int .i64 x2)).setCell ⟨gs, 3, none⟩ (.int .i64 x3)) gs gd n ⟨((k : Nat) : Int), x1, x2, x3⟩ (doneN ss i) from ⟨blk_put (cs := #[.int .i64 ((k : Nat) : Int), .int .i64 x1, .int .i64 x2, .int .i64 0]) (blk_put (cs := #[.int .i64 ((k : Nat) : Int), .int .i64 x1, .int .i64 0, .int .i64 0]) (blk_put (cs := #[.int .i64 ((k : Nat) : Int), .int .i64 0, .int .i64 0, .int .i64 0]) (blk_put (cs := #[.int .i64 0, .int .i64 0, .int .i64 0, .int .i64 0]) HX3.out 0 _ rfl) 1 _ rfl) 2 _ rfl) 3 _ rfl, row_below HD0.out HBS.out, below_step HBr.out HBS.out⟩); have t0 : w3.cell? ⟨gs, 0, none⟩ = some (.int .i64 0) := (blk_cell HX3.out 0).trans rfl; have q0 := blk_frozen HX3.out 0; have t1 : w3.cell? ⟨gs, 1, none⟩ = some (.int .i64 0) := (blk_cell HX3.out 1).trans rfl; have q1 := blk_frozen HX3.out 1; have t2 : w3.cell? ⟨gs, 2, none⟩ = some (.int .i64 0) := (blk_cell HX3.out 2).trans rfl; have q2 := blk_frozen HX3.out 2; have t3 : w3.cell? ⟨gs, 3, none⟩ = some (.int .i64 0) := (blk_cell HX3.out 3).trans rfl; have q3 := blk_frozen HX3.out 3; have HGN := Aside0.mk (show gd ≠ gs by have := HD0.out.lt; have := HGS.out; omega); clear hgs hbox3 hb3))
        clear t0 t1 t2 t3 q0 q1 q2 q3
        have HM4 := Aside0.mk (HM.out.below (below_drew (Below.refl _ _)))
        generalize hW4 : World.drew ((((w3.setCell ⟨gs, 0, none⟩ (.int .i64 ((k : Nat) : Int))).setCell ⟨gs, 1, none⟩ (.int .i64 x1)).setCell ⟨gs, 2, none⟩ (.int .i64 x2)).setCell ⟨gs, 3, none⟩ (.int .i64 x3)) = w4 at HM4
        have s0 : w4.cell? ⟨gs, 0, none⟩ = some (.int .i64 ((k : Nat) : Int)) := (blk_cell HM4.out.s 0).trans rfl
        have s1 : w4.cell? ⟨gs, 1, none⟩ = some (.int .i64 x1) := (blk_cell HM4.out.s 1).trans rfl
        have s2 : w4.cell? ⟨gs, 2, none⟩ = some (.int .i64 x2) := (blk_cell HM4.out.s 2).trans rfl
        have s3 : w4.cell? ⟨gs, 3, none⟩ = some (.int .i64 x3) := (blk_cell HM4.out.s 3).trans rfl
        have j0 := cB HM4.out.b j0w
        have j1 := cB HM4.out.b j1w
        rw [← hW4] at s0 s1 s2 s3 j0 j1
        refine start_ (n := 50) (S := fun w' => w'.cell? ⟨gs, 0, none⟩ = some (.int .i64 ((k : Nat) : Int)) ∧ w'.cell? ⟨gs, 1, none⟩ = some (.int .i64 x1) ∧ w'.cell? ⟨gs, 2, none⟩ = some (.int .i64 x2) ∧ w'.cell? ⟨gs, 3, none⟩ = some (.int .i64 x3) ∧ w'.cell? (ad.add (k * 3)) = some (.int .i64 r0) ∧ w'.cell? ⟨(ad.add (k * 3)).block, (ad.add (k * 3)).off + 1, none⟩ = some (.int .i64 r1)) (ds := []) (Bs 0 50) (by kernel_rfl) rfl rfl ⟨s0, s1, s2, s3, j0, j1⟩ (fun hHeld => ?_)
        rw [hW4] at s0 s1 s2 s3 j0 j1 hHeld ⊢
        refine with_tabW rschR.tab8 rschR.bits8 (fun HT_ HW_ => ?_)
        refine pu 0 29 (Bs 1 50) HT_ ?_
        refine ta 1 30 (Bs 2 50) HT_ HW_ hHeld ?_
        refine pu 2 31 (Bs 3 50) HT_ ?_
        refine pu 3 32 (Bs 4 50) HT_ ?_
        refine pu 4 33 (Bs 5 50) HT_ ?_
        refine pu 6 35 (Br [5,1,1,43]) HT_ ?_
        refine pu 7 36 (Br [5,1,2,42]) HT_ ?_
        refine ta 5 34 (Bs 8 50) HT_ HW_ hHeld ?_
        refine pu 8 37 (Bs 9 50) HT_ ?_
        refine pu 9 38 (Bs 10 50) HT_ ?_
        refine pu 10 39 (Bs 11 50) HT_ ?_
        refine pu 11 40 (Bs 12 50) HT_ ?_
        refine ta 12 41 (Bs 13 50) HT_ HW_ hHeld ?_
        refine pu 13 42 (Bs 14 50) HT_ ?_
        refine pu 14 43 (Bs 15 50) HT_ ?_
        refine pu 15 44 (Bs 16 50) HT_ ?_
        refine pu 16 45 (Bs 17 50) HT_ ?_
        refine pu 18 47 (Br [17,1,1,31]) HT_ ?_
        refine ta 17 46 (Bs 19 50) HT_ HW_ hHeld ?_
        refine pu 19 48 (Bs 20 50) HT_ ?_
        refine pu 20 49 (Bs 21 50) HT_ ?_
        refine pu 21 50 (Bs 22 50) HT_ ?_
        refine pu 22 51 (Bs 23 50) HT_ ?_
        refine pu 24 53 (Br [23,1,1,25]) HT_ ?_
        refine ta 23 52 (Bs 25 50) HT_ HW_ hHeld ?_
        refine ta 25 54 (Bs 26 50) HT_ HW_ hHeld ?_
        refine pu 26 55 (Bs 27 50) HT_ ?_
        refine pu 27 56 (Bs 28 50) HT_ ?_
        refine pu 28 57 (Bs 29 50) HT_ ?_
        refine pu 29 58 (Bs 30 50) HT_ ?_
        refine pu 31 60 (Br [30,1,1,18]) HT_ ?_
        refine pu 32 61 (Br [30,1,2,17]) HT_ ?_
        refine ta 30 59 (Bs 33 50) HT_ HW_ hHeld ?_
        refine ta 33 62 (Bs 34 50) HT_ HW_ hHeld ?_
        refine pu 34 63 (Bs 35 50) HT_ ?_
        refine pu 35 64 (Bs 36 50) HT_ ?_
        refine ta 36 65 (Bs 37 50) HT_ HW_ hHeld ?_
        refine pu 37 66 (Bs 38 50) HT_ ?_
        refine pu 38 67 (Bs 39 50) HT_ ?_
        refine pu 39 68 (Bs 40 50) HT_ ?_
        refine po 40 69 (Bs 41 50) HT_ ?_
        refine po 41 70 (Bs 42 50) HT_ ?_
        refine po 42 71 (Bs 43 50) HT_ ?_
        refine po 43 72 (Bs 44 50) HT_ ?_
        refine po 44 73 (Bs 45 50) HT_ ?_
        refine po 45 74 (Bs 46 50) HT_ ?_
        refine po 46 75 (Bs 47 50) HT_ ?_
        refine po 47 76 (Bs 48 50) HT_ ?_
        refine po 48 77 (Bs 49 50) HT_ ?_
        refine pu 49 78 (Bs 50 50) HT_ ?_
        refine done_ (done_of HT_.out (by kernel_rfl)) ?_
        clear hHeld s0 s1 s2 s3 j0 j1
        go_wp2
        go_ret
        exact ⟨by rw [HF.out]; rfl, HM4.out.b⟩

      case pos =>
      have c6b : decide (x2 < r0) = false := decide_eq_false (by omega)
      by_cases c7 : x3 ≤ r1
      case neg =>
        have HF := Aside0.mk (HRF.out (by
          rw [HSO.out]
          intro h
          exact c7 h.2.2.2.2))
        have c7b : decide (r1 < x3) = true := decide_eq_true (by omega)
        clear HRF him
        go_wp2_with (first | ((with_reducible refine gate_dst (N := 9) rfl ?_); refine bxe 9 #[.int .i64 0, .int .i64 0, .int .i64 0, .int .i64 0] 50 ?_; intro gs hgs w3 hbox3 hb3; have HX3 := Aside0.mk hbox3; have HGS := Aside0.mk (show wr.heap.size ≤ gs by rw [hgs]; exact Nat.le_refl _); have HBS := Aside0.mk (show Below wr.heap.size wr ((((w3.setCell ⟨gs, 0, none⟩ (.int .i64 ((k : Nat) : Int))).setCell ⟨gs, 1, none⟩ (.int .i64 x1)).setCell ⟨gs, 2, none⟩ (.int .i64 x2)).setCell ⟨gs, 3, none⟩ (.int .i64 x3)) from Below.setCell (Below.setCell (Below.setCell (Below.setCell hb3 HGS.out _) HGS.out _) HGS.out _) HGS.out _); have HM := Aside0.mk (show RsM w ((((w3.setCell ⟨gs, 0, none⟩ (.int .i64 ((k : Nat) : Int))).setCell ⟨gs, 1, none⟩ (.int .i64 x1)).setCell ⟨gs, 2, none⟩ (.int .i64 x2)).setCell ⟨gs, 3, none⟩ (.int .i64 x3)) gs gd n ⟨((k : Nat) : Int), x1, x2, x3⟩ (doneN ss i) from ⟨blk_put (cs := #[.int .i64 ((k : Nat) : Int), .int .i64 x1, .int .i64 x2, .int .i64 0]) (blk_put (cs := #[.int .i64 ((k : Nat) : Int), .int .i64 x1, .int .i64 0, .int .i64 0]) (blk_put (cs := #[.int .i64 ((k : Nat) : Int), .int .i64 0, .int .i64 0, .int .i64 0]) (blk_put (cs := #[.int .i64 0, .int .i64 0, .int .i64 0, .int .i64 0]) HX3.out 0 _ rfl) 1 _ rfl) 2 _ rfl) 3 _ rfl, row_below HD0.out HBS.out, below_step HBr.out HBS.out⟩); have t0 : w3.cell? ⟨gs, 0, none⟩ = some (.int .i64 0) := (blk_cell HX3.out 0).trans rfl; have q0 := blk_frozen HX3.out 0; have t1 : w3.cell? ⟨gs, 1, none⟩ = some (.int .i64 0) := (blk_cell HX3.out 1).trans rfl; have q1 := blk_frozen HX3.out 1; have t2 : w3.cell? ⟨gs, 2, none⟩ = some (.int .i64 0) := (blk_cell HX3.out 2).trans rfl; have q2 := blk_frozen HX3.out 2; have t3 : w3.cell? ⟨gs, 3, none⟩ = some (.int .i64 0) := (blk_cell HX3.out 3).trans rfl; have q3 := blk_frozen HX3.out 3; have HGN := Aside0.mk (show gd ≠ gs by have := HD0.out.lt; have := HGS.out; omega); clear hgs hbox3 hb3))
        clear t0 t1 t2 t3 q0 q1 q2 q3
        have HM4 := Aside0.mk (HM.out.below (below_drew (Below.refl _ _)))
        generalize hW4 : World.drew ((((w3.setCell ⟨gs, 0, none⟩ (.int .i64 ((k : Nat) : Int))).setCell ⟨gs, 1, none⟩ (.int .i64 x1)).setCell ⟨gs, 2, none⟩ (.int .i64 x2)).setCell ⟨gs, 3, none⟩ (.int .i64 x3)) = w4 at HM4
        have s0 : w4.cell? ⟨gs, 0, none⟩ = some (.int .i64 ((k : Nat) : Int)) := (blk_cell HM4.out.s 0).trans rfl
        have s1 : w4.cell? ⟨gs, 1, none⟩ = some (.int .i64 x1) := (blk_cell HM4.out.s 1).trans rfl
        have s2 : w4.cell? ⟨gs, 2, none⟩ = some (.int .i64 x2) := (blk_cell HM4.out.s 2).trans rfl
        have s3 : w4.cell? ⟨gs, 3, none⟩ = some (.int .i64 x3) := (blk_cell HM4.out.s 3).trans rfl
        have j0 := cB HM4.out.b j0w
        have j1 := cB HM4.out.b j1w
        rw [← hW4] at s0 s1 s2 s3 j0 j1
        refine start_ (n := 50) (S := fun w' => w'.cell? ⟨gs, 0, none⟩ = some (.int .i64 ((k : Nat) : Int)) ∧ w'.cell? ⟨gs, 1, none⟩ = some (.int .i64 x1) ∧ w'.cell? ⟨gs, 2, none⟩ = some (.int .i64 x2) ∧ w'.cell? ⟨gs, 3, none⟩ = some (.int .i64 x3) ∧ w'.cell? (ad.add (k * 3)) = some (.int .i64 r0) ∧ w'.cell? ⟨(ad.add (k * 3)).block, (ad.add (k * 3)).off + 1, none⟩ = some (.int .i64 r1)) (ds := []) (Bs 0 50) (by kernel_rfl) rfl rfl ⟨s0, s1, s2, s3, j0, j1⟩ (fun hHeld => ?_)
        rw [hW4] at s0 s1 s2 s3 j0 j1 hHeld ⊢
        refine with_tabW rschR.tab8 rschR.bits8 (fun HT_ HW_ => ?_)
        refine pu 0 29 (Bs 1 50) HT_ ?_
        refine ta 1 30 (Bs 2 50) HT_ HW_ hHeld ?_
        refine pu 2 31 (Bs 3 50) HT_ ?_
        refine pu 3 32 (Bs 4 50) HT_ ?_
        refine pu 4 33 (Bs 5 50) HT_ ?_
        refine pu 6 35 (Br [5,1,1,43]) HT_ ?_
        refine pu 7 36 (Br [5,1,2,42]) HT_ ?_
        refine ta 5 34 (Bs 8 50) HT_ HW_ hHeld ?_
        refine pu 8 37 (Bs 9 50) HT_ ?_
        refine pu 9 38 (Bs 10 50) HT_ ?_
        refine pu 10 39 (Bs 11 50) HT_ ?_
        refine pu 11 40 (Bs 12 50) HT_ ?_
        refine ta 12 41 (Bs 13 50) HT_ HW_ hHeld ?_
        refine pu 13 42 (Bs 14 50) HT_ ?_
        refine pu 14 43 (Bs 15 50) HT_ ?_
        refine pu 15 44 (Bs 16 50) HT_ ?_
        refine pu 16 45 (Bs 17 50) HT_ ?_
        refine pu 18 47 (Br [17,1,1,31]) HT_ ?_
        refine ta 17 46 (Bs 19 50) HT_ HW_ hHeld ?_
        refine pu 19 48 (Bs 20 50) HT_ ?_
        refine pu 20 49 (Bs 21 50) HT_ ?_
        refine pu 21 50 (Bs 22 50) HT_ ?_
        refine pu 22 51 (Bs 23 50) HT_ ?_
        refine pu 24 53 (Br [23,1,1,25]) HT_ ?_
        refine ta 23 52 (Bs 25 50) HT_ HW_ hHeld ?_
        refine ta 25 54 (Bs 26 50) HT_ HW_ hHeld ?_
        refine pu 26 55 (Bs 27 50) HT_ ?_
        refine pu 27 56 (Bs 28 50) HT_ ?_
        refine pu 28 57 (Bs 29 50) HT_ ?_
        refine pu 29 58 (Bs 30 50) HT_ ?_
        refine pu 31 60 (Br [30,1,1,18]) HT_ ?_
        refine pu 32 61 (Br [30,1,2,17]) HT_ ?_
        refine ta 30 59 (Bs 33 50) HT_ HW_ hHeld ?_
        refine ta 33 62 (Bs 34 50) HT_ HW_ hHeld ?_
        refine pu 34 63 (Bs 35 50) HT_ ?_
        refine pu 35 64 (Bs 36 50) HT_ ?_
        refine ta 36 65 (Bs 37 50) HT_ HW_ hHeld ?_
        refine pu 37 66 (Bs 38 50) HT_ ?_
        refine pu 38 67 (Bs 39 50) HT_ ?_
        refine pu 39 68 (Bs 40 50) HT_ ?_
        refine pu 40 69 (Bs 41 50) HT_ ?_
        refine pu 42 71 (Br [41,1,1,7]) HT_ ?_
        refine pu 43 72 (Br [41,1,2,6]) HT_ ?_
        refine ta 41 70 (Bs 44 50) HT_ HW_ hHeld ?_
        refine ta 44 73 (Bs 45 50) HT_ HW_ hHeld ?_
        refine pu 45 74 (Bs 46 50) HT_ ?_
        refine pu 46 75 (Bs 47 50) HT_ ?_
        refine ta 47 76 (Bs 48 50) HT_ HW_ hHeld ?_
        refine pu 48 77 (Bs 49 50) HT_ ?_
        refine pu 49 78 (Bs 50 50) HT_ ?_
        refine done_ (done_of HT_.out (by kernel_rfl)) ?_
        clear hHeld s0 s1 s2 s3 j0 j1
        go_wp2
        go_ret
        exact ⟨by rw [HF.out]; rfl, HM4.out.b⟩

      case pos =>
      have c7b : decide (r1 < x3) = false := decide_eq_false (by omega)
      have HOK := Aside0.mk (show SlotOk B js (gS ss i) from by rw [← HXE.out]; exact HSO.out.2 ⟨by have := HNM.out; omega, by omega, c5, c6, c7⟩)
      have HI2 := Aside0.mk (show i + 1 + f = m by have := HI.out; omega)
      have hdb := HDB.out k
      obtain ⟨D, hD⟩ : ∃ D, D = doneN ss i k := ⟨_, rfl⟩
      rw [← hD] at hdb
      have HDK := Aside0.mk hD.symm
      clear hD
      obtain ⟨hd0, hd1⟩ := hdb
      have hd2 : D ≤ 4294967296 := by omega
      clear hd1 HRF him
      go_wp2_with (first | ((with_reducible refine gate_dst (N := 9) rfl ?_); refine bxe 9 #[.int .i64 0, .int .i64 0, .int .i64 0, .int .i64 0] 50 ?_; intro gs hgs w3 hbox3 hb3; have HX3 := Aside0.mk hbox3; have HGS := Aside0.mk (show wr.heap.size ≤ gs by rw [hgs]; exact Nat.le_refl _); have HBS := Aside0.mk (show Below wr.heap.size wr ((((w3.setCell ⟨gs, 0, none⟩ (.int .i64 ((k : Nat) : Int))).setCell ⟨gs, 1, none⟩ (.int .i64 x1)).setCell ⟨gs, 2, none⟩ (.int .i64 x2)).setCell ⟨gs, 3, none⟩ (.int .i64 x3)) from Below.setCell (Below.setCell (Below.setCell (Below.setCell hb3 HGS.out _) HGS.out _) HGS.out _) HGS.out _); have HM := Aside0.mk (show RsM w ((((w3.setCell ⟨gs, 0, none⟩ (.int .i64 ((k : Nat) : Int))).setCell ⟨gs, 1, none⟩ (.int .i64 x1)).setCell ⟨gs, 2, none⟩ (.int .i64 x2)).setCell ⟨gs, 3, none⟩ (.int .i64 x3)) gs gd n ⟨((k : Nat) : Int), x1, x2, x3⟩ (doneN ss i) from ⟨blk_put (cs := #[.int .i64 ((k : Nat) : Int), .int .i64 x1, .int .i64 x2, .int .i64 0]) (blk_put (cs := #[.int .i64 ((k : Nat) : Int), .int .i64 x1, .int .i64 0, .int .i64 0]) (blk_put (cs := #[.int .i64 ((k : Nat) : Int), .int .i64 0, .int .i64 0, .int .i64 0]) (blk_put (cs := #[.int .i64 0, .int .i64 0, .int .i64 0, .int .i64 0]) HX3.out 0 _ rfl) 1 _ rfl) 2 _ rfl) 3 _ rfl, row_below HD0.out HBS.out, below_step HBr.out HBS.out⟩); have t0 : w3.cell? ⟨gs, 0, none⟩ = some (.int .i64 0) := (blk_cell HX3.out 0).trans rfl; have q0 := blk_frozen HX3.out 0; have t1 : w3.cell? ⟨gs, 1, none⟩ = some (.int .i64 0) := (blk_cell HX3.out 1).trans rfl; have q1 := blk_frozen HX3.out 1; have t2 : w3.cell? ⟨gs, 2, none⟩ = some (.int .i64 0) := (blk_cell HX3.out 2).trans rfl; have q2 := blk_frozen HX3.out 2; have t3 : w3.cell? ⟨gs, 3, none⟩ = some (.int .i64 0) := (blk_cell HX3.out 3).trans rfl; have q3 := blk_frozen HX3.out 3; have HGN := Aside0.mk (show gd ≠ gs by have := HD0.out.lt; have := HGS.out; omega); clear hgs hbox3 hb3))
      clear t0 t1 t2 t3 q0 q1 q2 q3
      have HM4 := Aside0.mk (HM.out.below (below_drew (Below.refl _ _)))
      generalize hW4 : World.drew ((((w3.setCell ⟨gs, 0, none⟩ (.int .i64 ((k : Nat) : Int))).setCell ⟨gs, 1, none⟩ (.int .i64 x1)).setCell ⟨gs, 2, none⟩ (.int .i64 x2)).setCell ⟨gs, 3, none⟩ (.int .i64 x3)) = w4 at HM4
      have s0 : w4.cell? ⟨gs, 0, none⟩ = some (.int .i64 ((k : Nat) : Int)) := (blk_cell HM4.out.s 0).trans rfl
      have s1 : w4.cell? ⟨gs, 1, none⟩ = some (.int .i64 x1) := (blk_cell HM4.out.s 1).trans rfl
      have s2 : w4.cell? ⟨gs, 2, none⟩ = some (.int .i64 x2) := (blk_cell HM4.out.s 2).trans rfl
      have s3 : w4.cell? ⟨gs, 3, none⟩ = some (.int .i64 x3) := (blk_cell HM4.out.s 3).trans rfl
      have j0 := cB HM4.out.b j0w
      have j1 := cB HM4.out.b j1w
      rw [← hW4] at s0 s1 s2 s3 j0 j1
      refine start_ (n := 50) (S := fun w' => w'.cell? ⟨gs, 0, none⟩ = some (.int .i64 ((k : Nat) : Int)) ∧ w'.cell? ⟨gs, 1, none⟩ = some (.int .i64 x1) ∧ w'.cell? ⟨gs, 2, none⟩ = some (.int .i64 x2) ∧ w'.cell? ⟨gs, 3, none⟩ = some (.int .i64 x3) ∧ w'.cell? (ad.add (k * 3)) = some (.int .i64 r0) ∧ w'.cell? ⟨(ad.add (k * 3)).block, (ad.add (k * 3)).off + 1, none⟩ = some (.int .i64 r1)) (ds := []) (Bs 0 50) (by kernel_rfl) rfl rfl ⟨s0, s1, s2, s3, j0, j1⟩ (fun hHeld => ?_)
      rw [hW4] at s0 s1 s2 s3 j0 j1 hHeld ⊢
      refine with_tabW rschR.tab8 rschR.bits8 (fun HT_ HW_ => ?_)
      refine pu 0 29 (Bs 1 50) HT_ ?_
      refine ta 1 30 (Bs 2 50) HT_ HW_ hHeld ?_
      refine pu 2 31 (Bs 3 50) HT_ ?_
      refine pu 3 32 (Bs 4 50) HT_ ?_
      refine pu 4 33 (Bs 5 50) HT_ ?_
      refine pu 6 35 (Br [5,1,1,43]) HT_ ?_
      refine pu 7 36 (Br [5,1,2,42]) HT_ ?_
      refine ta 5 34 (Bs 8 50) HT_ HW_ hHeld ?_
      refine pu 8 37 (Bs 9 50) HT_ ?_
      refine pu 9 38 (Bs 10 50) HT_ ?_
      refine pu 10 39 (Bs 11 50) HT_ ?_
      refine pu 11 40 (Bs 12 50) HT_ ?_
      refine ta 12 41 (Bs 13 50) HT_ HW_ hHeld ?_
      refine pu 13 42 (Bs 14 50) HT_ ?_
      refine pu 14 43 (Bs 15 50) HT_ ?_
      refine pu 15 44 (Bs 16 50) HT_ ?_
      refine pu 16 45 (Bs 17 50) HT_ ?_
      refine pu 18 47 (Br [17,1,1,31]) HT_ ?_
      refine ta 17 46 (Bs 19 50) HT_ HW_ hHeld ?_
      refine pu 19 48 (Bs 20 50) HT_ ?_
      refine pu 20 49 (Bs 21 50) HT_ ?_
      refine pu 21 50 (Bs 22 50) HT_ ?_
      refine pu 22 51 (Bs 23 50) HT_ ?_
      refine pu 24 53 (Br [23,1,1,25]) HT_ ?_
      refine ta 23 52 (Bs 25 50) HT_ HW_ hHeld ?_
      refine ta 25 54 (Bs 26 50) HT_ HW_ hHeld ?_
      refine pu 26 55 (Bs 27 50) HT_ ?_
      refine pu 27 56 (Bs 28 50) HT_ ?_
      refine pu 28 57 (Bs 29 50) HT_ ?_
      refine pu 29 58 (Bs 30 50) HT_ ?_
      refine pu 31 60 (Br [30,1,1,18]) HT_ ?_
      refine pu 32 61 (Br [30,1,2,17]) HT_ ?_
      refine ta 30 59 (Bs 33 50) HT_ HW_ hHeld ?_
      refine ta 33 62 (Bs 34 50) HT_ HW_ hHeld ?_
      refine pu 34 63 (Bs 35 50) HT_ ?_
      refine pu 35 64 (Bs 36 50) HT_ ?_
      refine ta 36 65 (Bs 37 50) HT_ HW_ hHeld ?_
      refine pu 37 66 (Bs 38 50) HT_ ?_
      refine pu 38 67 (Bs 39 50) HT_ ?_
      refine pu 39 68 (Bs 40 50) HT_ ?_
      refine pu 40 69 (Bs 41 50) HT_ ?_
      refine pu 42 71 (Br [41,1,1,7]) HT_ ?_
      refine pu 43 72 (Br [41,1,2,6]) HT_ ?_
      refine ta 41 70 (Bs 44 50) HT_ HW_ hHeld ?_
      refine ta 44 73 (Bs 45 50) HT_ HW_ hHeld ?_
      refine pu 45 74 (Bs 46 50) HT_ ?_
      refine pu 46 75 (Bs 47 50) HT_ ?_
      refine ta 47 76 (Bs 48 50) HT_ HW_ hHeld ?_
      refine pu 48 77 (Bs 49 50) HT_ ?_
      refine pu 49 78 (Bs 50 50) HT_ ?_
      refine done_ (done_of HT_.out (by kernel_rfl)) ?_
      clear hHeld s0 s1 s2 s3 j0 j1
      go_wp2
      have HM5 := Aside0.mk (HM4.out.below (below_drew (Below.refl _ _)))
      generalize hW5 : World.drew w4 = w5 at HM5
      have s0 : w5.cell? ⟨gs, 0, none⟩ = some (.int .i64 ((k : Nat) : Int)) := (blk_cell HM5.out.s 0).trans rfl
      have s2 : w5.cell? ⟨gs, 2, none⟩ = some (.int .i64 x2) := (blk_cell HM5.out.s 2).trans rfl
      have s3 : w5.cell? ⟨gs, 3, none⟩ = some (.int .i64 x3) := (blk_cell HM5.out.s 3).trans rfl
      have dk : w5.cell? ⟨gd, k, none⟩ = some (.int .i64 D) := (HM5.out.d.cell hkn).trans (by rw [← HDK.out])
      have fk := HM5.out.d.frozen k
      rw [← hW5] at s0 s2 s3 dk fk
      refine start_ (n := 16) (S := fun w' => w'.cell? ⟨gs, 0, none⟩ = some (.int .i64 ((k : Nat) : Int)) ∧ w'.cell? ⟨gs, 2, none⟩ = some (.int .i64 x2) ∧ w'.cell? ⟨gs, 3, none⟩ = some (.int .i64 x3) ∧ w'.cell? ⟨gd, k, none⟩ = some (.int .i64 D)) (ds := [15]) (Bs 0 16) (by kernel_rfl) rfl rfl ⟨s0, s2, s3, dk⟩ (fun hHeld => ?_)
      rw [hW5] at s0 s2 s3 dk fk hHeld ⊢
      refine with_tabW rschR.tab10 rschR.bits10 (fun HT_ HW_ => ?_)
      refine pu 0 79 (Bs 1 16) HT_ ?_
      refine pu 1 80 (Bs 2 16) HT_ ?_
      refine pu 3 82 (Br [2,1,1,12]) HT_ ?_
      refine pu 4 83 (Br [2,1,2,11]) HT_ ?_
      refine pu 8 87 (Br [2,1,2,3,1,7]) HT_ ?_
      refine pu 11 90 (Br [2,1,2,3,1,2,1,4]) HT_ ?_
      refine ta 2 81 (Br [5,3,1,2,1,4]) HT_ HW_ hHeld ?_
      refine ta 5 84 (Br [6,2,1,2,1,4]) HT_ HW_ hHeld ?_
      refine pu 6 85 (Br [7,1,1,2,1,4]) HT_ ?_
      refine ta 7 86 (Br [9,2,1,4]) HT_ HW_ hHeld ?_
      refine ta 9 88 (Br [10,1,1,4]) HT_ HW_ hHeld ?_
      refine pu 10 89 (Bs 12 16) HT_ ?_
      refine ta 12 91 (Bs 13 16) HT_ HW_ hHeld ?_
      refine pu 13 92 (Bs 14 16) HT_ ?_
      refine pu 14 93 (Bs 15 16) HT_ ?_
      refine last_ (i := 15) (N := none) (Bs 16 16) rfl rfl (one_of HT_.out (by kernel_rfl)) (by decide) (fun K hK => ?_)
      refine skip_ (w1 := ?_) (by rfl) rfl ?_ ?_
      rotate_left
      · go_simp
        rfl
      refine hK.out _ _ ?_
      clear hK K
      refine done_ (done_of HT_.out (by kernel_rfl)) ?_
      clear hHeld s0 s2 s3 dk fk
      have HM6 : Aside0 (RsM w (w5.setCell ⟨gd, k, none⟩ (.int .i64 (wrap64 (wrap64 (D + x3) - x2)))) gs gd n ⟨((k : Nat) : Int), x1, x2, x3⟩ (doneN ss (i + 1))) := ⟨by
        refine ⟨blk_far HM5.out.s (Ne.symm HGN.out) _, (HM5.out.d.set k _).congr (fun j hj => ?_), Below.setCell HM5.out.b HGD.out _⟩
        rw [HDN.out j]
        by_cases e : j = k
        · rw [if_pos e, e, if_pos rfl, HDK.out, w64i (x := D + x3) (by omega) (by omega), w64i (by omega) (by omega)]
          congr 1; omega
        · rw [if_neg e, if_neg (by omega), Int.add_zero]⟩
      go_wp2
      generalize w5.setCell ⟨gd, k, none⟩ (.int .i64 (wrap64 (wrap64 (D + x3) - x2))) = w6 at HM6 ⊢
      go_loopg [10] i (fun f2 v10 wr => ∃ q : Nat, v10 = .int .i64 ((q : Nat) : Int) ∧ Aside0 (q + f2 = i) ∧ Aside0 (∀ p, p < q → PairOk (gS ss i) (gS ss p)) ∧ Aside0 (RsM w wr gs gd n ⟨((k : Nat) : Int), x1, x2, x3⟩ (doneN ss (i + 1))))
      case atStart => exact ⟨0, rfl, ⟨by omega⟩, ⟨fun p hp => absurd hp (Nat.not_lt_zero p)⟩, HM6⟩
      case round =>
        obtain ⟨q, rfl, HQ, HPR, HMr⟩ := hrel
        clear HM6
        by_cases hqi : q < i
        · obtain ⟨f2, rfl⟩ : ∃ q, gk = q + 1 := ⟨gk - 1, by have := HQ.out; omega⟩
          have hqI : ((q : Nat) : Int) < ((i : Nat) : Int) := by omega
          have hqm : ((q : Nat) : Int) < ((m : Nat) : Int) := by omega
          obtain ⟨ay, hay, y0, y1, y2, y3⟩ := slot_at HS.out HMr.out.b q (by have := HNM.out; have := HI.out; omega)
          obtain rfl := Option.some.inj hay
          have HYO := HE.out q hqi
          have HYJ := HT.out.job (gS ss q).f0.toNat (by have := HYO.1; omega)
          obtain ⟨y, hy⟩ : ∃ y, y = gS ss q := ⟨_, rfl⟩
          rw [← hy] at y0 y1 y2 y3 HYO HYJ
          have HYE := Aside0.mk hy
          clear hy
          have hYB := Aside0.mk (show 0 ≤ y.f2 ∧ y.f2 < y.f3 ∧ y.f3 ≤ 1048576 by obtain ⟨h1, h2, h3, h4, h5⟩ := HYO; omega)
          clear HYO HYJ
          obtain ⟨e0, e1, e2, e3⟩ := y
          simp only at y0 y1 y2 y3 hYB
          have HOV := Aside0.mk (fun W => over_calls x2 x3 e2 e3 W (by have := hYB.out; omega) (by have := hYB.out; omega))
          obtain ⟨ov, hov⟩ : ∃ ov, ov = Ben.lap x2 x3 e2 e3 := ⟨_, rfl⟩
          rw [← hov] at HOV
          have HOE := Aside0.mk hov
          clear hov
          have HPE : Aside0 (PairOk (gS ss i) (gS ss q) ↔ ((((k : Nat) : Int) = e0 ∨ x1 = e1) → ¬ 0 < ov)) := ⟨by rw [← HXE.out, ← HYE.out, HOE.out]; exact Iff.rfl⟩
          have HRP := Aside0.mk (fun (h : ¬ PairOk (gS ss i) (gS ss q)) => (by
            cases hR : R with
            | false => rfl
            | true => exact absurd ((HRR.out.1 hR).pair hqi (by have := HNM.out; have := HI2.out; omega)) h : R = false))
          have HQ2 := Aside0.mk (show q + 1 + f2 = i by have := HQ.out; omega)
          have HNX := Aside0.mk (fun (h : PairOk (gS ss i) (gS ss q)) => (fun p hp => by
            rcases Nat.lt_or_ge p q with h' | h'
            · exact HPR.out p h'
            · rw [show p = q by omega]; exact h : ∀ p, p < q + 1 → PairOk (gS ss i) (gS ss p)))
          clear hqi
          have s0 : wr.cell? ⟨gs, 0, none⟩ = some (.int .i64 ((k : Nat) : Int)) := (blk_cell HMr.out.s 0).trans rfl
          have s1 : wr.cell? ⟨gs, 1, none⟩ = some (.int .i64 x1) := (blk_cell HMr.out.s 1).trans rfl
          have s2 : wr.cell? ⟨gs, 2, none⟩ = some (.int .i64 x2) := (blk_cell HMr.out.s 2).trans rfl
          have s3 : wr.cell? ⟨gs, 3, none⟩ = some (.int .i64 x3) := (blk_cell HMr.out.s 3).trans rfl
          by_cases hsame : ((k : Nat) : Int) = e0 ∨ x1 = e1
          · have hb0 : (((k : Nat) : Int) == e0) = true ∨ ((((k : Nat) : Int) == e0) = false ∧ (x1 == e1) = true) := by
              by_cases h : ((k : Nat) : Int) = e0
              · exact Or.inl (beq_iff_eq.2 h)
              · exact Or.inr ⟨beq_eq_false_iff_ne.2 h, beq_iff_eq.2 (hsame.resolve_left h)⟩
            by_cases hpos : 0 < ov
            · have HF := Aside0.mk (HRP.out (fun h => HPE.out.1 h hsame hpos))
              have hposb : decide (0 < ov) = true := decide_eq_true hpos
              clear HRP HNX hsame hpos
              rcases hb0 with hb0 | ⟨hb0, hb1⟩ <;>
              (go_wp2_with (first | ((with_reducible refine gate_dst (N := 11) rfl ?_); refine bxe 11 #[.int .i64 0, .int .i64 0, .int .i64 0, .int .i64 0] 50 ?_; intro gy hgy w7 hbox7 hb7; have HX7 := Aside0.mk hbox7; have HGY := Aside0.mk (show wr.heap.size ≤ gy by rw [hgy]; exact Nat.le_refl _); have HM8 := Aside0.mk (show RsM w ((((w7.setCell ⟨gy, 0, none⟩ (.int .i64 e0)).setCell ⟨gy, 1, none⟩ (.int .i64 e1)).setCell ⟨gy, 2, none⟩ (.int .i64 e2)).setCell ⟨gy, 3, none⟩ (.int .i64 e3)) gs gd n ⟨((k : Nat) : Int), x1, x2, x3⟩ (doneN ss (i + 1)) from HMr.out.below (Below.setCell (Below.setCell (Below.setCell (Below.setCell hb7 HGY.out _) HGY.out _) HGY.out _) HGY.out _)); have t0 : w7.cell? ⟨gy, 0, none⟩ = some (.int .i64 0) := (blk_cell HX7.out 0).trans rfl; have q0 := blk_frozen HX7.out 0; have s0 := cB hb7 s0; have t1 : w7.cell? ⟨gy, 1, none⟩ = some (.int .i64 0) := (blk_cell HX7.out 1).trans rfl; have q1 := blk_frozen HX7.out 1; have s1 := cB hb7 s1; have t2 : w7.cell? ⟨gy, 2, none⟩ = some (.int .i64 0) := (blk_cell HX7.out 2).trans rfl; have q2 := blk_frozen HX7.out 2; have s2 := cB hb7 s2; have t3 : w7.cell? ⟨gy, 3, none⟩ = some (.int .i64 0) := (blk_cell HX7.out 3).trans rfl; have q3 := blk_frozen HX7.out 3; have s3 := cB hb7 s3; have hny : gy ≠ gs := (by have := blk_lt HMr.out.s; have := HGY.out; omega); clear hgy hbox7 hb7) | (go_at_call 50; go_must (refine (HOV.out _).mono ?_); rintro e w9 ⟨rfl, hb9⟩; have HM9 := Aside0.mk (HM8.out.below hb9); clear hb9))
               go_ret
               exact ⟨by rw [HF.out]; rfl, HM9.out.b⟩)
            · have HNX2 := Aside0.mk (HNX.out (HPE.out.2 fun _ => hpos))
              have hposb : decide (0 < ov) = false := decide_eq_false hpos
              have hposn : ¬ 0 < ov := hpos
              clear HRP HNX hsame hpos
              rcases hb0 with hb0 | ⟨hb0, hb1⟩ <;>
              (go_wp2_with (first | ((with_reducible refine gate_dst (N := 11) rfl ?_); refine bxe 11 #[.int .i64 0, .int .i64 0, .int .i64 0, .int .i64 0] 50 ?_; intro gy hgy w7 hbox7 hb7; have HX7 := Aside0.mk hbox7; have HGY := Aside0.mk (show wr.heap.size ≤ gy by rw [hgy]; exact Nat.le_refl _); have HM8 := Aside0.mk (show RsM w ((((w7.setCell ⟨gy, 0, none⟩ (.int .i64 e0)).setCell ⟨gy, 1, none⟩ (.int .i64 e1)).setCell ⟨gy, 2, none⟩ (.int .i64 e2)).setCell ⟨gy, 3, none⟩ (.int .i64 e3)) gs gd n ⟨((k : Nat) : Int), x1, x2, x3⟩ (doneN ss (i + 1)) from HMr.out.below (Below.setCell (Below.setCell (Below.setCell (Below.setCell hb7 HGY.out _) HGY.out _) HGY.out _) HGY.out _)); have t0 : w7.cell? ⟨gy, 0, none⟩ = some (.int .i64 0) := (blk_cell HX7.out 0).trans rfl; have q0 := blk_frozen HX7.out 0; have s0 := cB hb7 s0; have t1 : w7.cell? ⟨gy, 1, none⟩ = some (.int .i64 0) := (blk_cell HX7.out 1).trans rfl; have q1 := blk_frozen HX7.out 1; have s1 := cB hb7 s1; have t2 : w7.cell? ⟨gy, 2, none⟩ = some (.int .i64 0) := (blk_cell HX7.out 2).trans rfl; have q2 := blk_frozen HX7.out 2; have s2 := cB hb7 s2; have t3 : w7.cell? ⟨gy, 3, none⟩ = some (.int .i64 0) := (blk_cell HX7.out 3).trans rfl; have q3 := blk_frozen HX7.out 3; have s3 := cB hb7 s3; have hny : gy ≠ gs := (by have := blk_lt HMr.out.s; have := HGY.out; omega); clear hgy hbox7 hb7) | (go_at_call 50; go_must (refine (HOV.out _).mono ?_); rintro e w9 ⟨rfl, hb9⟩; have HM9 := Aside0.mk (HM8.out.below hb9); clear hb9))
               go_roundg f2
               case measure => exact Nat.lt_succ_self _
               case rel => exact ⟨q + 1, by go_num, HQ2, HNX2, HM9⟩)
          · have hb0 : (((k : Nat) : Int) == e0) = false := beq_eq_false_iff_ne.2 fun h => hsame (Or.inl h)
            have hb1 : (x1 == e1) = false := beq_eq_false_iff_ne.2 fun h => hsame (Or.inr h)
            have HNX2 := Aside0.mk (HNX.out (HPE.out.2 fun h => absurd h hsame))
            clear HRP HNX hsame
            go_wp2_with (first | ((with_reducible refine gate_dst (N := 11) rfl ?_); refine bxe 11 #[.int .i64 0, .int .i64 0, .int .i64 0, .int .i64 0] 50 ?_; intro gy hgy w7 hbox7 hb7; have HX7 := Aside0.mk hbox7; have HGY := Aside0.mk (show wr.heap.size ≤ gy by rw [hgy]; exact Nat.le_refl _); have HM8 := Aside0.mk (show RsM w ((((w7.setCell ⟨gy, 0, none⟩ (.int .i64 e0)).setCell ⟨gy, 1, none⟩ (.int .i64 e1)).setCell ⟨gy, 2, none⟩ (.int .i64 e2)).setCell ⟨gy, 3, none⟩ (.int .i64 e3)) gs gd n ⟨((k : Nat) : Int), x1, x2, x3⟩ (doneN ss (i + 1)) from HMr.out.below (Below.setCell (Below.setCell (Below.setCell (Below.setCell hb7 HGY.out _) HGY.out _) HGY.out _) HGY.out _)); have t0 : w7.cell? ⟨gy, 0, none⟩ = some (.int .i64 0) := (blk_cell HX7.out 0).trans rfl; have q0 := blk_frozen HX7.out 0; have s0 := cB hb7 s0; have t1 : w7.cell? ⟨gy, 1, none⟩ = some (.int .i64 0) := (blk_cell HX7.out 1).trans rfl; have q1 := blk_frozen HX7.out 1; have s1 := cB hb7 s1; have t2 : w7.cell? ⟨gy, 2, none⟩ = some (.int .i64 0) := (blk_cell HX7.out 2).trans rfl; have q2 := blk_frozen HX7.out 2; have s2 := cB hb7 s2; have t3 : w7.cell? ⟨gy, 3, none⟩ = some (.int .i64 0) := (blk_cell HX7.out 3).trans rfl; have q3 := blk_frozen HX7.out 3; have s3 := cB hb7 s3; have hny : gy ≠ gs := (by have := blk_lt HMr.out.s; have := HGY.out; omega); clear hgy hbox7 hb7))
            go_roundg f2
            case measure => exact Nat.lt_succ_self _
            case rel => exact ⟨q + 1, by go_num, HQ2, HNX2, HM8⟩
        · have hge2 : ¬ ((q : Nat) : Int) < ((i : Nat) : Int) := by omega
          have HPI := Aside0.mk (show ∀ p, p < i → PairOk (gS ss i) (gS ss p) from fun p hp => HPR.out p (by omega))
          clear hqi
          go_wp2
          go_roundg f
          case measure => exact Nat.lt_succ_self _
          case rel =>
            refine ⟨i + 1, by go_num, HI2, ⟨fun q hq => ?_⟩, ⟨fun a b hab hb => ?_⟩, ⟨HMr.out.d⟩, ⟨HMr.out.b⟩⟩
            · rcases Nat.lt_or_ge q i with h | h
              · exact HE.out q h
              · rw [show q = i by omega]; exact HOK.out
            · rcases Nat.lt_or_ge b i with h | h
              · exact HPP.out a b hab h
              · rw [show b = i by omega]; exact HPI.out a (by omega)
    · have hge : ¬ ((i : Nat) : Int) < ((m : Nat) : Int) := by omega
      have HE2 := Aside0.mk (show ∀ q, q < ss.length → SlotOk B js (gS ss q) from fun q hq => HE.out q (by have := HNM.out; omega))
      have HP2 := Aside0.mk (show ∀ a b, a < b → b < ss.length → PairOk (gS ss b) (gS ss a) from fun a b hab hb => HPP.out a b hab (by have := HNM.out; omega))
      have HD2 : Aside0 (wr.rowIs gd 3 n (fun k => .int .i64 (doneN ss m k))) := ⟨by rw [show m = i by have := HI.out; omega]; exact HD0.out⟩
      clear him HE HD0 HDL
      go_wp2
      have HB1b := HBr
      clear HBr
      go_loopg [12] n (fun f v12 wr => ∃ k : Nat, v12 = .int .i64 ((k : Nat) : Int) ∧ Aside0 (k + f = n) ∧ Aside0 (∀ q, q < k → doneN ss m q = (gJ js q).work) ∧ Aside0 (wr.rowIs gd 3 n (fun k => .int .i64 (doneN ss m k))) ∧ Aside0 (Below w.heap.size w wr))
      case atStart => exact ⟨0, rfl, ⟨by omega⟩, ⟨fun q hq => absurd hq (Nat.not_lt_zero q)⟩, HD2, HB1b⟩
      case round =>
        obtain ⟨k, rfl, HI2, HE3, HD0, HBr⟩ := hrel
        clear HD2 HB1b HI
        by_cases hkn : k < n
        · obtain ⟨f, rfl⟩ : ∃ q, gk = q + 1 := ⟨gk - 1, by have := HI2.out; omega⟩
          have hkI : ((k : Nat) : Int) < ((n : Nat) : Int) := by omega
          have HBD := Aside0.mk (below_drew HBr.out)
          have HDD := Aside0.mk (show (World.drew wr).rowIs gd 3 n (fun k => .int .i64 (doneN ss m k)) from HD0.out)
          obtain ⟨ad, had, j0, j1, j2⟩ := job_at HR.out HBD.out k (by have := HNM.out; omega)
          subst had
          have dk := HDD.out.cell hkn
          obtain ⟨J, hJ⟩ : ∃ J, J = gJ js k := ⟨_, rfl⟩
          rw [← hJ] at j0 j1 j2
          have HJE := Aside0.mk (show (gJ js k).work = J.work by rw [hJ])
          clear hJ j0 j1
          obtain ⟨r0, r1, r2⟩ := J
          simp only at j2 HJE
          obtain ⟨D, hD⟩ : ∃ D, D = doneN ss m k := ⟨_, rfl⟩
          rw [← hD] at dk
          have HDK := Aside0.mk hD.symm
          clear hD
          generalize hW7 : World.drew wr = w7 at HBD HDD dk j2
          rw [← hW7] at dk j2
          by_cases hdr : D = r2
          case neg =>
            have HF : Aside0 (R = false) := ⟨by
              cases hR : R with
              | false => rfl
              | true =>
                have h1 := (HRR.out.1 hR).work k (by have := HNM.out; omega)
                rw [← HNM.out.2, HDK.out, HJE.out] at h1
                exact absurd h1 hdr⟩
            have hbn : (D != r2) = true := bne_iff_ne.2 hdr
            clear hdr
            go_wp2
            refine start_ (n := 10) (S := fun w' => w'.cell? ⟨gd, k, none⟩ = some (.int .i64 D) ∧ w'.cell? ⟨(ad.add (k * 3)).block, (ad.add (k * 3)).off + 2, none⟩ = some (.int .i64 r2)) (ds := []) (Bs 0 10) (by kernel_rfl) rfl rfl ⟨dk, j2⟩ (fun hHeld => ?_)
            rw [hW7] at dk j2 hHeld ⊢
            refine with_tabW rschR.tab20 rschR.bits20 (fun HT_ HW_ => ?_)
            refine pu 0 133 (Bs 1 10) HT_ ?_
            refine pu 1 134 (Bs 2 10) HT_ ?_
            refine pu 2 135 (Bs 3 10) HT_ ?_
            refine pu 4 137 (Br [3,1,1,5]) HT_ ?_
            refine pu 5 138 (Br [3,1,2,4]) HT_ ?_
            refine pu 6 139 (Br [3,1,3,3]) HT_ ?_
            refine pu 7 140 (Br [3,1,4,2]) HT_ ?_
            refine ta 3 136 (Bs 8 10) HT_ HW_ hHeld ?_
            refine ta 8 141 (Bs 9 10) HT_ HW_ hHeld ?_
            refine pu 9 142 (Bs 10 10) HT_ ?_
            refine done_ (done_of HT_.out (by kernel_rfl)) ?_
            clear hHeld dk j2
            go_wp2
            go_ret
            exact ⟨by rw [HF.out]; rfl, HBD.out⟩
          case pos =>
            have hbn : (D != r2) = false := bne_eq_false_iff_eq.2 hdr
            have HDR := Aside0.mk hdr
            have HI3 := Aside0.mk (show k + 1 + f = n by have := HI2.out; omega)
            clear hdr
            go_wp2
            refine start_ (n := 10) (S := fun w' => w'.cell? ⟨gd, k, none⟩ = some (.int .i64 D) ∧ w'.cell? ⟨(ad.add (k * 3)).block, (ad.add (k * 3)).off + 2, none⟩ = some (.int .i64 r2)) (ds := []) (Bs 0 10) (by kernel_rfl) rfl rfl ⟨dk, j2⟩ (fun hHeld => ?_)
            rw [hW7] at dk j2 hHeld ⊢
            refine with_tabW rschR.tab20 rschR.bits20 (fun HT_ HW_ => ?_)
            refine pu 0 133 (Bs 1 10) HT_ ?_
            refine pu 1 134 (Bs 2 10) HT_ ?_
            refine pu 2 135 (Bs 3 10) HT_ ?_
            refine pu 4 137 (Br [3,1,1,5]) HT_ ?_
            refine pu 5 138 (Br [3,1,2,4]) HT_ ?_
            refine pu 6 139 (Br [3,1,3,3]) HT_ ?_
            refine pu 7 140 (Br [3,1,4,2]) HT_ ?_
            refine ta 3 136 (Bs 8 10) HT_ HW_ hHeld ?_
            refine ta 8 141 (Bs 9 10) HT_ HW_ hHeld ?_
            refine pu 9 142 (Bs 10 10) HT_ ?_
            refine done_ (done_of HT_.out (by kernel_rfl)) ?_
            clear hHeld dk j2
            go_wp2
            go_roundg f
            case measure => exact Nat.lt_succ_self _
            case rel =>
              refine ⟨k + 1, by go_num, HI3, ⟨fun q hq => ?_⟩, HDD, HBD⟩
              rcases Nat.lt_or_ge q k with h | h
              · exact HE3.out q h
              · rw [show q = k by omega, HDK.out, HJE.out]; exact HDR.out
        · have hge2 : ¬ ((k : Nat) : Int) < ((n : Nat) : Int) := by omega
          have HF : Aside0 (R = true) := ⟨HRR.out.2 (SchOk.of_pairs (by have := HNM.out; omega) HE2.out (fun q hq => by rw [← HNM.out.2]; exact HE3.out q (by have := HNM.out; omega)) HP2.out)⟩
          clear hkn
          go_wp2
          go_ret
          exact ⟨by rw [HF.out]; rfl, HBr.out⟩
end Go.Proofs.YtmnhcbaocoofoaaDoor.P
namespace Go.Proofs.YtmnhcbaocoofoaaDoor.P
open Go.RowKit YtmnhcbaocoofoaaDoorW.PrintWords YtmnhcbaocoofoaaDoorW.PrintLast YtmnhcbaocoofoaaDoorW.PrintMore
open Go.Proofs.YtmnhcbaocoofoaaDoor.Ben (sumN lap sumN_succ)
theorem ev_pos {α : Type} {c : Prop} [Decidable c] {f g : Nat → Option α} {r : α} (h : c) (k : Ev f r) : Ev (fun n => if c then f n else g n) r := Ev.congr (fun _ => if_pos h) k
theorem ev_neg {α : Type} {c : Prop} [Decidable c] {f g : Nat → Option α} {r : α} (h : ¬ c) (k : Ev g r) : Ev (fun n => if c then f n else g n) r := Ev.congr (fun _ => if_neg h) k
def pS (sp : List S34) (i : Nat) : S34 := sp.getD i z34
theorem rd34 (sp : List S34) (i : Nat) : rd_T34 sp (i : Int) = pS sp i := by unfold rd_T34 pS; rw [Int.toNat_natCast]
def gI (l : List Int) (i : Nat) : Int := l.getD i 0
theorem rdI (l : List Int) (i : Nat) : rd l (i : Int) = gI l i := by unfold rd gI; rw [Int.toNat_natCast]
theorem w1 (i : Nat) (h : i < 1000000000) : wrap64 ((i : Int) + 1) = ((i + 1 : Nat) : Int) := by unfold wrap64; omega
theorem wp (i : Nat) (h : i < 1000000000) (h0 : 0 < i) : wrap64 ((i : Int) - 1) = ((i - 1 : Nat) : Int) := by unfold wrap64; omega
def SpOk (sp : List S34) (i : Nat) : Prop := (0 ≤ (pS sp i).f0 ∧ (pS sp i).f0 < (pS sp i).f1 ∧ (pS sp i).f1 ≤ 1048576) ∧ (0 < i → (pS sp (i - 1)).f1 ≤ (pS sp i).f0)
def JbOk (n : Nat) (jobs : List Int) (i : Nat) : Prop := (0 ≤ gI jobs i ∧ gI jobs i ≤ (n : Int) - 1) ∧ (0 < i → gI jobs (i - 1) < gI jobs i)
def SpAll (sp : List S34) : Prop := sp.length ≤ 4096 ∧ ∀ i, i < sp.length → SpOk sp i
def cmS (j : Ben.J) (sp : List S34) (c : Nat) : Int := sumN (fun i => lap j.ready j.due (pS sp i).f0 (pS sp i).f1) c
theorem cmS_le {j : Ben.J} {sp : List S34} (hj : 0 ≤ j.ready ∧ j.ready ≤ j.due ∧ j.due ≤ 1048576) : ∀ c, 0 ≤ cmS j sp c ∧ cmS j sp c ≤ c * 1048576
  | 0 => by simp [cmS, sumN]
  | c + 1 => by
    have h1 := cmS_le hj (sp := sp) c
    have e : cmS j sp (c + 1) = cmS j sp c + lap j.ready j.due (pS sp c).f0 (pS sp c).f1 := rfl
    have h2 : 0 ≤ lap j.ready j.due (pS sp c).f0 (pS sp c).f1 ∧ lap j.ready j.due (pS sp c).f0 (pS sp c).f1 ≤ 1048576 := by unfold lap; omega
    rw [e]; omega
theorem lap_w {a b c d : Int} (h1 : 0 ≤ a ∧ 0 ≤ b ∧ a ≤ 1048576 ∧ b ≤ 1048576) (h2 : 0 ≤ c ∧ 0 ≤ d ∧ c ≤ 1048576 ∧ d ≤ 1048576) : mx 0 (wrap64 ((mn b d) - (mx a c))) = lap a b c d := by
  unfold lap
  have e1 : mn b d = min b d := by unfold mn; omega
  have e2 : mx a c = max a c := by unfold mx; omega
  rw [e1, e2, w64i (by omega) (by omega)]
  unfold mx; omega
def roomS (B : Int) (sp : List S34) (c : Nat) : Int := sumN (fun i => B * ((pS sp i).f1 - (pS sp i).f0)) c
theorem mulB {B d : Int} (hB : 1 ≤ B ∧ B ≤ 8) (hd : 0 ≤ d ∧ d ≤ 1048576) : 0 ≤ B * d ∧ B * d ≤ 8388608 := by
  have h1 : B * d ≤ 8 * d := Int.mul_le_mul_of_nonneg_right hB.2 hd.1
  have h2 : 0 ≤ B * d := Int.mul_nonneg (by omega) hd.1
  omega
theorem roomS_le {B : Int} {sp : List S34} (hB : 1 ≤ B ∧ B ≤ 8) : ∀ c, (∀ i, i < c → SpOk sp i) → 0 ≤ roomS B sp c ∧ roomS B sp c ≤ c * 8388608
  | 0, _ => by simp [roomS, sumN]
  | c + 1, h => by
    have h1 := roomS_le hB (sp := sp) c (fun i hi => h i (by omega))
    have h2 := (h c (by omega)).1
    have h3 := mulB (d := (pS sp c).f1 - (pS sp c).f0) hB (by omega)
    have e : roomS B sp (c + 1) = roomS B sp c + B * ((pS sp c).f1 - (pS sp c).f0) := rfl
    rw [e]; omega
theorem room_w {B : Int} {sp : List S34} (hB : 1 ≤ B ∧ B ≤ 8) {i : Nat} (hi : i < 4096) (h : ∀ q, q < i + 1 → SpOk sp q) : wrap64 (roomS B sp i + (wrap64 (B * (wrap64 ((pS sp i).f1 - (pS sp i).f0))))) = roomS B sp (i + 1) := by
  have h1 := roomS_le hB i (fun q hq => h q (by omega))
  have h2 := (h i (by omega)).1
  have h3 := mulB (d := (pS sp i).f1 - (pS sp i).f0) hB (by omega)
  have e : roomS B sp (i + 1) = roomS B sp i + B * ((pS sp i).f1 - (pS sp i).f0) := rfl
  rw [w64i (x := (pS sp i).f1 - (pS sp i).f0) (by omega) (by omega), w64i (x := B * ((pS sp i).f1 - (pS sp i).f0)) (by omega) (by omega), w64i (by omega) (by omega), e]
def jbJ (js : List S40) (jobs : List Int) (i : Nat) : Ben.J := gJ js (gI jobs i).toNat
def workR (js : List S40) (jobs : List Int) (c : Nat) : Int := sumN (fun i => (jbJ js jobs i).work) c
def outR (js : List S40) (jobs : List Int) (sp : List S34) (c : Nat) : Int := sumN (fun i => (jbJ js jobs i).due - (jbJ js jobs i).ready - cmS (jbJ js jobs i) sp sp.length) c
structure RefOk (B : Int) (js : List S40) (jobs : List Int) (sp : List S34) : Prop where
  al : SpAll sp
  jb : ∀ i, i < jobs.length → JbOk js.length jobs i
  lt : roomS B sp sp.length + outR js jobs sp jobs.length < workR js jobs jobs.length
open Classical in
noncomputable def refB (B : Int) (js : List S40) (jobs : List Int) (sp : List S34) : Bool := decide (RefOk B js jobs sp)
theorem jb_up {n : Nat} {jobs : List Int} : ∀ i, (∀ q, q < i → JbOk n jobs q) → ∀ q, q < i → (q : Int) ≤ gI jobs q
  | 0, _, q, hq => absurd hq (Nat.not_lt_zero q)
  | i + 1, h, q, hq => by
    have ih := jb_up i (fun q hq => h q (by omega))
    rcases Nat.lt_or_ge q i with h1 | h1
    · exact ih q h1
    · obtain rfl : q = i := by omega
      by_cases h0 : 0 < q
      · have := (h q (by omega)).2 h0
        have := ih (q - 1) (by omega)
        omega
      · have := (h q (by omega)).1.1
        omega
theorem jb_le {n : Nat} {jobs : List Int} {i : Nat} (h : ∀ q, q < i → JbOk n jobs q) : i ≤ n := by
  rcases Nat.eq_zero_or_pos i with h0 | h0
  · omega
  · have h1 := jb_up i h (i - 1) (by omega)
    have h2 := (h (i - 1) (by omega)).1.2
    omega
theorem jbJ_ok {B : Int} {js : List S40} (ht : TaskOk B js) {jobs : List Int} {i : Nat} (h : JbOk js.length jobs i) : 0 ≤ (jbJ js jobs i).ready ∧ (jbJ js jobs i).ready < (jbJ js jobs i).due ∧ (jbJ js jobs i).due ≤ 1048576 ∧ 1 ≤ (jbJ js jobs i).work ∧ (jbJ js jobs i).work ≤ 1048576 :=
  ht.job _ (by have := h.1; omega)
theorem sums_le {B : Int} {js : List S40} (ht : TaskOk B js) {jobs : List Int} {sp : List S34} (hs : SpAll sp) : ∀ i, (∀ q, q < i → JbOk js.length jobs q) → (0 ≤ workR js jobs i ∧ workR js jobs i ≤ i * 1048576) ∧ (- (i * 4294967296) ≤ outR js jobs sp i ∧ outR js jobs sp i ≤ i * 1048576)
  | 0, _ => by simp [workR, outR, sumN]
  | i + 1, h => by
    have ih := sums_le ht hs i (fun q hq => h q (by omega))
    have hj := jbJ_ok ht (h i (by omega))
    have hc := cmS_le (sp := sp) (j := jbJ js jobs i) (by omega) sp.length
    have hl := hs.1
    have e1 : workR js jobs (i + 1) = workR js jobs i + (jbJ js jobs i).work := rfl
    have e2 : outR js jobs sp (i + 1) = outR js jobs sp i + ((jbJ js jobs i).due - (jbJ js jobs i).ready - cmS (jbJ js jobs i) sp sp.length) := rfl
    rw [e1, e2]
    omega
def RefFrom (B : Int) (js : List S40) (jobs : List Int) (sp : List S34) (i : Nat) : Prop := (∀ q, i ≤ q → q < jobs.length → JbOk js.length jobs q) ∧ roomS B sp sp.length + outR js jobs sp jobs.length < workR js jobs jobs.length
theorem RefFrom.next {B : Int} {js : List S40} {jobs : List Int} {sp : List S34} {i : Nat} (h : JbOk js.length jobs i) : RefFrom B js jobs sp i ↔ RefFrom B js jobs sp (i + 1) :=
  ⟨fun h' => ⟨fun q h1 h2 => h'.1 q (by omega) h2, h'.2⟩, fun h' => ⟨fun q h1 h2 => by
    rcases Nat.lt_or_ge i q with h3 | h3
    · exact h'.1 q h3 h2
    · rw [show q = i by omega]; exact h, h'.2⟩⟩
theorem upto {P : Nat → Prop} {i : Nat} (h : ∀ q, q < i → P q) (hi : P i) : ∀ q, q < i + 1 → P q := fun q hq => by
  rcases Nat.lt_or_ge q i with h1 | h1
  · exact h q h1
  · rw [show q = i by omega]; exact hi
open Classical in
theorem rf_step (B : Int) (js : List S40) (jobs : List Int) (sp : List S34) (X : Int) (i : Nat) (hi : i < sp.length) (hl : sp.length ≤ 4096) (k : Nat) : R4_Refusal.l0 (k + 1) B js jobs sp X (i : Int) = if SpOk sp i then R4_Refusal.l0 k B js jobs sp (wrap64 (X + (wrap64 (B * (wrap64 ((pS sp i).f1 - (pS sp i).f0)))))) ((i + 1 : Nat) : Int) else some false := by
  rw [R4_Refusal.l0, if_pos (by omega), if_pos (by omega), rd34, w1 i (by omega)]
  unfold SpOk
  by_cases c1 : (pS sp i).f0 < 0
  · rw [if_pos c1, if_neg (by omega)]
  · rw [if_neg c1]
    by_cases c2 : (pS sp i).f0 ≥ (pS sp i).f1
    · rw [if_pos c2, if_neg (by omega)]
    · rw [if_neg c2]
      by_cases c3 : (pS sp i).f1 > 1048576
      · rw [if_pos c3, if_neg (by omega)]
      · rw [if_neg c3]
        by_cases c4 : 0 < i
        · rw [if_pos (by omega), wp i (by omega) c4, if_pos (by omega), if_pos (by omega), rd34]
          by_cases c5 : (pS sp (i - 1)).f1 > (pS sp i).f0
          · rw [if_pos c5, if_neg (fun h => by have := h.2 c4; omega)]
          · rw [if_neg c5, if_pos ⟨by omega, fun _ => by omega⟩]
        · rw [if_neg (by omega), if_pos ⟨by omega, fun h => absurd h c4⟩]
open Classical in
theorem rf_jstep (js : List S40) (jobs : List Int) (sp : List S34) (X Y : Int) (i : Nat) (hi : i < jobs.length) (hl : jobs.length ≤ 100000) (k : Nat) : R4_Refusal.l1 (k + 1) js jobs sp X Y (i : Int) = R4_Refusal.j2 k js jobs sp X Y (i : Int) (decide (¬ JbOk js.length jobs i)) := by
  rw [R4_Refusal.l1, if_pos (by omega), if_pos (by omega), rdI]
  by_cases c1 : gI jobs i < 0
  · rw [if_pos c1, decide_eq_true (show ¬ JbOk js.length jobs i from fun h => by have := h.1.1; omega)]
  · rw [if_neg c1]
    by_cases c2 : gI jobs i ≥ (js.length : Int)
    · rw [if_pos c2, decide_eq_true (show ¬ JbOk js.length jobs i from fun h => by have := h.1.2; omega)]
    · rw [if_neg c2]
      by_cases c4 : 0 < i
      · rw [if_pos (by omega), wp i (by omega) c4, if_pos (by omega), if_pos (by omega), rdI]
        congr 1
        rw [decide_eq_decide]
        constructor
        · intro h h'; have := h'.2 c4; omega
        · intro h; exact Classical.byContradiction fun h' => h ⟨by omega, fun _ => by omega⟩
      · rw [if_neg (by omega), decide_eq_false (show ¬ ¬ JbOk js.length jobs i from fun h => h ⟨by omega, fun h => absurd h c4⟩)]
theorem rf_sub {js : List S40} {jobs : List Int} {sp : List S34} {j : Ben.J} (hj : 0 ≤ j.ready ∧ j.ready ≤ j.due ∧ j.due ≤ 1048576) (hs : SpAll sp) {X Y : Int} (hX : -1000000000000 ≤ X ∧ X ≤ 1000000000000) {i : Nat} {r : Bool}
    (hn : Ev (fun k => R4_Refusal.l1 k js jobs sp (X - cmS j sp sp.length) Y (wrap64 ((i : Int) + 1))) r) : ∀ n c, c + n = sp.length → Ev (fun k => R4_Refusal.l2 k js jobs sp (X - cmS j sp c) Y (i : Int) (c : Int) j.ready j.due j.work) r
  | 0, c, h => by
    obtain rfl : c = sp.length := by omega
    exact Ev.step (fun k => by rw [R4_Refusal.l2, if_neg (by omega)]) hn
  | n + 1, c, h => by
    have hl := hs.1
    have hp := (hs.2 c (by omega)).1
    have hb := cmS_le hj (sp := sp) c
    refine Ev.step (fun k => ?_) (rf_sub hj hs hX hn n (c + 1) (by omega))
    rw [R4_Refusal.l2, if_pos (by omega), if_pos (by omega), rd34, w1 c (by omega)]
    unfold R4_overlap.f
    rw [Option.bind_some, lap_w (by omega) (by omega)]
    have e : cmS j sp (c + 1) = cmS j sp c + lap j.ready j.due (pS sp c).f0 (pS sp c).f1 := rfl
    have h2 : 0 ≤ lap j.ready j.due (pS sp c).f0 (pS sp c).f1 ∧ lap j.ready j.due (pS sp c).f0 (pS sp c).f1 ≤ 1048576 := by unfold lap; omega
    rw [w64i (by omega) (by omega), e, Int.sub_sub]
open Classical in
theorem rf_from {B : Int} {js : List S40} (ht : TaskOk B js) {jobs : List Int} {sp : List S34} (hs : SpAll sp) (hm : jobs.length ≤ 100000) : ∀ n i, i + n = jobs.length → (∀ q, q < i → JbOk js.length jobs q) →
    Ev (fun k => R4_Refusal.l1 k js jobs sp (roomS B sp sp.length + outR js jobs sp i) (workR js jobs i) (i : Int)) (decide (RefFrom B js jobs sp i))
  | 0, i, h, hp => by
    obtain rfl : i = jobs.length := by omega
    have e : RefFrom B js jobs sp jobs.length ↔ workR js jobs jobs.length > roomS B sp sp.length + outR js jobs sp jobs.length := ⟨fun h => h.2, fun h => ⟨fun q h1 h2 => absurd h2 (by omega), h⟩⟩
    refine Ev.step (f := fun _ => some (decide (workR js jobs jobs.length > roomS B sp sp.length + outR js jobs sp jobs.length))) (fun k => by rw [R4_Refusal.l1, if_neg (by omega)]) ?_
    rw [decide_eq_decide.2 e]
    exact Ev.now _
  | n + 1, i, h, hp => by
    have hb := sums_le ht hs i hp
    have hi := jb_le hp
    have hmm := ht.m
    have hr := roomS_le ht.b sp.length hs.2
    have hl := hs.1
    refine Ev.step (fun k => rf_jstep js jobs sp _ _ i (by omega) hm k) ?_
    by_cases c : JbOk js.length jobs i
    · have hj := jbJ_ok ht c
      have hcm := cmS_le (sp := sp) (j := jbJ js jobs i) (by omega) sp.length
      have e1 : workR js jobs (i + 1) = workR js jobs i + (jbJ js jobs i).work := rfl
      have e2 : outR js jobs sp (i + 1) = outR js jobs sp i + ((jbJ js jobs i).due - (jbJ js jobs i).ready - cmS (jbJ js jobs i) sp sp.length) := rfl
      rw [decide_eq_decide.2 (RefFrom.next c), decide_eq_false (fun h => h c)]
      have ih := rf_from ht hs hm n (i + 1) (by omega) (upto hp c)
      have hz := rf_sub (js := js) (jobs := jobs) (sp := sp) (j := jbJ js jobs i) (X := roomS B sp sp.length + outR js jobs sp i + (jbJ js jobs i).due - (jbJ js jobs i).ready) (Y := workR js jobs (i + 1)) (i := i) (r := decide (RefFrom B js jobs sp (i + 1))) (by omega) hs (by omega)
        (by rw [w1 i (by omega)]; have e3 : roomS B sp sp.length + outR js jobs sp i + (jbJ js jobs i).due - (jbJ js jobs i).ready - cmS (jbJ js jobs i) sp sp.length = roomS B sp sp.length + outR js jobs sp (i + 1) := by rw [e2]; omega
            rw [e3]; exact ih) sp.length 0 (by omega)
      refine Ev.step (fun k => ?_) hz
      rw [R4_Refusal.j2, if_neg (by decide), if_pos (by omega), if_pos (by omega), rdI, if_pos c.1.1, if_pos (by have := c.1.2; omega)]
      have er : rd_T40 js (gI jobs i) = ⟨(jbJ js jobs i).ready, (jbJ js jobs i).due, (jbJ js jobs i).work⟩ := rfl
      rw [er, e1]
      simp only
      rw [w64i (x := workR js jobs i + (jbJ js jobs i).work) (by omega) (by omega), w64i (x := roomS B sp sp.length + outR js jobs sp i + (jbJ js jobs i).due) (by omega) (by omega), w64i (by omega) (by omega)]
      simp [cmS, sumN]
    · rw [decide_eq_false (show ¬ RefFrom B js jobs sp i from fun h' => c (h'.1 i (Nat.le_refl _) (by omega))), decide_eq_true c]
      exact Ev.step (f := fun _ => some false) (fun k => by rw [R4_Refusal.j2, if_pos rfl]) (Ev.now _)
def RfRoom (B : Int) (js : List S40) (jobs : List Int) (sp : List S34) (i : Nat) : Prop := (∀ q, i ≤ q → q < sp.length → SpOk sp q) ∧ RefFrom B js jobs sp 0
open Classical in
theorem rf_room {B : Int} {js : List S40} (ht : TaskOk B js) {jobs : List Int} {sp : List S34} (hl : sp.length ≤ 4096) (hm : jobs.length ≤ 100000) : ∀ n i, i + n = sp.length → (∀ q, q < i → SpOk sp q) →
    Ev (fun k => R4_Refusal.l0 k B js jobs sp (roomS B sp i) (i : Int)) (decide (RfRoom B js jobs sp i))
  | 0, i, h, hp => by
    obtain rfl : i = sp.length := by omega
    refine Ev.step (fun k => by rw [R4_Refusal.l0, if_neg (by omega)]) ?_
    have := rf_from ht ⟨hl, hp⟩ hm jobs.length 0 (by omega) (fun q hq => absurd hq (Nat.not_lt_zero q))
    have e : RfRoom B js jobs sp sp.length ↔ RefFrom B js jobs sp 0 := ⟨fun h => h.2, fun h => ⟨fun q h1 h2 => absurd h2 (by omega), h⟩⟩
    rw [decide_eq_decide.2 e]
    simpa [workR, outR, sumN] using this
  | n + 1, i, h, hp => by
    refine Ev.step (fun k => rf_step B js jobs sp _ i (by omega) hl k) ?_
    by_cases c : SpOk sp i
    · have ih := rf_room ht hl hm n (i + 1) (by omega) (upto hp c)
      have e : RfRoom B js jobs sp i ↔ RfRoom B js jobs sp (i + 1) := ⟨fun h => ⟨fun q h1 h2 => h.1 q (by omega) h2, h.2⟩, fun h => ⟨fun q h1 h2 => by
        rcases Nat.lt_or_ge i q with h3 | h3
        · exact h.1 q h3 h2
        · rw [show q = i by omega]; exact c, h.2⟩⟩
      rw [decide_eq_decide.2 e]
      refine ev_pos c ?_
      rw [room_w ht.b (by omega) (upto hp c)]
      exact ih
    · rw [decide_eq_false (fun h' => c (h'.1 i (Nat.le_refl _) (by omega)))]
      exact ev_neg c (Ev.now _)
open Classical in
theorem rf_ev {B : Int} {js : List S40} (ht : TaskOk B js) {jobs : List Int} {sp : List S34} (hm : jobs.length ≤ 100000) : Ev (fun k => R4_Refusal.f k B js jobs sp) (refB B js jobs sp) := by
  unfold R4_Refusal.f refB
  by_cases hl : sp.length ≤ 4096
  · have e : RefOk B js jobs sp ↔ RfRoom B js jobs sp 0 := ⟨fun h => ⟨fun q _ hq => h.al.2 q hq, fun q _ hq => h.jb q hq, h.lt⟩, fun h => ⟨⟨hl, fun q hq => h.1 q (Nat.zero_le _) hq⟩, fun q hq => h.2.1 q (Nat.zero_le _) hq, h.2.2⟩⟩
    rw [decide_eq_decide.2 e]
    refine ev_neg (by omega) ?_
    have := rf_room ht hl hm sp.length 0 (by omega) (fun q hq => absurd hq (Nat.not_lt_zero q))
    simpa [roomS, sumN] using this
  · rw [decide_eq_false (fun h => hl h.al.1)]
    exact ev_pos (by omega) (Ev.now _)
end Go.Proofs.YtmnhcbaocoofoaaDoor.P
namespace Go.Proofs.YtmnhcbaocoofoaaDoor.P
open Go.RowKit YtmnhcbaocoofoaaDoorW.PrintWords YtmnhcbaocoofoaaDoorW.PrintLast YtmnhcbaocoofoaaDoorW.PrintMore
theorem contains_at {A : Option Addr} {c : Nat} {js : List S40} {w : World} (q0 : Bool) (hr : Kd.C k40 w A js.length js) (hm : js.length ≤ 1000000) (hq : q0 = true ↔ ∃ k, k < js.length ∧ isJ (gJ js k) = false) :
    Calls Tryd.prog 40 #[.slice A js.length c, .func (.func 41) #[] #[]] w fun e w' => e = .returned (.bool q0) ∧ Below w.heap.size w w' :=
  (contains_calls A c js w hr hm).mono fun e w' ⟨q, h1, h2, h3⟩ => ⟨by rw [h1, show q = q0 by rw [Bool.eq_iff_iff]; exact h2.trans hq.symm], h3⟩
theorem isJ_iff (j : Ben.J) : isJ j = true ↔ 0 ≤ j.ready ∧ j.ready < j.due ∧ j.due ≤ 1048576 ∧ 1 ≤ j.work ∧ j.work ≤ 1048576 := by
  unfold isJ win
  simp
  omega
theorem task_iff (B : Int) (js : List S40) : TaskOk B js ↔ win B 1 8 = true ∧ ¬ 32 < js.length ∧ ¬ ∃ k, k < js.length ∧ isJ (gJ js k) = false := by
  constructor
  · intro h
    refine ⟨by unfold win; simp; exact h.b, by have := h.m; omega, fun ⟨k, hk, e⟩ => ?_⟩
    rw [(isJ_iff _).2 (h.job k hk)] at e
    cases e
  · rintro ⟨h1, h2, h3⟩
    refine ⟨by unfold win at h1; simpa using h1, by omega, fun k hk => (isJ_iff _).1 ?_⟩
    cases e : isJ (gJ js k) with
    | true => rfl
    | false => exact absurd ⟨k, hk, e⟩ h3
set_option maxHeartbeats 4000000 in
set_option maxRecDepth 100000 in
theorem newt_ok (B : Int) (A : Option Addr) (c : Nat) (js : List S40) (w : World) (hr : Kd.C k40 w A js.length js) (ht : TaskOk B js) :
    Calls Tryd.prog 28 #[.int .i64 B, .slice A js.length c] w fun e w' => e = .returned (.tuple #[.agg #[.int .i64 B, .slice A js.length c], .int .i64 0]) ∧ Below w.heap.size w w' := by
  obtain ⟨h1, h2, h3⟩ := (task_iff B js).1 ht
  have HB := Aside0.mk (Below.refl w.heap.size w)
  have H1 := Aside0.mk (fun W => win_calls B 1 8 W)
  rw [h1] at H1
  have HC := Aside0.mk (fun W (hb : Below w.heap.size w W) => contains_at (c := c) false (Kd.C_below hr hb) (by omega) ⟨(fun h => by cases h), fun h => absurd h h3⟩)
  have hlI : ¬ (32 : Int) < ((js.length : Nat) : Int) := by omega
  have hu55 := Tryd.underlying55
  clear hr ht h1 h2 h3
  go_enter Tryd.func28, Tryd.ntmps28
  go_wp2_with (first | ((with_reducible refine gate_dst (N := 4) rfl ?_); refine bxe 4 #[.int .i64 0, .slice none 0 0] 55 ?_; intro gr hgr w3 hbox3 hb3; have HX9 := Aside0.mk hbox3; have HGR := Aside0.mk (show w.heap.size ≤ gr by rw [hgr]; exact Nat.le_refl _); have HB9 := Aside0.mk (below_step HB.out hb3); clear hgr hbox3 hb3) | (go_at_call 39; go_must (refine (H1.out _).mono ?_); rintro e w4 ⟨rfl, hb4⟩; replace HX9 := Aside0.mk ((hb4.block _ (blk_lt HX9.out)).trans HX9.out); replace HB9 := Aside0.mk (below_step HB9.out hb4); have c0 : w4.cell? ⟨gr, 0, none⟩ = some (.int .i64 0) := (blk_cell HX9.out 0).trans rfl; have c1 : w4.cell? ⟨gr, 1, none⟩ = some (.slice none 0 0) := (blk_cell HX9.out 1).trans rfl; have f0 := blk_frozen HX9.out 0; have f1 := blk_frozen HX9.out 1; clear hb4) | (go_at_call 40; go_must (refine (HC.out _ HB9.out).mono ?_); rintro e w5 ⟨rfl, hb5⟩; replace HX9 := Aside0.mk ((hb5.block _ (blk_lt HX9.out)).trans HX9.out); replace HB9 := Aside0.mk (below_step HB9.out hb5); clear c0 c1 f0 f1; have c0 : w5.cell? ⟨gr, 0, none⟩ = some (.int .i64 0) := (blk_cell HX9.out 0).trans rfl; have c1 : w5.cell? ⟨gr, 1, none⟩ = some (.slice none 0 0) := (blk_cell HX9.out 1).trans rfl; have f0 := blk_frozen HX9.out 0; have f1 := blk_frozen HX9.out 1; clear hb5))
  have HZ : Aside0 (((w5.setCell ⟨gr, 0, none⟩ (.int .i64 B)).setCell ⟨gr, 1, none⟩ (.slice A js.length c)).heap[gr]? = some (.cells #[.int .i64 B, .slice A js.length c] 55 (0, 0))) := ⟨blk_put (cs := #[.int .i64 B, .slice none 0 0]) (blk_put (cs := #[.int .i64 0, .slice none 0 0]) HX9.out 0 _ rfl) 1 _ rfl⟩
  have HBZ : Aside0 (Below w.heap.size w ((w5.setCell ⟨gr, 0, none⟩ (.int .i64 B)).setCell ⟨gr, 1, none⟩ (.slice A js.length c))) := ⟨Below.setCell (Below.setCell HB9.out HGR.out _) HGR.out _⟩
  clear c0 c1 f0 f1
  generalize ((w5.setCell ⟨gr, 0, none⟩ (.int .i64 B)).setCell ⟨gr, 1, none⟩ (.slice A js.length c)) = wz at HZ HBZ ⊢
  (try simp only [Exit.inBlock, Exit.then])
  refine bodyPost_ret (results_ct (fn := Tryd.f28) rfl _ _ gr 55 #[.int .i64 B, .slice A js.length c] (0, 0) _ rfl HZ.out hu55 rfl (by kernel_rfl)) rfl ?_
  exact ⟨rfl, HBZ.out⟩
set_option maxHeartbeats 4000000 in
set_option maxRecDepth 100000 in
theorem newt_no (B : Int) (A : Option Addr) (c : Nat) (js : List S40) (w : World) (hr : Kd.C k40 w A js.length js) (hm : js.length ≤ 1000000) (ht : ¬ TaskOk B js) :
    Calls Tryd.prog 28 #[.int .i64 B, .slice A js.length c] w fun e w' => e = .returned (.tuple #[.agg #[.int .i64 0, .slice none 0 0], .int .i64 2]) ∧ Below w.heap.size w w' := by
  have HB := Aside0.mk (Below.refl w.heap.size w)
  have H1 := Aside0.mk (fun W => win_calls B 1 8 W)
  have hu55 := Tryd.underlying55
  cases h1 : win B 1 8 with
  | false =>
    rw [h1] at H1
    clear hr ht h1 hm
    go_enter Tryd.func28, Tryd.ntmps28
    go_wp2_with (first | ((with_reducible refine gate_dst (N := 4) rfl ?_); refine bxe 4 #[.int .i64 0, .slice none 0 0] 55 ?_; intro gr hgr w3 hbox3 hb3; have HX9 := Aside0.mk hbox3; have HGR := Aside0.mk (show w.heap.size ≤ gr by rw [hgr]; exact Nat.le_refl _); have HB9 := Aside0.mk (below_step HB.out hb3); clear hgr hbox3 hb3) | (go_at_call 39; go_must (refine (H1.out _).mono ?_); rintro e w4 ⟨rfl, hb4⟩; replace HX9 := Aside0.mk ((hb4.block _ (blk_lt HX9.out)).trans HX9.out); replace HB9 := Aside0.mk (below_step HB9.out hb4); have c0 : w4.cell? ⟨gr, 0, none⟩ = some (.int .i64 0) := (blk_cell HX9.out 0).trans rfl; have c1 : w4.cell? ⟨gr, 1, none⟩ = some (.slice none 0 0) := (blk_cell HX9.out 1).trans rfl; have f0 := blk_frozen HX9.out 0; have f1 := blk_frozen HX9.out 1; clear hb4))
    have HZ : Aside0 (((w4.setCell ⟨gr, 0, none⟩ (.int .i64 0)).setCell ⟨gr, 1, none⟩ (.slice none 0 0)).heap[gr]? = some (.cells #[.int .i64 0, .slice none 0 0] 55 (0, 0))) := ⟨blk_put (cs := #[.int .i64 0, .slice none 0 0]) (blk_put (cs := #[.int .i64 0, .slice none 0 0]) HX9.out 0 _ rfl) 1 _ rfl⟩
    have HBZ : Aside0 (Below w.heap.size w ((w4.setCell ⟨gr, 0, none⟩ (.int .i64 0)).setCell ⟨gr, 1, none⟩ (.slice none 0 0))) := ⟨Below.setCell (Below.setCell HB9.out HGR.out _) HGR.out _⟩
    clear c0 c1 f0 f1
    generalize ((w4.setCell ⟨gr, 0, none⟩ (.int .i64 0)).setCell ⟨gr, 1, none⟩ (.slice none 0 0)) = wz at HZ HBZ ⊢
    (try simp only [Exit.inBlock, Exit.then])
    refine bodyPost_ret (results_ct (fn := Tryd.f28) rfl _ _ gr 55 #[.int .i64 0, .slice none 0 0] (0, 0) _ rfl HZ.out hu55 rfl (by kernel_rfl)) rfl ?_
    exact ⟨rfl, HBZ.out⟩
  | true =>
    rw [h1] at H1
    by_cases h2 : 32 < js.length
    · have hlI : (32 : Int) < ((js.length : Nat) : Int) := by omega
      clear hr ht h1 hm h2
      go_enter Tryd.func28, Tryd.ntmps28
      go_wp2_with (first | ((with_reducible refine gate_dst (N := 4) rfl ?_); refine bxe 4 #[.int .i64 0, .slice none 0 0] 55 ?_; intro gr hgr w3 hbox3 hb3; have HX9 := Aside0.mk hbox3; have HGR := Aside0.mk (show w.heap.size ≤ gr by rw [hgr]; exact Nat.le_refl _); have HB9 := Aside0.mk (below_step HB.out hb3); clear hgr hbox3 hb3) | (go_at_call 39; go_must (refine (H1.out _).mono ?_); rintro e w4 ⟨rfl, hb4⟩; replace HX9 := Aside0.mk ((hb4.block _ (blk_lt HX9.out)).trans HX9.out); replace HB9 := Aside0.mk (below_step HB9.out hb4); have c0 : w4.cell? ⟨gr, 0, none⟩ = some (.int .i64 0) := (blk_cell HX9.out 0).trans rfl; have c1 : w4.cell? ⟨gr, 1, none⟩ = some (.slice none 0 0) := (blk_cell HX9.out 1).trans rfl; have f0 := blk_frozen HX9.out 0; have f1 := blk_frozen HX9.out 1; clear hb4))
      have HZ : Aside0 (((w4.setCell ⟨gr, 0, none⟩ (.int .i64 0)).setCell ⟨gr, 1, none⟩ (.slice none 0 0)).heap[gr]? = some (.cells #[.int .i64 0, .slice none 0 0] 55 (0, 0))) := ⟨blk_put (cs := #[.int .i64 0, .slice none 0 0]) (blk_put (cs := #[.int .i64 0, .slice none 0 0]) HX9.out 0 _ rfl) 1 _ rfl⟩
      have HBZ : Aside0 (Below w.heap.size w ((w4.setCell ⟨gr, 0, none⟩ (.int .i64 0)).setCell ⟨gr, 1, none⟩ (.slice none 0 0))) := ⟨Below.setCell (Below.setCell HB9.out HGR.out _) HGR.out _⟩
      clear c0 c1 f0 f1
      generalize ((w4.setCell ⟨gr, 0, none⟩ (.int .i64 0)).setCell ⟨gr, 1, none⟩ (.slice none 0 0)) = wz at HZ HBZ ⊢
      (try simp only [Exit.inBlock, Exit.then])
      refine bodyPost_ret (results_ct (fn := Tryd.f28) rfl _ _ gr 55 #[.int .i64 0, .slice none 0 0] (0, 0) _ rfl HZ.out hu55 rfl (by kernel_rfl)) rfl ?_
      exact ⟨rfl, HBZ.out⟩
    · have hlI : ¬ (32 : Int) < ((js.length : Nat) : Int) := by omega
      have h3 : ∃ k, k < js.length ∧ isJ (gJ js k) = false := Classical.byContradiction fun h => ht ((task_iff B js).2 ⟨h1, h2, h⟩)
      have HC := Aside0.mk (fun W (hb : Below w.heap.size w W) => contains_at (c := c) true (Kd.C_below hr hb) hm ⟨fun _ => h3, fun _ => rfl⟩)
      clear hr ht h1 hm h2 h3
      go_enter Tryd.func28, Tryd.ntmps28
      go_wp2_with (first | ((with_reducible refine gate_dst (N := 4) rfl ?_); refine bxe 4 #[.int .i64 0, .slice none 0 0] 55 ?_; intro gr hgr w3 hbox3 hb3; have HX9 := Aside0.mk hbox3; have HGR := Aside0.mk (show w.heap.size ≤ gr by rw [hgr]; exact Nat.le_refl _); have HB9 := Aside0.mk (below_step HB.out hb3); clear hgr hbox3 hb3) | (go_at_call 39; go_must (refine (H1.out _).mono ?_); rintro e w4 ⟨rfl, hb4⟩; replace HX9 := Aside0.mk ((hb4.block _ (blk_lt HX9.out)).trans HX9.out); replace HB9 := Aside0.mk (below_step HB9.out hb4); have c0 : w4.cell? ⟨gr, 0, none⟩ = some (.int .i64 0) := (blk_cell HX9.out 0).trans rfl; have c1 : w4.cell? ⟨gr, 1, none⟩ = some (.slice none 0 0) := (blk_cell HX9.out 1).trans rfl; have f0 := blk_frozen HX9.out 0; have f1 := blk_frozen HX9.out 1; clear hb4) | (go_at_call 40; go_must (refine (HC.out _ HB9.out).mono ?_); rintro e w5 ⟨rfl, hb5⟩; replace HX9 := Aside0.mk ((hb5.block _ (blk_lt HX9.out)).trans HX9.out); replace HB9 := Aside0.mk (below_step HB9.out hb5); clear c0 c1 f0 f1; have c0 : w5.cell? ⟨gr, 0, none⟩ = some (.int .i64 0) := (blk_cell HX9.out 0).trans rfl; have c1 : w5.cell? ⟨gr, 1, none⟩ = some (.slice none 0 0) := (blk_cell HX9.out 1).trans rfl; have f0 := blk_frozen HX9.out 0; have f1 := blk_frozen HX9.out 1; clear hb5))
      have HZ : Aside0 (((w5.setCell ⟨gr, 0, none⟩ (.int .i64 0)).setCell ⟨gr, 1, none⟩ (.slice none 0 0)).heap[gr]? = some (.cells #[.int .i64 0, .slice none 0 0] 55 (0, 0))) := ⟨blk_put (cs := #[.int .i64 0, .slice none 0 0]) (blk_put (cs := #[.int .i64 0, .slice none 0 0]) HX9.out 0 _ rfl) 1 _ rfl⟩
      have HBZ : Aside0 (Below w.heap.size w ((w5.setCell ⟨gr, 0, none⟩ (.int .i64 0)).setCell ⟨gr, 1, none⟩ (.slice none 0 0))) := ⟨Below.setCell (Below.setCell HB9.out HGR.out _) HGR.out _⟩
      clear c0 c1 f0 f1
      generalize ((w5.setCell ⟨gr, 0, none⟩ (.int .i64 0)).setCell ⟨gr, 1, none⟩ (.slice none 0 0)) = wz at HZ HBZ ⊢
      (try simp only [Exit.inBlock, Exit.then])
      refine bodyPost_ret (results_ct (fn := Tryd.f28) rfl _ _ gr 55 #[.int .i64 0, .slice none 0 0] (0, 0) _ rfl HZ.out hu55 rfl (by kernel_rfl)) rfl ?_
      exact ⟨rfl, HBZ.out⟩
noncomputable def rightB (B : Int) (js : List S40) (p : Bool) (ss : List S50) (jobs : List Int) (sp : List S34) : Bool :=
  if p = true then (decide (jobs.length = 0 ∧ sp.length = 0) && schB B js ss) else (decide (ss.length = 0) && refB B js jobs sp)
theorem rref_at {B : Int} {A A1 A2 : Option Addr} {c c1 c2 : Nat} {js : List S40} {jobs : List Int} {sp : List S34} {W : World} (hr : Kd.C k40 W A js.length js) (hc : js.length ≤ c) (ht : TaskOk B js) (hr1 : Kd.C (Kd.int .i64) W A1 jobs.length jobs) (hc1 : jobs.length ≤ c1) (hr2 : Kd.C k34 W A2 sp.length sp) (hc2 : sp.length ≤ c2) (hm : jobs.length ≤ 100000) :
    Calls Tryd.prog 36 #[.int .i64 B, .slice A js.length c, .slice A1 jobs.length c1, .slice A2 sp.length c2] W fun e w' => e = .returned (.bool (refB B js jobs sp)) ∧ Below W.heap.size W w' := by
  obtain ⟨k, hk⟩ := (rf_ev ht (sp := sp) hm).rounds
  exact R4_Refusal.calls k B A c js A1 c1 jobs A2 c2 sp _ W hr hc hr1 hc1 hr2 hc2 hk
set_option maxHeartbeats 8000000 in
set_option maxRecDepth 100000 in
theorem right_ok (B : Int) (A : Option Addr) (c : Nat) (js : List S40) (p : Bool) (As : Option Addr) (cs : Nat) (ss : List S50) (Aj : Option Addr) (cj : Nat) (jobs : List Int) (Ap : Option Addr) (cp : Nat) (sp : List S34) (w : World) (hr : Kd.C k40 w A js.length js) (hc : js.length ≤ c) (ht : TaskOk B js)
    (hs : Kd.C k50 w As ss.length ss) (hj : Kd.C (Kd.int .i64) w Aj jobs.length jobs) (hcj : jobs.length ≤ cj) (hp : Kd.C k34 w Ap sp.length sp) (hcp : sp.length ≤ cp) (hm : jobs.length ≤ 100000) :
    Calls Tryd.prog 25 #[.int .i64 B, .slice A js.length c, .agg #[.bool p, .slice As ss.length cs, .slice Aj jobs.length cj, .slice Ap sp.length cp]] w fun e w' => e = .returned (.bool (rightB B js p ss jobs sp)) ∧ Below w.heap.size w w' := by
  have HB := Aside0.mk (Below.refl w.heap.size w)
  have HSC := Aside0.mk (fun W (hb : Below w.heap.size w W) => rsch_calls B A c js As cs ss W (Kd.C_below hr hb) ht (Kd.C_below hs hb))
  have HRF := Aside0.mk (fun W (hb : Below w.heap.size w W) => rref_at (A1 := Aj) (c1 := cj) (A2 := Ap) (c2 := cp) (Kd.C_below hr hb) hc ht (Kd.C_below hj hb) hcj (Kd.C_below hp hb) hcp hm)
  obtain ⟨R, hR⟩ : ∃ R, R = rightB B js p ss jobs sp := ⟨_, rfl⟩
  rw [← hR]
  have HRR := Aside0.mk hR
  unfold rightB at HRR
  obtain ⟨n, hn⟩ : ∃ n, n = js.length := ⟨_, rfl⟩
  obtain ⟨m, hm1⟩ : ∃ m, m = ss.length := ⟨_, rfl⟩
  obtain ⟨nj, hnj⟩ : ∃ m, m = jobs.length := ⟨_, rfl⟩
  obtain ⟨np, hnp⟩ : ∃ m, m = sp.length := ⟨_, rfl⟩
  rw [← hn, ← hm1] at HSC
  rw [← hn, ← hnj, ← hnp] at HRF
  rw [← hm1, ← hnj, ← hnp] at HRR
  rw [← hn, ← hm1, ← hnj, ← hnp]
  have hu46 := Tryd.underlying46
  clear hr hc ht hs hj hcj hp hcp hm hR hn hm1 hnj hnp
  cases p with
  | true =>
    rw [if_pos rfl] at HRR
    by_cases h1 : nj = 0
    · subst h1
      by_cases h2 : np = 0
      · subst h2
        have HRS := Aside0.mk (show R = schB B js ss by rw [HRR.out]; simp)
        go_enter Tryd.func25, Tryd.ntmps25
        go_wp2_with (first
          | ((with_reducible refine gate_dst (N := 5) rfl ?_); refine bxe 5 #[.bool true, .slice As m cs, .slice Aj 0 cj, .slice Ap 0 cp] 46 ?_; intro ga hga w1 hbox1 hb1; have HX1 := Aside0.mk hbox1; have HB1 := Aside0.mk (below_step HB.out hb1); have a0 : w1.cell? ⟨ga, 0, none⟩ = some (.bool true) := (blk_cell HX1.out 0).trans rfl; have a1 : w1.cell? ⟨ga, 1, none⟩ = some (.slice As m cs) := (blk_cell HX1.out 1).trans rfl; have a2 : w1.cell? ⟨ga, 2, none⟩ = some (.slice Aj 0 cj) := (blk_cell HX1.out 2).trans rfl; have a3 : w1.cell? ⟨ga, 3, none⟩ = some (.slice Ap 0 cp) := (blk_cell HX1.out 3).trans rfl; clear hga hbox1 hb1)
          | (go_at_call 35; go_must (refine (HSC.out _ HB1.out).mono ?_); rintro e w4 ⟨rfl, hb4⟩; have HB4 := Aside0.mk (below_step HB1.out hb4); clear hb4))
        go_ret
        exact ⟨by rw [HRS.out]; rfl, HB4.out⟩
      · have HRS := Aside0.mk (show R = false by rw [HRR.out]; simp [h2])
        have h2b : (((np : Nat) : Int) == 0) = false := beq_eq_false_iff_ne.2 (by omega)
        clear h2
        go_enter Tryd.func25, Tryd.ntmps25
        go_wp2_with (first
          | ((with_reducible refine gate_dst (N := 5) rfl ?_); refine bxe 5 #[.bool true, .slice As m cs, .slice Aj 0 cj, .slice Ap np cp] 46 ?_; intro ga hga w1 hbox1 hb1; have HX1 := Aside0.mk hbox1; have HB1 := Aside0.mk (below_step HB.out hb1); have a0 : w1.cell? ⟨ga, 0, none⟩ = some (.bool true) := (blk_cell HX1.out 0).trans rfl; have a1 : w1.cell? ⟨ga, 1, none⟩ = some (.slice As m cs) := (blk_cell HX1.out 1).trans rfl; have a2 : w1.cell? ⟨ga, 2, none⟩ = some (.slice Aj 0 cj) := (blk_cell HX1.out 2).trans rfl; have a3 : w1.cell? ⟨ga, 3, none⟩ = some (.slice Ap np cp) := (blk_cell HX1.out 3).trans rfl; clear hga hbox1 hb1))
        go_ret
        exact ⟨by rw [HRS.out]; rfl, HB1.out⟩
    · have HRS := Aside0.mk (show R = false by rw [HRR.out]; simp [h1])
      have h2b : (((nj : Nat) : Int) == 0) = false := beq_eq_false_iff_ne.2 (by omega)
      clear h1
      go_enter Tryd.func25, Tryd.ntmps25
      go_wp2_with (first
        | ((with_reducible refine gate_dst (N := 5) rfl ?_); refine bxe 5 #[.bool true, .slice As m cs, .slice Aj nj cj, .slice Ap np cp] 46 ?_; intro ga hga w1 hbox1 hb1; have HX1 := Aside0.mk hbox1; have HB1 := Aside0.mk (below_step HB.out hb1); have a0 : w1.cell? ⟨ga, 0, none⟩ = some (.bool true) := (blk_cell HX1.out 0).trans rfl; have a1 : w1.cell? ⟨ga, 1, none⟩ = some (.slice As m cs) := (blk_cell HX1.out 1).trans rfl; have a2 : w1.cell? ⟨ga, 2, none⟩ = some (.slice Aj nj cj) := (blk_cell HX1.out 2).trans rfl; have a3 : w1.cell? ⟨ga, 3, none⟩ = some (.slice Ap np cp) := (blk_cell HX1.out 3).trans rfl; clear hga hbox1 hb1))
      go_ret
      exact ⟨by rw [HRS.out]; rfl, HB1.out⟩
  | false =>
    rw [if_neg (by decide)] at HRR
    by_cases h1 : m = 0
    · subst h1
      have HRS := Aside0.mk (show R = refB B js jobs sp by rw [HRR.out]; simp)
      go_enter Tryd.func25, Tryd.ntmps25
      go_wp2_with (first
        | ((with_reducible refine gate_dst (N := 5) rfl ?_); refine bxe 5 #[.bool false, .slice As 0 cs, .slice Aj nj cj, .slice Ap np cp] 46 ?_; intro ga hga w1 hbox1 hb1; have HX1 := Aside0.mk hbox1; have HB1 := Aside0.mk (below_step HB.out hb1); have a0 : w1.cell? ⟨ga, 0, none⟩ = some (.bool false) := (blk_cell HX1.out 0).trans rfl; have a1 : w1.cell? ⟨ga, 1, none⟩ = some (.slice As 0 cs) := (blk_cell HX1.out 1).trans rfl; have a2 : w1.cell? ⟨ga, 2, none⟩ = some (.slice Aj nj cj) := (blk_cell HX1.out 2).trans rfl; have a3 : w1.cell? ⟨ga, 3, none⟩ = some (.slice Ap np cp) := (blk_cell HX1.out 3).trans rfl; clear hga hbox1 hb1)
        | (go_at_call 36; go_must (refine (HRF.out _ HB1.out).mono ?_); rintro e w4 ⟨rfl, hb4⟩; have HB4 := Aside0.mk (below_step HB1.out hb4); clear hb4))
      go_ret
      exact ⟨by rw [HRS.out]; rfl, HB4.out⟩
    · have HRS := Aside0.mk (show R = false by rw [HRR.out]; simp [h1])
      have h2b : (((m : Nat) : Int) == 0) = false := beq_eq_false_iff_ne.2 (by omega)
      clear h1
      go_enter Tryd.func25, Tryd.ntmps25
      go_wp2_with (first
        | ((with_reducible refine gate_dst (N := 5) rfl ?_); refine bxe 5 #[.bool false, .slice As m cs, .slice Aj nj cj, .slice Ap np cp] 46 ?_; intro ga hga w1 hbox1 hb1; have HX1 := Aside0.mk hbox1; have HB1 := Aside0.mk (below_step HB.out hb1); have a0 : w1.cell? ⟨ga, 0, none⟩ = some (.bool false) := (blk_cell HX1.out 0).trans rfl; have a1 : w1.cell? ⟨ga, 1, none⟩ = some (.slice As m cs) := (blk_cell HX1.out 1).trans rfl; have a2 : w1.cell? ⟨ga, 2, none⟩ = some (.slice Aj nj cj) := (blk_cell HX1.out 2).trans rfl; have a3 : w1.cell? ⟨ga, 3, none⟩ = some (.slice Ap np cp) := (blk_cell HX1.out 3).trans rfl; clear hga hbox1 hb1))
      go_ret
      exact ⟨by rw [HRS.out]; rfl, HB1.out⟩
end Go.Proofs.YtmnhcbaocoofoaaDoor.P
namespace Go.Proofs.YtmnhcbaocoofoaaDoor.P
open Go.RowKit YtmnhcbaocoofoaaDoorW.PrintWords YtmnhcbaocoofoaaDoorW.PrintLast YtmnhcbaocoofoaaDoorW.PrintMore
open Classical in
noncomputable def R4_Right.f (a0 : Int) (l1 : List S40) (a2_0 : Bool) (l2_1 : List S50) (l2_2 : List Int) (l2_3 : List S34) : Option Bool := if TaskOk a0 l1 ∧ l2_2.length ≤ 100000 then some (rightB a0 l1 a2_0 l2_1 l2_2 l2_3) else none
theorem R4_Right.calls (a0 : Int) (A1 : Option Addr) (c1 : Nat) (l1 : List S40) (a2_0 : Bool) (A2_1 : Option Addr) (c2_1 : Nat) (l2_1 : List S50) (A2_2 : Option Addr) (c2_2 : Nat) (l2_2 : List Int) (A2_3 : Option Addr) (c2_3 : Nat) (l2_3 : List S34) (r : Bool) (w : World) (hr1 : Kd.C k40 w A1 l1.length l1) (hc1 : l1.length ≤ c1) (hr2_1 : Kd.C k50 w A2_1 l2_1.length l2_1) (hc2_1 : l2_1.length ≤ c2_1) (hr2_2 : Kd.C (Kd.int .i64) w A2_2 l2_2.length l2_2) (hc2_2 : l2_2.length ≤ c2_2) (hr2_3 : Kd.C k34 w A2_3 l2_3.length l2_3) (hc2_3 : l2_3.length ≤ c2_3) (h : R4_Right.f a0 l1 a2_0 l2_1 l2_2 l2_3 = some r) :
    Calls Tryd.prog 25 #[.int .i64 a0, .slice A1 l1.length c1, .agg #[.bool a2_0, .slice A2_1 l2_1.length c2_1, .slice A2_2 l2_2.length c2_2, .slice A2_3 l2_3.length c2_3]] w fun e w' => e = .returned (.bool r) ∧ Below w.heap.size w w' := by
  unfold R4_Right.f at h
  split at h
  case isTrue ht =>
    obtain rfl := Option.some.inj h
    exact right_ok a0 A1 c1 l1 a2_0 A2_1 c2_1 l2_1 A2_2 c2_2 l2_2 A2_3 c2_3 l2_3 w hr1 hc1 ht.1 hr2_1 hr2_2 hc2_2 hr2_3 hc2_3 ht.2
  case isFalse => exact absurd h (by simp)
end Go.Proofs.YtmnhcbaocoofoaaDoor.P
namespace Go.Proofs.YtmnhcbaocoofoaaDoor.P
open Go.RowKit YtmnhcbaocoofoaaDoorW.PrintWords YtmnhcbaocoofoaaDoorW.PrintLast YtmnhcbaocoofoaaDoorW.PrintMore
open Go.Proofs.YtmnhcbaocoofoaaDoor.Ben (Rm putR addF Tk St Sl chosen nearJ nearP)
def nsp (t : Tk) (l : List Nat) : List S34 := l.map fun i => ⟨((t.at_ i : Nat) : Int), ((t.at_ (i + 1) : Nat) : Int)⟩
theorem chosen_len (f : Nat → Bool) : ∀ n, (chosen f n).length ≤ n
  | 0 => by simp [chosen]
  | n + 1 => by
    have := chosen_len f n
    unfold chosen
    split
    · rw [List.length_append, List.length_singleton]; omega
    · omega
theorem chosen_yes {f : Nat → Bool} {n : Nat} (h : f n = true) : chosen f (n + 1) = chosen f n ++ [n] := by rw [chosen, if_pos h]
theorem chosen_no {f : Nat → Bool} {n : Nat} (h : f n = false) : chosen f (n + 1) = chosen f n := by rw [chosen, if_neg (by rw [h]; decide)]
theorem way_over {α : Type} {d : Kd α} {e base gw N : Nat} {ok : Nat → Prop} {w w1 : World} {v : Value} {xs : List α} {way : Ben.Way} (he : e ≠ 106) (h : d.R e w base ok v xs) (hw : WayR w gw N way) (hg : w.grownBy w1 v.ownBlock) : WayR w1 gw N way := by
  refine World.rowIs.of_block hw (hg.block gw (World.rowIs.lt hw) (fun e1 => ?_))
  obtain ⟨_, inner, ho, _⟩ := h
  obtain ⟨cs', hc⟩ := own_typed ho gw e1.symm
  obtain ⟨c, hb, _⟩ := hw
  rw [hb] at hc
  injection hc with hc
  injection hc with _ hc
  exact he hc.symm
theorem way_below {gw N : Nat} {w w1 : World} {way : Ben.Way} (hw : WayR w gw N way) (hb : Below w.heap.size w w1) : WayR w1 gw N way := World.rowIs.of_block hw (hb.block gw (World.rowIs.lt hw))
theorem ofN_snoc (l : List Nat) (k : Nat) : ofN (l ++ [k]) = ofN l ++ [((k : Nat) : Int)] := by simp [ofN]
theorem nsp_snoc (t : Tk) (l : List Nat) (i : Nat) : nsp t (l ++ [i]) = nsp t l ++ [⟨((t.at_ i : Nat) : Int), ((t.at_ (i + 1) : Nat) : Int)⟩] := by simp [nsp]
theorem way_is (way : Ben.Way) (v : Nat) {q : Bool} (h : q = (way v).isSome) : if q = true then ¬ wayF way v = -1 else wayF way v = -1 ∧ wayT way v = -1 := by
  subst h
  unfold wayF wayT
  cases way v with
  | none => simp
  | some p => simp
def refR.T7 : Bool × List (List Nat × List Nat) := (true, [([], []), ([], []), ([], []), ([1, 2], [1, 2]), ([0, 3], [0, 3]), ([4], [4]), ([], []), ([5, 6], [5, 6])])
def refR.B7 : List Nat := [0, 0, 0, 6, 15, 31, 0, 127]
theorem refR.tab7 : rtab .any (opsOf Tryd.f49 7) = refR.T7 := by kernel_rfl
theorem refR.bits7 : waitsOk refR.T7.2 refR.B7 = true := by kernel_rfl
def refR.T13 : Bool × List (List Nat × List Nat) := (true, [([], []), ([], []), ([], []), ([1, 2], [1, 2]), ([0, 3], [0, 3]), ([4], [4]), ([], []), ([5, 6], [5, 6])])
def refR.B13 : List Nat := [0, 0, 0, 6, 15, 31, 0, 127]
theorem refR.tab13 : rtab .any (opsOf Tryd.f49 13) = refR.T13 := by kernel_rfl
theorem refR.bits13 : waitsOk refR.T13.2 refR.B13 = true := by kernel_rfl
set_option maxHeartbeats 16000000 in
set_option maxRecDepth 100000 in
theorem refusal_calls (B0 p x b g base n : Nat) (B : Int) (A : Option Addr) (c : Nat) (js : List S40) (AP : Option Addr) (cp : Nat) (wk : Int) (w : World) (ht : TaskOk B js) (hP : Prb B0 w p x b g base n B A c js AP cp wk ⟨(Ben.flowF (tk B js)).2, (Ben.netF (tk B js)).next⟩) (hno : None_ w) :
    Calls Tryd.prog 49 #[.pointer (some ⟨p, 0, none⟩)] w fun e w' => ∃ v1 v2, e = .returned (.tuple #[v1, v2]) ∧ Kd.R (Kd.int .i64) 3 w' w.heap.size (fun _ => True) v1 (ofN (chosen (nearJ (tk B js)) js.length)) ∧ Kd.R k34 34 w' w.heap.size (fun _ => True) v2 (nsp (tk B js) (chosen (nearP (tk B js)) (tk B js).K)) ∧ Below w.heap.size w w' := by
  have HT := Aside0.mk ht
  have HP := Aside0.mk hP
  have HO := Aside0.mk hno
  have HB := Aside0.mk (Below.refl w.heap.size w)
  obtain ⟨hp0, hp1, hp2, hp3, _, _⟩ := hP.pb.at
  have hfit := ht.fit (n := 0) (by omega)
  have HWY := Aside0.mk (ways_calls base x b g _ n _ 0 w hP.net (by omega) hfit.hN hfit.adj hfit.len hno)
  obtain ⟨way, hway⟩ : ∃ way, way = Ben.nearF (tk B js) := ⟨_, rfl⟩
  have HWA := Aside0.mk hway
  have hw2 : Ben.waysF ((tk B js).last + 1) (Ben.flowF (tk B js)).2 (Ben.netF (tk B js)).next 0 = way := by rw [hway]; rfl
  rw [show (⟨(Ben.flowF (tk B js)).2, (Ben.netF (tk B js)).next⟩ : St).R = (Ben.flowF (tk B js)).2 from rfl, show (⟨(Ben.flowF (tk B js)).2, (Ben.netF (tk B js)).next⟩ : St).next = (Ben.netF (tk B js)).next from rfl, hw2] at HWY
  obtain ⟨Kn, hK⟩ : ∃ Kn, Kn = (tk B js).K := ⟨_, rfl⟩
  have HK := Aside0.mk hK
  obtain ⟨N, hN⟩ : ∃ N, N = (tk B js).last + 1 := ⟨_, rfl⟩
  have HNN := Aside0.mk (show N = 2 + js.length + Kn by rw [hN, hK]; show 1 + js.length + (tk B js).K + 1 = _; omega)
  rw [← hN] at HWY
  rw [← hK] at hp3
  have HJ := Aside0.mk (fun k => show nearJ (tk B js) k = (way (1 + k)).isSome by rw [hway]; rfl)
  have HQ := Aside0.mk (fun i => show nearP (tk B js) i = (way (1 + js.length + i)).isSome by rw [hway]; rfl)
  have HM1 := Aside0.mk (show js.length ≤ 32 ∧ Kn ≤ 63 by rw [hK]; exact ⟨ht.m, ht.K⟩)
  have HPB := Aside0.mk hP.pb
  obtain ⟨wS, hCS, hBS, hpS, _⟩ := hP.cut
  rw [← hK] at hCS
  have HCS := Aside0.mk hCS
  have HBS := Aside0.mk hBS
  have hmI : ((js.length : Nat) : Int) ≤ 32 := by have := ht.m; omega
  have hKI : ((Kn : Nat) : Int) ≤ 63 := by have := ht.K; omega
  have hNI : ((N : Nat) : Int) ≤ 100 := by have := HNN.out; omega
  have hu55 := Tryd.underlying55
  have hu79 := Tryd.underlying79
  have hu97 := Tryd.underlying97
  have hu106 := Tryd.underlying106
  clear hfit hway hw2 hK hN ht hP hno hCS hBS hpS hp0
  have HL0 : Aside0 (Kd.R (Kd.int .i64) 3 w w.heap.size (fun _ => True) (.slice none 0 0) (ofN (chosen (nearJ (tk B js)) 0))) := ⟨Kd.R_nil _ _ _ _ _⟩
  have HD0 : Aside0 (Kd.R k34 34 w w.heap.size (fun _ => True) (.slice none 0 0) (nsp (tk B js) (chosen (nearP (tk B js)) 0))) := ⟨Kd.R_nil _ _ _ _ _⟩
  go_enter Tryd.func49, Tryd.ntmps49
  go_wp2_with (first | (go_at_call 69; go_must (refine HWY.out.mono ?_); rintro e w1 ⟨gw, rfl, hgw, hwr, hb1⟩; have HWR := Aside0.mk hwr; have HB1 := Aside0.mk hb1; have HO1 := Aside0.mk (HO.out.below hb1); have HL1 := Aside0.mk (Kd.R_below HL0.out hb1); have HD1 := Aside0.mk (Kd.R_below HD0.out hb1); have hp1 := cB hb1 hp1; have HWT := Aside0.mk hb1; clear hgw hwr hb1))
  clear HWY HL0 HD0 HB
  go_loopw [5, 21] (fun v5 v21 wr => ∃ k : Nat, v21 = .int .i64 (k : Int) ∧ Aside0 (k ≤ js.length) ∧ Aside0 (Kd.R (Kd.int .i64) 3 wr w.heap.size (fun _ => True) v5 (ofN (chosen (nearJ (tk B js)) k))) ∧ Aside0 (WayR wr gw N way) ∧ Aside0 (Below w.heap.size w wr)) (fun _ v21 _ => js.length - (intOf v21).toNat)
  case atStart => exact ⟨0, rfl, ⟨Nat.zero_le _⟩, HL1, HWR, HB1⟩
  case round =>
    obtain ⟨k, rfl, HKL, HLk, HWk, HBk⟩ := hrel
    clear HL1 HWR HB1 hp1
    by_cases hlt : k < js.length
    · have hltI : ((k : Nat) : Int) < ((js.length : Nat) : Int) := by omega
      obtain ⟨jn, hjn⟩ : ∃ jn, jn = 1 + k := ⟨_, rfl⟩
      have HJN := Aside0.mk hjn
      have hjl : jn < N := by have := HNN.out; omega
      have hjlI : ((jn : Nat) : Int) < ((N : Nat) : Int) := by omega
      have HJL := Aside0.mk hjl
      have HKB := Aside0.mk (show k ≤ 10000 by omega)
      have HCL := Aside0.mk (show (chosen (nearJ (tk B js)) k).length ≤ 1000 by have := chosen_len (nearJ (tk B js)) k; omega)
      have HBD := Aside0.mk (below_drew HBk.out)
      have HLD := Aside0.mk (Kd.R_drew HLk.out)
      have HWD := Aside0.mk (way_below HWk.out (below_drew (Below.refl _ _)))
      obtain ⟨hy0, hy1, _, _⟩ := HWD.out.at hjl
      obtain ⟨hn0, hn1⟩ := HO.out.below HBD.out
      have hnj := way_is way jn (show nearJ (tk B js) k = _ by rw [HJ.out k, ← hjn])
      generalize wayF way jn = ya at *
      generalize wayT way jn = yb at *
      clear hjn hjl HLk HWk HBk
      cases hne : nearJ (tk B js) k with
      | true =>
        rw [hne, if_pos rfl] at hnj
        go_wp2
        refine start_ (n := 8) (S := fun w' => w'.cell? ⟨gw, jn * 2, none⟩ = some (.int .i64 ya) ∧ w'.cell? ⟨gw, jn * 2 + 1, none⟩ = some (.int .i64 yb) ∧ w'.cell? ⟨0, 0, none⟩ = some (.int .i64 (-1)) ∧ w'.cell? ⟨0, 1, none⟩ = some (.int .i64 (-1))) (ds := []) (Bs 0 8) (by kernel_rfl) rfl rfl ⟨hy0, hy1, hn0, hn1⟩ (fun hHeld => ?_)
        generalize wr.drew = w5 at HBD HLD HWD hy0 hy1 hn0 hn1 hHeld ⊢
        refine with_tabW refR.tab7 refR.bits7 (fun HT_ HW_ => ?_)
        refine pu 0 24 (Bs 1 8) HT_ ?_
        refine pu 1 25 (Bs 2 8) HT_ ?_
        refine pu 2 26 (Bs 3 8) HT_ ?_
        refine ta 6 30 (Br [3,3,1,1]) HT_ HW_ hHeld ?_
        refine one_ (i := 3) (N := some 27) (Br [4,2,1,1]) rfl rfl (one_of HT_.out (by kernel_rfl)) (by decide) (fun K hK => ?_)
        refine goes_ Tryd.func60 (by kernel_rfl) rfl #[.pointer (some ⟨p, 0, none⟩), .int .i64 ((k : Nat) : Int)] (by rfl) rfl rfl (by (try simp only [List.map_toArray, List.map_cons, List.map_nil]); first | done | rfl) ?_
        refine (job_l HKB.out HJN.out _).mono ?_
        rintro e w7 ⟨rfl, hb7⟩
        have HB7 := Aside0.mk (below_step HBD.out hb7)
        have HL7 := Aside0.mk (Kd.R_below HLD.out hb7)
        have HW7 := Aside0.mk (way_below HWD.out hb7)
        refine ⟨_, rfl, ?_⟩
        refine hK.out _ _ ⟨cB hb7 hy0, cB hb7 hy1, cB hb7 hn0, cB hb7 hn1⟩ (fun hHeld => ?_)
        clear hK K
        refine nm 27 ?_
        refine pu 4 28 (Br [5,1,1,1]) HT_ ?_
        refine ta 5 29 (Bs 7 8) HT_ HW_ hHeld ?_
        refine pu 7 31 (Bs 8 8) HT_ ?_
        refine done_ (done_of HT_.out (by kernel_rfl)) ?_
        clear hy0 hy1 hn0 hn1 hHeld
        go_wp2_with (first | ((with_reducible refine gate_builtin (b := .append) (xs := #[.tmp 32, .tmp 34]) rfl ?_); at_builtin; refine Kd.R_append (Kd.int .i64) (w0 := w) w.heap.size rfl (.tmp 32) (.tmp 34) 43 3 (.int .i64 0) 8 rfl Tryd.underlying43 info3 rfl (by decide) (by omega) _ (ofN (chosen (nearJ (tk B js)) k)) ((k : Nat) : Int) [.int .i64 ((k : Nat) : Int)] (fun _ => True) (fun _ => False) rfl rfl ?aP (fun _ hk => hk.elim) ?aF ?aO ?aB ?aS ?aL ?_; (case aP => exact rfl); (case aB => exact HB7.out); (case aF => exact (fun _ _ => trivial)); (case aO => exact HL7.out); (case aS => exact HB7.out.size); (case aL => have := HCL.out; rw [ofN_len]; omega); intro v8 w8 ho8 hb8 hg8 hat8; have HL8 := Aside0.mk ho8; have HB8 := Aside0.mk hb8; have HW8 := Aside0.mk (way_over (by decide) HL7.out HW7.out hg8); clear ho8 hb8 hg8 hat8))
        go_roundw
        case rel => exact ⟨k + 1, by go_num, ⟨by omega⟩, ⟨by rw [chosen_yes hne, ofN_snoc]; exact HL8.out⟩, HW8, HB8⟩
        case measure => simp [intOf]; omega
      | false =>
        rw [hne, if_neg (by decide)] at hnj
        obtain ⟨hna, hnb⟩ := hnj
        go_wp2
        refine start_ (n := 8) (S := fun w' => w'.cell? ⟨gw, jn * 2, none⟩ = some (.int .i64 ya) ∧ w'.cell? ⟨gw, jn * 2 + 1, none⟩ = some (.int .i64 yb) ∧ w'.cell? ⟨0, 0, none⟩ = some (.int .i64 (-1)) ∧ w'.cell? ⟨0, 1, none⟩ = some (.int .i64 (-1))) (ds := []) (Bs 0 8) (by kernel_rfl) rfl rfl ⟨hy0, hy1, hn0, hn1⟩ (fun hHeld => ?_)
        generalize wr.drew = w5 at HBD HLD HWD hy0 hy1 hn0 hn1 hHeld ⊢
        refine with_tabW refR.tab7 refR.bits7 (fun HT_ HW_ => ?_)
        refine pu 0 24 (Bs 1 8) HT_ ?_
        refine pu 1 25 (Bs 2 8) HT_ ?_
        refine pu 2 26 (Bs 3 8) HT_ ?_
        refine ta 6 30 (Br [3,3,1,1]) HT_ HW_ hHeld ?_
        refine one_ (i := 3) (N := some 27) (Br [4,2,1,1]) rfl rfl (one_of HT_.out (by kernel_rfl)) (by decide) (fun K hK => ?_)
        refine goes_ Tryd.func60 (by kernel_rfl) rfl #[.pointer (some ⟨p, 0, none⟩), .int .i64 ((k : Nat) : Int)] (by rfl) rfl rfl (by (try simp only [List.map_toArray, List.map_cons, List.map_nil]); first | done | rfl) ?_
        refine (job_l HKB.out HJN.out _).mono ?_
        rintro e w7 ⟨rfl, hb7⟩
        have HB7 := Aside0.mk (below_step HBD.out hb7)
        have HL7 := Aside0.mk (Kd.R_below HLD.out hb7)
        have HW7 := Aside0.mk (way_below HWD.out hb7)
        refine ⟨_, rfl, ?_⟩
        refine hK.out _ _ ⟨cB hb7 hy0, cB hb7 hy1, cB hb7 hn0, cB hb7 hn1⟩ (fun hHeld => ?_)
        clear hK K
        refine nm 27 ?_
        refine pu 4 28 (Br [5,1,1,1]) HT_ ?_
        refine ta 5 29 (Bs 7 8) HT_ HW_ hHeld ?_
        refine pu 7 31 (Bs 8 8) HT_ ?_
        refine done_ (done_of HT_.out (by kernel_rfl)) ?_
        clear hy0 hy1 hn0 hn1 hHeld
        go_wp2
        go_roundw
        case rel => exact ⟨k + 1, by go_num, ⟨by omega⟩, ⟨by rw [chosen_no hne]; exact HL7.out⟩, HW7, HB7⟩
        case measure => simp [intOf]; omega
    · have hge : ¬ ((k : Nat) : Int) < ((js.length : Nat) : Int) := by omega
      have hkm : k = js.length := by have := HKL.out; omega
      rw [hkm] at HLk
      have hp3 := cB HBk.out hp3
      have HD0 : Aside0 (Kd.R k34 34 wr w.heap.size (fun _ => True) (.slice none 0 0) (nsp (tk B js) (chosen (nearP (tk B js)) 0))) := ⟨Kd.R_nil _ _ _ _ _⟩
      clear HD1
      go_wp2
      go_loopw [6, 42] (fun v6 v42 wr => ∃ i : Nat, v42 = .int .i64 (i : Int) ∧ Aside0 (i ≤ Kn) ∧ Aside0 (Kd.R (Kd.int .i64) 3 wr w.heap.size (fun _ => True) u5 (ofN (chosen (nearJ (tk B js)) js.length))) ∧ Aside0 (Kd.R k34 34 wr w.heap.size (fun _ => True) v6 (nsp (tk B js) (chosen (nearP (tk B js)) i))) ∧ Aside0 (WayR wr gw N way) ∧ Aside0 (Below w.heap.size w wr)) (fun _ v42 _ => Kn - (intOf v42).toNat)
      case atStart => exact ⟨0, rfl, ⟨Nat.zero_le _⟩, HLk, HD0, HWk, HBk⟩
      case round =>
        obtain ⟨i, rfl, HIL, HLi, HDi, HWi, HBi⟩ := hrel
        clear HLk HD0 HWk HBk hp3
        by_cases hit : i < Kn
        · have hitI : ((i : Nat) : Int) < ((Kn : Nat) : Int) := by omega
          obtain ⟨ad2, rfl, hs0, hs1⟩ := span_at HCS.out (HBS.out.trans (HBi.out.mono HBS.out.size)) HT.out HK.out hit
          have HNS : Aside0 (nsp (tk B js) (chosen (nearP (tk B js)) i ++ [i]) = nsp (tk B js) (chosen (nearP (tk B js)) i) ++ [⟨(((tk B js).at_ i : Nat) : Int), (((tk B js).at_ (i + 1) : Nat) : Int)⟩]) := ⟨nsp_snoc _ _ _⟩
          generalize (tk B js).at_ i = fr at *
          generalize (tk B js).at_ (i + 1) = tt at *
          obtain ⟨pn, hpn⟩ : ∃ pn, pn = 1 + js.length + i := ⟨_, rfl⟩
          have HPN := Aside0.mk hpn
          have hjl : pn < N := by have := HNN.out; omega
          have hjlI : ((pn : Nat) : Int) < ((N : Nat) : Int) := by omega
          have HIB := Aside0.mk (show i ≤ 10000 by omega)
          have HM2 := Aside0.mk (show js.length ≤ 10000 by omega)
          have HCL := Aside0.mk (show (chosen (nearP (tk B js)) i).length ≤ 1000 by have := chosen_len (nearP (tk B js)) i; omega)
          have hnj0 := way_is way pn (show nearP (tk B js) i = _ by rw [HQ.out i, ← hpn])
          have HNJ := Aside0.mk hnj0
          clear hpn hnj0
          go_wp2_with (first | ((with_reducible refine gate_dst (N := 9) rfl ?_); refine bxe 9 #[.int .i64 0, .int .i64 0] 97 ?_; intro gs hggs w3 hbox3 hb3; have HX3 := Aside0.mk hbox3; have HG3 := Aside0.mk (show wr.heap.size ≤ gs by rw [hggs]; exact Nat.le_refl _); have HBr := Aside0.mk hb3; have c0 : w3.cell? ⟨gs, 0, none⟩ = some (.int .i64 0) := (blk_cell HX3.out 0).trans rfl; have f0 := blk_frozen HX3.out 0; have c1 : w3.cell? ⟨gs, 1, none⟩ = some (.int .i64 0) := (blk_cell HX3.out 1).trans rfl; have f1 := blk_frozen HX3.out 1; clear hggs hbox3 hb3))
          have HS4 : Aside0 (((w3.setCell ⟨gs, 0, none⟩ (.int .i64 ((fr : Nat) : Int))).setCell ⟨gs, 1, none⟩ (.int .i64 ((tt : Nat) : Int))).heap[gs]? = some (.cells #[.int .i64 ((fr : Nat) : Int), .int .i64 ((tt : Nat) : Int)] 97 (0, 0))) := ⟨blk_put (cs := #[.int .i64 ((fr : Nat) : Int), .int .i64 0]) (blk_put (cs := #[.int .i64 0, .int .i64 0]) HX3.out 0 _ rfl) 1 _ rfl⟩
          have HBr4 : Aside0 (Below wr.heap.size wr ((w3.setCell ⟨gs, 0, none⟩ (.int .i64 ((fr : Nat) : Int))).setCell ⟨gs, 1, none⟩ (.int .i64 ((tt : Nat) : Int)))) := ⟨Below.setCell (Below.setCell HBr.out HG3.out _) HG3.out _⟩
          clear c0 c1 f0 f1 hs0 hs1
          generalize ((w3.setCell ⟨gs, 0, none⟩ (.int .i64 ((fr : Nat) : Int))).setCell ⟨gs, 1, none⟩ (.int .i64 ((tt : Nat) : Int))) = w4 at HS4 HBr4 ⊢
          have HBD := Aside0.mk (below_drew (below_step HBi.out HBr4.out))
          have HLD := Aside0.mk (Kd.R_drew (Kd.R_below HLi.out HBr4.out))
          have HDD := Aside0.mk (Kd.R_drew (Kd.R_below HDi.out HBr4.out))
          have HWD := Aside0.mk (way_below (way_below HWi.out HBr4.out) (below_drew (Below.refl _ _)))
          have HSD := Aside0.mk (kD HS4.out)
          obtain ⟨hy0, hy1, _, _⟩ := HWD.out.at hjl
          obtain ⟨hn0, hn1⟩ := HO.out.below HBD.out
          have hnj := HNJ.out
          generalize wayF way pn = ya at *
          generalize wayT way pn = yb at *
          clear hjl HLi HDi HWi HBi HX3 HG3 HBr HBr4 HS4 HNJ
          cases hne : nearP (tk B js) i with
          | true =>
            rw [hne, if_pos rfl] at hnj
            refine start_ (n := 8) (S := fun w' => w'.cell? ⟨gw, pn * 2, none⟩ = some (.int .i64 ya) ∧ w'.cell? ⟨gw, pn * 2 + 1, none⟩ = some (.int .i64 yb) ∧ w'.cell? ⟨0, 0, none⟩ = some (.int .i64 (-1)) ∧ w'.cell? ⟨0, 1, none⟩ = some (.int .i64 (-1))) (ds := []) (Bs 0 8) (by kernel_rfl) rfl rfl ⟨hy0, hy1, hn0, hn1⟩ (fun hHeld => ?_)
            generalize w4.drew = w5 at HBD HLD HDD HWD HSD hy0 hy1 hn0 hn1 hHeld ⊢
            refine with_tabW refR.tab13 refR.bits13 (fun HT_ HW_ => ?_)
            refine pu 0 47 (Bs 1 8) HT_ ?_
            refine pu 1 48 (Bs 2 8) HT_ ?_
            refine pu 2 49 (Bs 3 8) HT_ ?_
            refine ta 6 53 (Br [3,3,1,1]) HT_ HW_ hHeld ?_
            refine one_ (i := 3) (N := some 50) (Br [4,2,1,1]) rfl rfl (one_of HT_.out (by kernel_rfl)) (by decide) (fun K hK => ?_)
            refine goes_ Tryd.func61 (by kernel_rfl) rfl #[.pointer (some ⟨p, 0, none⟩), .int .i64 ((i : Nat) : Int)] (by rfl) rfl rfl (by (try simp only [List.map_toArray, List.map_cons, List.map_nil]); first | done | rfl) ?_
            refine (part_l HIB.out HM2.out HPN.out (HPB.out.below HBD.out HPB.out.lt)).mono ?_
            rintro e w7 ⟨rfl, hb7⟩
            have HB7 := Aside0.mk (below_step HBD.out hb7)
            have HL7 := Aside0.mk (Kd.R_below HLD.out hb7)
            have HW7 := Aside0.mk (way_below HWD.out hb7)
            have HD7 := Aside0.mk (Kd.R_below HDD.out hb7)
            have HS7 := Aside0.mk ((hb7.block _ (blk_lt HSD.out)).trans HSD.out)
            refine ⟨_, rfl, ?_⟩
            refine hK.out _ _ ⟨cB hb7 hy0, cB hb7 hy1, cB hb7 hn0, cB hb7 hn1⟩ (fun hHeld => ?_)
            clear hK K
            refine nm 50 ?_
            refine pu 4 51 (Br [5,1,1,1]) HT_ ?_
            refine ta 5 52 (Bs 7 8) HT_ HW_ hHeld ?_
            refine pu 7 54 (Bs 8 8) HT_ ?_
            refine done_ (done_of HT_.out (by kernel_rfl)) ?_
            have hs0 : w7.cell? ⟨gs, 0, none⟩ = some (.int .i64 ((fr : Nat) : Int)) := (blk_cell HS7.out 0).trans rfl
            have hs1 : w7.cell? ⟨gs, 1, none⟩ = some (.int .i64 ((tt : Nat) : Int)) := (blk_cell HS7.out 1).trans rfl
            clear hy0 hy1 hn0 hn1 hHeld
            go_wp2_with (first | ((with_reducible refine gate_builtin (b := .append) (xs := #[.tmp 55, .tmp 61]) rfl ?_); at_builtin; refine Kd.R_append k34 (w0 := w) w.heap.size rfl (.tmp 55) (.tmp 61) 44 34 (.agg #[(.int .i64 0), (.int .i64 0)]) 16 rfl Tryd.underlying44 info34 rfl (by decide) (by omega) _ (nsp (tk B js) (chosen (nearP (tk B js)) i)) ⟨((fr : Nat) : Int), ((tt : Nat) : Int)⟩ [.int .i64 ((fr : Nat) : Int), .int .i64 ((tt : Nat) : Int)] (fun _ => True) (fun _ => False) rfl rfl ?aP (fun _ hk => hk.elim) ?aF ?aO ?aB ?aS ?aL ?_; (case aP => exact k34_mkM _ _ _ _); (case aB => exact HB7.out); (case aF => exact (fun _ _ => trivial)); (case aO => exact HD7.out); (case aS => exact HB7.out.size); (case aL => have := HCL.out; unfold nsp; rw [List.length_map]; omega); intro v8 w8 ho8 hb8 hg8 hat8; have HD8 := Aside0.mk ho8; have HB8 := Aside0.mk hb8; have HW8 := Aside0.mk (way_over (by decide) HD7.out HW7.out hg8); have HL8 := Aside0.mk (Kd.R_over HL7.out HD7.out (by decide) hg8); clear ho8 hb8 hg8 hat8))
            go_roundw
            case rel => exact ⟨i + 1, by go_num, ⟨by omega⟩, HL8, ⟨by rw [chosen_yes hne, HNS.out]; exact HD8.out⟩, HW8, HB8⟩
            case measure => simp [intOf]; omega
          | false =>
            rw [hne, if_neg (by decide)] at hnj
            obtain ⟨hna, hnb⟩ := hnj
            refine start_ (n := 8) (S := fun w' => w'.cell? ⟨gw, pn * 2, none⟩ = some (.int .i64 ya) ∧ w'.cell? ⟨gw, pn * 2 + 1, none⟩ = some (.int .i64 yb) ∧ w'.cell? ⟨0, 0, none⟩ = some (.int .i64 (-1)) ∧ w'.cell? ⟨0, 1, none⟩ = some (.int .i64 (-1))) (ds := []) (Bs 0 8) (by kernel_rfl) rfl rfl ⟨hy0, hy1, hn0, hn1⟩ (fun hHeld => ?_)
            generalize w4.drew = w5 at HBD HLD HDD HWD HSD hy0 hy1 hn0 hn1 hHeld ⊢
            refine with_tabW refR.tab13 refR.bits13 (fun HT_ HW_ => ?_)
            refine pu 0 47 (Bs 1 8) HT_ ?_
            refine pu 1 48 (Bs 2 8) HT_ ?_
            refine pu 2 49 (Bs 3 8) HT_ ?_
            refine ta 6 53 (Br [3,3,1,1]) HT_ HW_ hHeld ?_
            refine one_ (i := 3) (N := some 50) (Br [4,2,1,1]) rfl rfl (one_of HT_.out (by kernel_rfl)) (by decide) (fun K hK => ?_)
            refine goes_ Tryd.func61 (by kernel_rfl) rfl #[.pointer (some ⟨p, 0, none⟩), .int .i64 ((i : Nat) : Int)] (by rfl) rfl rfl (by (try simp only [List.map_toArray, List.map_cons, List.map_nil]); first | done | rfl) ?_
            refine (part_l HIB.out HM2.out HPN.out (HPB.out.below HBD.out HPB.out.lt)).mono ?_
            rintro e w7 ⟨rfl, hb7⟩
            have HB7 := Aside0.mk (below_step HBD.out hb7)
            have HL7 := Aside0.mk (Kd.R_below HLD.out hb7)
            have HW7 := Aside0.mk (way_below HWD.out hb7)
            have HD7 := Aside0.mk (Kd.R_below HDD.out hb7)
            have HS7 := Aside0.mk ((hb7.block _ (blk_lt HSD.out)).trans HSD.out)
            refine ⟨_, rfl, ?_⟩
            refine hK.out _ _ ⟨cB hb7 hy0, cB hb7 hy1, cB hb7 hn0, cB hb7 hn1⟩ (fun hHeld => ?_)
            clear hK K
            refine nm 50 ?_
            refine pu 4 51 (Br [5,1,1,1]) HT_ ?_
            refine ta 5 52 (Bs 7 8) HT_ HW_ hHeld ?_
            refine pu 7 54 (Bs 8 8) HT_ ?_
            refine done_ (done_of HT_.out (by kernel_rfl)) ?_
            clear hy0 hy1 hn0 hn1 hHeld
            go_wp2
            go_roundw
            case rel => exact ⟨i + 1, by go_num, ⟨by omega⟩, HL7, ⟨by rw [chosen_no hne]; exact HD7.out⟩, HW7, HB7⟩
            case measure => simp [intOf]; omega
        · have hge : ¬ ((i : Nat) : Int) < ((Kn : Nat) : Int) := by omega
          have HIK := Aside0.mk (show (tk B js).K = i by rw [← HK.out]; have := HIL.out; omega)
          go_wp2
          go_ret2
          exact ⟨_, _, rfl, HLi.out, by rw [HIK.out]; exact HDi.out, HBi.out⟩
end Go.Proofs.YtmnhcbaocoofoaaDoor.P
namespace Go.Proofs.YtmnhcbaocoofoaaDoor.P
open Go.RowKit YtmnhcbaocoofoaaDoorW.PrintWords YtmnhcbaocoofoaaDoorW.PrintLast YtmnhcbaocoofoaaDoorW.PrintMore
open Go.Proofs.YtmnhcbaocoofoaaDoor.Ben (Rm putR addF Tk St)
theorem R_set {α : Type} {d : Kd α} {e base : Nat} {ok : Nat → Prop} {w : World} {v : Value} {xs : List α} (hM : ∀ ok' w1 x cs, d.M w base ok' x cs → d.M w1 base ok' x cs) (h : d.R e w base ok v xs) {g : Nat} (hg : g < base) (o : Nat) (u : Value) : d.R e (w.setCell ⟨g, o, none⟩ u) base ok v xs := by
  obtain ⟨h0, inner, ho, hr⟩ := h
  exact ⟨h0, inner, own_move ho (fun k e1 => Below.heap_setCell _ _ _ k (by have := (ho.lt k e1).1; show k ≠ g; omega)), hr.imp_ (fun _ _ hp => hM _ _ _ _ hp)⟩
theorem M50 {w : World} {base : Nat} (ok : Nat → Prop) (w1 : World) (x : S50) (cs : List Value) (h : k50.M w base ok x cs) : k50.M w1 base ok x cs := by obtain rfl := k50_openM h; exact k50_mkM _ _ _ _
theorem M34 {w : World} {base : Nat} (ok : Nat → Prop) (w1 : World) (x : S34) (cs : List Value) (h : k34.M w base ok x cs) : k34.M w1 base ok x cs := by obtain rfl := k34_openM h; exact k34_mkM _ _ _ _
theorem M3 {w : World} {base : Nat} (ok : Nat → Prop) (w1 : World) (x : Int) (cs : List Value) (h : (Kd.int .i64).M w base ok x cs) : (Kd.int .i64).M w1 base ok x cs := h
def planA (B : Int) (js : List S40) : Bool × List S50 × List Int × List S34 :=
  if Ben.canW B js.length (gJ js) = true then (true, (Ben.planS B js.length (gJ js)).map sl50, [], []) else (false, [], ofN (Ben.chosen (Ben.nearJ (tk B js)) js.length), nsp (tk B js) (Ben.chosen (Ben.nearP (tk B js)) (tk B js).K))
open Classical in
noncomputable def bench_task_plan.f (a0_0 : Int) (l0_1 : List S40) : Option (Bool × List S50 × List Int × List S34) := if TaskOk a0_0 l0_1 then some (planA a0_0 l0_1) else none
def possR34.T2 : Bool × List (List Nat × List Nat) := (true, [([], []), ([0], [0]), ([1], [1]), ([2], [2]), ([], []), ([4], [4]), ([3, 5, 5], [3, 5]), ([], []), ([7], [7]), ([8], [8]), ([9], [9]), ([6, 10], [6, 10])])
def possR34.B2 : List Nat := [0, 1, 3, 7, 0, 16, 63, 0, 128, 384, 896, 2047]
theorem possR34.tab2 : rtab .any (opsOf Tryd.f34 2) = possR34.T2 := by kernel_rfl
theorem possR34.bits2 : waitsOk possR34.T2.2 possR34.B2 = true := by kernel_rfl
set_option maxHeartbeats 16000000 in
set_option maxRecDepth 100000 in
theorem bench_task_plan.calls (a0_0 : Int) (A0_1 : Option Addr) (c0_1 : Nat) (l0_1 : List S40) (r1 : Bool) (r2 : List S50) (r3 : List Int) (r4 : List S34) (w : World) (hno : None_ w) (hr0_1 : Kd.C k40 w A0_1 l0_1.length l0_1) (hc0_1 : l0_1.length ≤ c0_1) (h : bench_task_plan.f a0_0 l0_1 = some (r1, r2, r3, r4)) :
    Calls Tryd.prog 34 #[.agg #[.int .i64 a0_0, .slice A0_1 l0_1.length c0_1]] w fun e w' => ∃ v1 v2 v3, e = .returned (.agg #[.bool r1, v1, v2, v3]) ∧ Kd.R k50 50 w' w.heap.size (fun _ => True) v1 r2 ∧ Kd.R (Kd.int .i64) 3 w' w.heap.size (fun _ => True) v2 r3 ∧ Kd.R k34 34 w' w.heap.size (fun _ => True) v3 r4 ∧ Below w.heap.size w w' := by
  unfold bench_task_plan.f at h
  split at h
  case isFalse => exact absurd h (by simp)
  case isTrue ht =>
  have hR := Option.some.inj h
  clear h hc0_1
  generalize a0_0 = B at *
  generalize A0_1 = A at *
  generalize c0_1 = c at *
  generalize l0_1 = js at *
  have HT := Aside0.mk ht
  have HO := Aside0.mk hno
  have HB := Aside0.mk (Below.refl w.heap.size w)
  have HNP := Aside0.mk (fun W (hb : Below w.heap.size w W) => newp_calls B A c js W (Kd.C_below hr0_1 hb) ht)
  have HWA := Aside0.mk ht.wkA
  have HK1 := Aside0.mk (show js.length ≤ 10000 ∧ (tk B js).K ≤ 10000 by have := ht.K; have := ht.m; exact ⟨by omega, by omega⟩)
  have HRR := Aside0.mk hR
  clear hR
  have HCA : Aside0 (Ben.canW B js.length (gJ js) = ((Ben.flowF (tk B js)).1 == wkS js js.length)) := ⟨by unfold Ben.canW; rw [Bool.eq_iff_iff]; simp; rfl⟩
  have hu55 := Tryd.underlying55
  have hu79 := Tryd.underlying79
  clear hno hr0_1 ht
  go_enter Tryd.func34, Tryd.ntmps34
  go_wp2_with (first
    | ((with_reducible refine gate_dst (N := 1) rfl ?_); refine bxe 1 #[.int .i64 B, .slice A js.length c] 55 ?_; intro gt hgt w1 hbox1 hb1; have HX := Aside0.mk hbox1; have HB1 := Aside0.mk (below_step HB.out hb1); clear hgt hbox1 hb1; have hx0 : w1.cell? ⟨gt, 0, none⟩ = some (.int .i64 B) := (blk_cell HX.out 0).trans rfl; have hx1 : w1.cell? ⟨gt, 1, none⟩ = some (.slice A js.length c) := (blk_cell HX.out 1).trans rfl)
    | ((with_reducible refine gate_dst (N := 2) rfl ?_); refine bxe 2 #[.bool false, .slice none 0 0, .slice none 0 0, .slice none 0 0] 46 ?_; intro gr hgr wb hboxr hbr; have HXR := Aside0.mk hboxr; have HGR := Aside0.mk (show w.heap.size ≤ gr by rw [hgr]; exact HB1.out.size); have HB1b := Aside0.mk (below_step HB1.out hbr); have hx0 := cB hbr hx0; have hx1 := cB hbr hx1; clear hgr hboxr hbr)
    | (go_at_call 43; go_must (refine (HNP.out _ HB1b.out).mono ?_); rintro e w2 ⟨p, rfl, hp2, hb2⟩; have HP2 := Aside0.mk hp2; have HB2 := Aside0.mk (below_step HB1b.out hb2); have HXR2 := Aside0.mk ((hb2.block _ (blk_lt HXR.out)).trans HXR.out); have HRW := Aside0.mk (blk_lt HXR.out); clear hp2 hb2))
  obtain ⟨x, b, g, base, n, AP, cp, hn, hP⟩ := HP2.out
  have HNN := Aside0.mk hn
  have HP := Aside0.mk (hP.below (below_drew (Below.refl _ _)))
  have HB3 := Aside0.mk (below_drew HB2.out)
  have HO3 := Aside0.mk (HO.out.below HB3.out)
  have HBP := Aside0.mk (show p < base ∧ 0 < base ∧ w.heap.size ≤ base ∧ gr < base from by
    obtain ⟨wS, _, _, h3, h4⟩ := hP.cut
    have := hP.low
    have := HB1b.out.size
    have := HRW.out
    exact ⟨by omega, by omega, by omega, by omega⟩)
  obtain ⟨L, hL⟩ : ∃ L, L = (tk B js).last := ⟨_, rfl⟩
  have HL := Aside0.mk hL
  have HLL := Aside0.mk (show L = 1 + js.length + (tk B js).K by rw [hL]; rfl)
  obtain ⟨Kn, hK⟩ : ∃ Kn, Kn = (tk B js).K := ⟨_, rfl⟩
  have hpb : Pb w2.drew p B A js.length c (.pointer (some ⟨x, 0, none⟩)) (.slice AP (tk B js).K cp) (wkS js js.length) := HP.out.pb
  have HPB := Aside0.mk hpb
  have hxp := hpb.at.2.2.1
  have hxk := hpb.at.2.2.2.2.1
  clear hn hP hL hK hpb HP2 HX HB1 HB2 HNP hx0 hx1
  have HXD := Aside0.mk (kD HXR2.out)
  have hBe : ((Ben.flowF (tk B js)).1 == wkS js js.length) = Ben.canW B js.length (gJ js) := HCA.out.symm
  have hu46 := Tryd.underlying46
  cases hcw : Ben.canW B js.length (gJ js) with
  | true =>
    rw [hcw] at hBe
    have HFE := Aside0.mk (show (Ben.flowF (tk B js)).1 = Ben.workAll (tk B js) from by have := eq_of_beq hBe; rw [this, HWA.out.1])
    have hR : (r1, r2, r3, r4) = (true, (Ben.planS B js.length (gJ js)).map sl50, [], []) := by rw [← HRR.out]; unfold planA; rw [if_pos hcw]
    clear hcw HRR
    simp only [Prod.mk.injEq] at hR
    obtain ⟨rfl, rfl, rfl, rfl⟩ := hR
    refine start_ (n := 12) (S := fun w' => w'.cell? ⟨p, 2, none⟩ = some (.pointer (some ⟨x, 0, none⟩)) ∧ w'.cell? ⟨p, 4, none⟩ = some (.int .i64 (wkS js js.length))) (ds := []) (Bs 0 12) (by kernel_rfl) rfl rfl ⟨hxp, hxk⟩ (fun hHeld => ?_)
    generalize w2.drew = w4 at HP HB3 HO3 HPB HXD hxp hxk hHeld ⊢
    refine with_tabW possR34.tab2 possR34.bits2 (fun HT_ HW_ => ?_)
    refine pu 0 8 (Bs 1 12) HT_ ?_
    refine pu 1 9 (Bs 2 12) HT_ ?_
    refine pu 2 10 (Bs 3 12) HT_ ?_
    refine pu 4 12 (Br [3,1,1,7]) HT_ ?_
    refine pu 7 15 (Br [3,1,1,2,1,4]) HT_ ?_
    refine pu 8 16 (Br [3,1,1,2,2,3]) HT_ ?_
    refine pu 9 17 (Br [3,1,1,2,3,2]) HT_ ?_
    refine ta 3 11 (Br [5,2,3,2]) HT_ HW_ hHeld ?_
    refine ta 10 18 (Br [5,2,4,1]) HT_ HW_ hHeld ?_
    refine one_ (i := 5) (N := some 13) (Br [6,1,4,1]) rfl rfl (one_of HT_.out (by kernel_rfl)) (by decide) (fun K hK => ?_)
    refine goes_ Tryd.func45 (by kernel_rfl) rfl #[.pointer (some ⟨p, 0, none⟩)] (by rfl) rfl rfl (by (try simp only [List.map_toArray, List.map_cons, List.map_nil]); first | done | rfl) ?_
    refine (last_at HK1.out.1 HK1.out.2 HLL.out HPB.out).mono ?_
    rintro e w5 ⟨rfl, hb5⟩
    have HP5 := Aside0.mk (HP.out.below hb5)
    have HO5 := Aside0.mk (HO3.out.below hb5)
    have HB5 := Aside0.mk (below_step HB3.out hb5)
    have HX5 := Aside0.mk ((hb5.block _ (blk_lt HXD.out)).trans HXD.out)
    refine ⟨_, rfl, ?_⟩
    refine hK.out _ _ ⟨cB hb5 hxp, cB hb5 hxk⟩ (fun hHeld => ?_)
    clear hK K
    refine nm 13 ?_
    refine one_ (i := 6) (N := some 14) (Bs 11 12) rfl rfl (one_of HT_.out (by kernel_rfl)) (by decide) (fun K hK => ?_)
    refine goes_ Tryd.func44 (by kernel_rfl) rfl #[.pointer (some ⟨x, 0, none⟩), .int .i64 0, .int .i64 ((L : Nat) : Int)] (by rfl) rfl rfl (by (try simp only [List.map_toArray, List.map_cons, List.map_nil]); first | done | rfl) ?_
    refine (fill_at HP5.out.net HT.out HNN.out HO5.out HBP.out.2.1 HL.out).mono ?_
    rintro e w7 ⟨rfl, hn7, hb7⟩
    have HP7 := Aside0.mk (HP5.out.step hn7 hb7)
    have HB7 := Aside0.mk (HB5.out.trans (hb7.mono HBP.out.2.2.1))
    have HO7 := Aside0.mk (HO5.out.since hb7 HBP.out.2.1)
    have HX7 := Aside0.mk ((hb7.block _ HBP.out.2.2.2).trans HX5.out)
    clear hn7 hb7
    refine ⟨_, rfl, ?_⟩
    refine hK.out _ _ ⟨HP7.out.pb.at.2.2.1, HP7.out.pb.at.2.2.2.2.1⟩ (fun hHeld => ?_)
    clear hK K
    refine nm 14 ?_
    refine pu 11 19 (Bs 12 12) HT_ ?_
    refine done_ (done_of HT_.out (by kernel_rfl)) ?_
    clear hxp hxk hHeld
    have HSC := Aside0.mk (sched_calls _ p x b g base _ B A c js AP cp _ _ w7 HT.out HP7.out HFE.out)
    have hc0 : w7.cell? ⟨gr, 0, none⟩ = some (.bool false) := (blk_cell HX7.out 0).trans rfl
    obtain ⟨ps, hps⟩ : ∃ ps, ps = (Ben.planS B js.length (gJ js)).map sl50 := ⟨_, rfl⟩
    rw [← hps] at HSC
    have HPS := Aside0.mk hps
    clear hps
    go_wp2_with (first | (go_at_call 48; go_must (refine HSC.out.mono ?_); rintro e w8 ⟨v8, rfl, hr8, hb8⟩; have HX8 := Aside0.mk ((hb8.block _ (blk_lt HX7.out)).trans HX7.out); have HR8 := Aside0.mk hr8; have HB8 := Aside0.mk (below_step HB7.out hb8); have HG7 := Aside0.mk (blk_lt HX7.out); have c0 : w8.cell? ⟨gr, 0, none⟩ = some (.bool false) := (blk_cell HX8.out 0).trans rfl; have c1 : w8.cell? ⟨gr, 1, none⟩ = some (.slice none 0 0) := (blk_cell HX8.out 1).trans rfl; have c2 : w8.cell? ⟨gr, 2, none⟩ = some (.slice none 0 0) := (blk_cell HX8.out 2).trans rfl; have c3 : w8.cell? ⟨gr, 3, none⟩ = some (.slice none 0 0) := (blk_cell HX8.out 3).trans rfl; have f0 := blk_frozen HX8.out 0; have f1 := blk_frozen HX8.out 1; have f2 := blk_frozen HX8.out 2; have f3 := blk_frozen HX8.out 3; obtain ⟨A8, c8, rfl⟩ := Kd.R_slice hr8; clear hr8 hb8))
    have HZ : Aside0 (((((w8.setCell ⟨gr, 0, none⟩ (.bool true)).setCell ⟨gr, 1, none⟩ (.slice A8 ps.length c8)).setCell ⟨gr, 2, none⟩ (.slice none 0 0)).setCell ⟨gr, 3, none⟩ (.slice none 0 0)).heap[gr]? = some (.cells #[.bool true, .slice A8 ps.length c8, .slice none 0 0, .slice none 0 0] 46 (0, 0))) := ⟨(blk_put (cs := #[.bool true, .slice A8 ps.length c8, .slice none 0 0, .slice none 0 0]) (blk_put (cs := #[.bool true, .slice A8 ps.length c8, .slice none 0 0, .slice none 0 0]) (blk_put (cs := #[.bool true, .slice none 0 0, .slice none 0 0, .slice none 0 0]) (blk_put (cs := #[.bool false, .slice none 0 0, .slice none 0 0, .slice none 0 0]) HX8.out 0 _ rfl) 1 _ rfl) 2 _ rfl) 3 _ rfl)⟩
    have HB9 : Aside0 (Below w.heap.size w ((((w8.setCell ⟨gr, 0, none⟩ (.bool true)).setCell ⟨gr, 1, none⟩ (.slice A8 ps.length c8)).setCell ⟨gr, 2, none⟩ (.slice none 0 0)).setCell ⟨gr, 3, none⟩ (.slice none 0 0))) := ⟨Below.setCell (Below.setCell (Below.setCell (Below.setCell HB8.out HGR.out _) HGR.out _) HGR.out _) HGR.out _⟩
    have HR9 := Aside0.mk (Kd.R_lower (R_set M50 (R_set M50 (R_set M50 (R_set M50 HR8.out HG7.out 0 (.bool true)) HG7.out 1 (.slice A8 ps.length c8)) HG7.out 2 (.slice none 0 0)) HG7.out 3 (.slice none 0 0)) HB7.out.size)
    clear c0 c1 c2 c3 f0 f1 f2 f3
    generalize ((((w8.setCell ⟨gr, 0, none⟩ (.bool true)).setCell ⟨gr, 1, none⟩ (.slice A8 ps.length c8)).setCell ⟨gr, 2, none⟩ (.slice none 0 0)).setCell ⟨gr, 3, none⟩ (.slice none 0 0)) = w9 at HZ HB9 HR9 ⊢
    (try simp only [Exit.inBlock, Exit.then])
    refine bodyPost_ret (results_cell_row (fn := Tryd.f34) rfl _ _ gr 46 #[.bool true, .slice A8 ps.length c8, .slice none 0 0, .slice none 0 0] (0, 0) _ rfl HZ.out hu46 rfl (by kernel_rfl)) rfl ?_
    exact ⟨_, _, _, rfl, by rw [← HPS.out]; exact HR9.out, Kd.R_nil _ _ _ _ _, Kd.R_nil _ _ _ _ _, HB9.out⟩
  | false =>
    rw [hcw] at hBe
    have hR : (r1, r2, r3, r4) = (false, [], ofN (Ben.chosen (Ben.nearJ (tk B js)) js.length), nsp (tk B js) (Ben.chosen (Ben.nearP (tk B js)) (tk B js).K)) := by rw [← HRR.out]; unfold planA; rw [if_neg (by rw [hcw]; decide)]
    clear hcw HRR
    simp only [Prod.mk.injEq] at hR
    obtain ⟨rfl, rfl, rfl, rfl⟩ := hR
    refine start_ (n := 12) (S := fun w' => w'.cell? ⟨p, 2, none⟩ = some (.pointer (some ⟨x, 0, none⟩)) ∧ w'.cell? ⟨p, 4, none⟩ = some (.int .i64 (wkS js js.length))) (ds := []) (Bs 0 12) (by kernel_rfl) rfl rfl ⟨hxp, hxk⟩ (fun hHeld => ?_)
    generalize w2.drew = w4 at HP HB3 HO3 HPB HXD hxp hxk hHeld ⊢
    refine with_tabW possR34.tab2 possR34.bits2 (fun HT_ HW_ => ?_)
    refine pu 0 8 (Bs 1 12) HT_ ?_
    refine pu 1 9 (Bs 2 12) HT_ ?_
    refine pu 2 10 (Bs 3 12) HT_ ?_
    refine pu 4 12 (Br [3,1,1,7]) HT_ ?_
    refine pu 7 15 (Br [3,1,1,2,1,4]) HT_ ?_
    refine pu 8 16 (Br [3,1,1,2,2,3]) HT_ ?_
    refine pu 9 17 (Br [3,1,1,2,3,2]) HT_ ?_
    refine ta 3 11 (Br [5,2,3,2]) HT_ HW_ hHeld ?_
    refine ta 10 18 (Br [5,2,4,1]) HT_ HW_ hHeld ?_
    refine one_ (i := 5) (N := some 13) (Br [6,1,4,1]) rfl rfl (one_of HT_.out (by kernel_rfl)) (by decide) (fun K hK => ?_)
    refine goes_ Tryd.func45 (by kernel_rfl) rfl #[.pointer (some ⟨p, 0, none⟩)] (by rfl) rfl rfl (by (try simp only [List.map_toArray, List.map_cons, List.map_nil]); first | done | rfl) ?_
    refine (last_at HK1.out.1 HK1.out.2 HLL.out HPB.out).mono ?_
    rintro e w5 ⟨rfl, hb5⟩
    have HP5 := Aside0.mk (HP.out.below hb5)
    have HO5 := Aside0.mk (HO3.out.below hb5)
    have HB5 := Aside0.mk (below_step HB3.out hb5)
    have HX5 := Aside0.mk ((hb5.block _ (blk_lt HXD.out)).trans HXD.out)
    refine ⟨_, rfl, ?_⟩
    refine hK.out _ _ ⟨cB hb5 hxp, cB hb5 hxk⟩ (fun hHeld => ?_)
    clear hK K
    refine nm 13 ?_
    refine one_ (i := 6) (N := some 14) (Bs 11 12) rfl rfl (one_of HT_.out (by kernel_rfl)) (by decide) (fun K hK => ?_)
    refine goes_ Tryd.func44 (by kernel_rfl) rfl #[.pointer (some ⟨x, 0, none⟩), .int .i64 0, .int .i64 ((L : Nat) : Int)] (by rfl) rfl rfl (by (try simp only [List.map_toArray, List.map_cons, List.map_nil]); first | done | rfl) ?_
    refine (fill_at HP5.out.net HT.out HNN.out HO5.out HBP.out.2.1 HL.out).mono ?_
    rintro e w7 ⟨rfl, hn7, hb7⟩
    have HP7 := Aside0.mk (HP5.out.step hn7 hb7)
    have HB7 := Aside0.mk (HB5.out.trans (hb7.mono HBP.out.2.2.1))
    have HO7 := Aside0.mk (HO5.out.since hb7 HBP.out.2.1)
    have HX7 := Aside0.mk ((hb7.block _ HBP.out.2.2.2).trans HX5.out)
    clear hn7 hb7
    refine ⟨_, rfl, ?_⟩
    refine hK.out _ _ ⟨HP7.out.pb.at.2.2.1, HP7.out.pb.at.2.2.2.2.1⟩ (fun hHeld => ?_)
    clear hK K
    refine nm 14 ?_
    refine pu 11 19 (Bs 12 12) HT_ ?_
    refine done_ (done_of HT_.out (by kernel_rfl)) ?_
    clear hxp hxk hHeld
    have HSC := Aside0.mk (refusal_calls _ p x b g base _ B A c js AP cp _ w7 HT.out HP7.out HO7.out)
    obtain ⟨ps, hps⟩ : ∃ ps, ps = ofN (Ben.chosen (Ben.nearJ (tk B js)) js.length) := ⟨_, rfl⟩
    rw [← hps] at HSC
    have HPS := Aside0.mk hps
    clear hps
    obtain ⟨qs, hqs⟩ : ∃ qs, qs = nsp (tk B js) (Ben.chosen (Ben.nearP (tk B js)) (tk B js).K) := ⟨_, rfl⟩
    rw [← hqs] at HSC
    have HQS := Aside0.mk hqs
    clear hqs
    go_wp2_with (first | (go_at_call 49; go_must (refine HSC.out.mono ?_); rintro e w8 ⟨v8, v9, rfl, hr8, hs8, hb8⟩; have HX8 := Aside0.mk ((hb8.block _ (blk_lt HX7.out)).trans HX7.out); have HR8 := Aside0.mk hr8; have HS8 := Aside0.mk hs8; have HB8 := Aside0.mk (below_step HB7.out hb8); have HG7 := Aside0.mk (blk_lt HX7.out); have c0 : w8.cell? ⟨gr, 0, none⟩ = some (.bool false) := (blk_cell HX8.out 0).trans rfl; have c1 : w8.cell? ⟨gr, 1, none⟩ = some (.slice none 0 0) := (blk_cell HX8.out 1).trans rfl; have c2 : w8.cell? ⟨gr, 2, none⟩ = some (.slice none 0 0) := (blk_cell HX8.out 2).trans rfl; have c3 : w8.cell? ⟨gr, 3, none⟩ = some (.slice none 0 0) := (blk_cell HX8.out 3).trans rfl; have f0 := blk_frozen HX8.out 0; have f1 := blk_frozen HX8.out 1; have f2 := blk_frozen HX8.out 2; have f3 := blk_frozen HX8.out 3; obtain ⟨A8, c8, rfl⟩ := Kd.R_slice hr8; obtain ⟨A9, c9, rfl⟩ := Kd.R_slice hs8; clear hr8 hs8 hb8))
    have HZ : Aside0 (((((w8.setCell ⟨gr, 0, none⟩ (.bool false)).setCell ⟨gr, 1, none⟩ (.slice none 0 0)).setCell ⟨gr, 2, none⟩ (.slice A8 ps.length c8)).setCell ⟨gr, 3, none⟩ (.slice A9 qs.length c9)).heap[gr]? = some (.cells #[.bool false, .slice none 0 0, .slice A8 ps.length c8, .slice A9 qs.length c9] 46 (0, 0))) := ⟨(blk_put (cs := #[.bool false, .slice none 0 0, .slice A8 ps.length c8, .slice none 0 0]) (blk_put (cs := #[.bool false, .slice none 0 0, .slice none 0 0, .slice none 0 0]) (blk_put (cs := #[.bool false, .slice none 0 0, .slice none 0 0, .slice none 0 0]) (blk_put (cs := #[.bool false, .slice none 0 0, .slice none 0 0, .slice none 0 0]) HX8.out 0 _ rfl) 1 _ rfl) 2 _ rfl) 3 _ rfl)⟩
    have HB9 : Aside0 (Below w.heap.size w ((((w8.setCell ⟨gr, 0, none⟩ (.bool false)).setCell ⟨gr, 1, none⟩ (.slice none 0 0)).setCell ⟨gr, 2, none⟩ (.slice A8 ps.length c8)).setCell ⟨gr, 3, none⟩ (.slice A9 qs.length c9))) := ⟨Below.setCell (Below.setCell (Below.setCell (Below.setCell HB8.out HGR.out _) HGR.out _) HGR.out _) HGR.out _⟩
    have HR9 := Aside0.mk (Kd.R_lower (R_set M3 (R_set M3 (R_set M3 (R_set M3 HR8.out HG7.out 0 (.bool false)) HG7.out 1 (.slice none 0 0)) HG7.out 2 (.slice A8 ps.length c8)) HG7.out 3 (.slice A9 qs.length c9)) HB7.out.size)
    have HS9 := Aside0.mk (Kd.R_lower (R_set M34 (R_set M34 (R_set M34 (R_set M34 HS8.out HG7.out 0 (.bool false)) HG7.out 1 (.slice none 0 0)) HG7.out 2 (.slice A8 ps.length c8)) HG7.out 3 (.slice A9 qs.length c9)) HB7.out.size)
    clear c0 c1 c2 c3 f0 f1 f2 f3
    generalize ((((w8.setCell ⟨gr, 0, none⟩ (.bool false)).setCell ⟨gr, 1, none⟩ (.slice none 0 0)).setCell ⟨gr, 2, none⟩ (.slice A8 ps.length c8)).setCell ⟨gr, 3, none⟩ (.slice A9 qs.length c9)) = w9 at HZ HB9 HR9 HS9 ⊢
    (try simp only [Exit.inBlock, Exit.then])
    refine bodyPost_ret (results_cell_row (fn := Tryd.f34) rfl _ _ gr 46 #[.bool false, .slice none 0 0, .slice A8 ps.length c8, .slice A9 qs.length c9] (0, 0) _ rfl HZ.out hu46 rfl (by kernel_rfl)) rfl ?_
    exact ⟨_, _, _, rfl, Kd.R_nil _ _ _ _ _, by rw [← HPS.out]; exact HR9.out, by rw [← HQS.out]; exact HS9.out, HB9.out⟩
end Go.Proofs.YtmnhcbaocoofoaaDoor.P
namespace Go.Proofs.YtmnhcbaocoofoaaDoor.P
open Go.RowKit YtmnhcbaocoofoaaDoorW.PrintWords
open Go.Proofs.YtmnhcbaocoofoaaDoor.Ben (sumN sumL lap Sl SchedL Sched Refused chosen slotSum sumN_congr sumN_add sumN_one sumN_const)
theorem sum_list (f : Nat → Int) : ∀ l : List Nat, sumN (fun i => f (l.getD i 0)) l.length = sumL f l
  | [] => rfl
  | x :: l => by
    have h1 := Ben.sumN_append (fun i => f ((x :: l).getD i 0)) 1 l.length
    rw [List.length_cons, Nat.add_comm l.length 1, h1]
    have e : sumN (fun i => f ((x :: l).getD (1 + i) 0)) l.length = sumN (fun i => f (l.getD i 0)) l.length := sumN_congr fun i _ => by rw [Nat.add_comm 1 i, List.getD_cons_succ]
    rw [e, sum_list f l]
    simp [sumN, sumL]
theorem canB {B : Int} {js : List S40} (h : TaskOk B js) : Ben.canW B js.length (gJ js) = true ↔ ¬ Refused B js.length (gJ js) 1048576 := Ben.canW_iff h.jobs
theorem gS_map (l : List Sl) {q : Nat} (h : q < l.length) : gS (l.map sl50) q = sl50 (l.getD q ⟨0, 0, 0, 0⟩) := by
  unfold gS
  rw [List.getD_eq_getElem?_getD, List.getElem?_map, List.getElem?_eq_getElem h, List.getD_eq_getElem?_getD, List.getElem?_eq_getElem h]; rfl
theorem sch_plan {B : Int} {js : List S40} (ht : TaskOk B js) {l : List Sl} (h : SchedL (tk B js) l) (hl : l.length ≤ 4096) : SchOk B js (l.map sl50) := by
  have hm : ∀ q, q < l.length → l.getD q ⟨0, 0, 0, 0⟩ ∈ l := fun q hq => by
    rw [List.getD_eq_getElem?_getD, List.getElem?_eq_getElem hq]; exact List.getElem_mem hq
  refine ⟨by simpa using hl, fun i hi => ?_, fun k hk => ?_, ?_, ?_⟩
  · rw [List.length_map] at hi
    rw [gS_map l hi]
    obtain ⟨h1, h2, h3, h4, h5⟩ := h.each _ (hm i hi)
    generalize l.getD i ⟨0, 0, 0, 0⟩ = s at *
    rw [tk_m] at h1
    rw [tk_B] at h2
    rw [tk_g] at h4 h5
    rw [slotOk_iff]
    unfold sl50
    simp only [Int.toNat_natCast]
    exact ⟨⟨by omega, by omega⟩, ⟨by omega, by omega⟩, h3, h4, h5⟩
  · have h1 := h.work k hk
    rw [tk_g] at h1
    rw [← h1, Ben.slotSum_get k ⟨0, 0, 0, 0⟩ l, List.length_map]
    unfold doneN
    apply sumN_congr
    intro q hq
    rw [gS_map l hq]
    unfold sl50
    simp only
    by_cases e : (l.getD q ⟨0, 0, 0, 0⟩).job = k
    · rw [if_pos e, if_pos (by rw [e])]
    · rw [if_neg e, if_neg (fun h => e (by omega))]
  · unfold ApartK
    rw [List.pairwise_map]
    refine h.clash.imp fun {a b} hab e => ?_
    exact hab (Or.inl (by unfold sl50 at e; simp only at e; omega))
  · unfold ApartK
    rw [List.pairwise_map]
    refine h.clash.imp fun {a b} hab e => ?_
    exact hab (Or.inr (by unfold sl50 at e; simp only at e; omega))
theorem getD_map {α β : Type} (f : α → β) (l : List α) (d : α) (e : β) {i : Nat} (h : i < l.length) : (l.map f).getD i e = f (l.getD i d) := by
  rw [List.getD_eq_getElem?_getD, List.getElem?_map, List.getElem?_eq_getElem h, List.getD_eq_getElem?_getD, List.getElem?_eq_getElem h]; rfl
theorem chosen_lt (p : Nat → Bool) (n : Nat) {i : Nat} (h : i < (chosen p n).length) : (chosen p n).getD i 0 < n := by
  rw [List.getD_eq_getElem?_getD, List.getElem?_eq_getElem h]
  exact (Ben.mem_chosen.1 (List.getElem_mem h)).1
theorem chosen_asc (p : Nat → Bool) (n : Nat) {i : Nat} (h : i < (chosen p n).length) (h0 : 0 < i) : (chosen p n).getD (i - 1) 0 < (chosen p n).getD i 0 := by
  have := List.pairwise_iff_getElem.1 (Ben.chosen_up p n) (i - 1) i (by omega) h (by omega)
  rw [List.getD_eq_getElem?_getD, List.getElem?_eq_getElem (by omega), List.getD_eq_getElem?_getD, List.getElem?_eq_getElem h]
  exact this
theorem ref_plan {B : Int} {js : List S40} (ht : TaskOk B js) (hc : Ben.canW B js.length (gJ js) = false) : RefOk B js (ofN (chosen (Ben.nearJ (tk B js)) js.length)) (nsp (tk B js) (chosen (Ben.nearP (tk B js)) (tk B js).K)) := by
  have hg := ht.good
  have hK := ht.K
  have hf : (Ben.flowF (tk B js)).1 ≠ Ben.workAll (tk B js) := by
    intro e
    have : Ben.canW B js.length (gJ js) = true := by unfold Ben.canW; exact decide_eq_true e
    rw [this] at hc; cases hc
  have hs := Ben.refusal_short hg hf
  rw [tk_m, tk_B] at hs
  have hJl := chosen_len (Ben.nearJ (tk B js)) js.length
  have hPl := chosen_len (Ben.nearP (tk B js)) (tk B js).K
  have hJl2 : ∀ i, i < (chosen (Ben.nearJ (tk B js)) js.length).length → (chosen (Ben.nearJ (tk B js)) js.length).getD i 0 < js.length := fun i hi => chosen_lt _ _ hi
  have hPl2 : ∀ i, i < (chosen (Ben.nearP (tk B js)) (tk B js).K).length → (chosen (Ben.nearP (tk B js)) (tk B js).K).getD i 0 < (tk B js).K := fun i hi => chosen_lt _ _ hi
  have hJa : ∀ i, i < (chosen (Ben.nearJ (tk B js)) js.length).length → 0 < i → _ := fun i hi h0 => chosen_asc (Ben.nearJ (tk B js)) js.length hi h0
  have hPa : ∀ i, i < (chosen (Ben.nearP (tk B js)) (tk B js).K).length → 0 < i → _ := fun i hi h0 => chosen_asc (Ben.nearP (tk B js)) (tk B js).K hi h0
  generalize chosen (Ben.nearJ (tk B js)) js.length = LJ at *
  generalize chosen (Ben.nearP (tk B js)) (tk B js).K = LP at *
  have hpS : ∀ i, i < LP.length → pS (nsp (tk B js) LP) i = ⟨(((tk B js).at_ (LP.getD i 0) : Nat) : Int), (((tk B js).at_ (LP.getD i 0 + 1) : Nat) : Int)⟩ := fun i hi => by unfold pS nsp; rw [getD_map _ _ 0 _ hi]
  have hgI : ∀ i, i < LJ.length → gI (ofN LJ) i = ((LJ.getD i 0 : Nat) : Int) := fun i hi => by unfold gI ofN; rw [getD_map _ _ 0 _ hi]
  have hnl : (nsp (tk B js) LP).length = LP.length := by simp [nsp]
  refine ⟨⟨by rw [hnl]; omega, fun i hi => ?_⟩, fun i hi => ?_, ?_⟩
  · rw [hnl] at hi
    have h1 := hPl2 i hi
    have h2 := hg.cut _ h1
    have h3 := (ht.cut (i := LP.getD i 0 + 1) (by omega) (by omega)).2
    refine ⟨by rw [hpS i hi]; simp only; exact ⟨by omega, by omega, h3⟩, fun h0 => ?_⟩
    have h4 := hPa i hi h0
    have h5 := hg.le (show LP.getD (i - 1) 0 + 1 ≤ LP.getD i 0 from h4) (by omega)
    rw [hpS i hi, hpS (i - 1) (by omega)]
    simp only; omega
  · rw [ofN_len] at hi
    have h1 := hJl2 i hi
    refine ⟨by rw [hgI i hi]; omega, fun h0 => ?_⟩
    have h4 := hJa i hi h0
    rw [hgI i hi, hgI (i - 1) (by omega)]
    omega
  · rw [hnl, ofN_len]
    have e1 : roomS B (nsp (tk B js) LP) LP.length = sumL (fun i => B * ((((tk B js).at_ (i + 1) : Nat) : Int) - (((tk B js).at_ i : Nat) : Int))) LP := by
      rw [← sum_list]
      exact sumN_congr fun i hi => by rw [hpS i hi]
    have e2 : workR js (ofN LJ) LJ.length = sumL (fun k => (gJ js k).work) LJ := by
      rw [← sum_list]
      exact sumN_congr fun i hi => by unfold jbJ; rw [hgI i hi, Int.toNat_natCast]
    have e3 : outR js (ofN LJ) (nsp (tk B js) LP) LJ.length = sumL (fun k => (gJ js k).due - (gJ js k).ready - sumL (fun i => lap (gJ js k).ready (gJ js k).due (((tk B js).at_ i : Nat) : Int) (((tk B js).at_ (i + 1) : Nat) : Int)) LP) LJ := by
      rw [← sum_list]
      refine sumN_congr fun i hi => ?_
      unfold jbJ cmS
      rw [hgI i hi, Int.toNat_natCast, hnl, ← sum_list]
      congr 1
      exact sumN_congr fun q hq => by rw [hpS q hq]
    rw [e1, e2, e3]
    exact hs
open Classical in
theorem schB_iff {B : Int} {js : List S40} {ss : List S50} : schB B js ss = true ↔ SchOk B js ss := by unfold schB; exact decide_eq_true_iff
open Classical in
theorem refB_iff {B : Int} {js : List S40} {jobs : List Int} {sp : List S34} : refB B js jobs sp = true ↔ RefOk B js jobs sp := by unfold refB; exact decide_eq_true_iff
theorem right_plan {B : Int} {js : List S40} (ht : TaskOk B js) : rightB B js (planA B js).1 (planA B js).2.1 (planA B js).2.2.1 (planA B js).2.2.2 = true := by
  unfold planA rightB
  cases hc : Ben.canW B js.length (gJ js) with
  | true =>
    obtain ⟨h1, h2⟩ := Ben.planS_sched ht.jobs hc ht.m
    have h3 : schB B js ((Ben.planS B js.length (gJ js)).map sl50) = true := schB_iff.2 (sch_plan ht h1 (by omega))
    simp [h3]
  | false =>
    have h3 : refB B js (ofN (chosen (Ben.nearJ (tk B js)) js.length)) (nsp (tk B js) (chosen (Ben.nearP (tk B js)) (tk B js).K)) = true := refB_iff.2 (ref_plan ht hc)
    simp [h3]
end Go.Proofs.YtmnhcbaocoofoaaDoor.P
namespace Go.Proofs.YtmnhcbaocoofoaaDoor.P
open Go.RowKit YtmnhcbaocoofoaaDoorW.PrintWords YtmnhcbaocoofoaaDoorW.PrintLast YtmnhcbaocoofoaaDoorW.PrintMore
theorem planf_ok {B : Int} {js : List S40} (h : TaskOk B js) : bench_task_plan.f B js = some (planA B js) := by unfold bench_task_plan.f; rw [if_pos h]
set_option maxHeartbeats 8000000 in
set_option maxRecDepth 100000 in
theorem Plan_no (B : Int) (A : Option Addr) (c : Nat) (js : List S40) (w : World) (hr : Kd.C k40 w A js.length js) (hm : js.length ≤ 1000000) (ht : ¬ TaskOk B js) :
    Calls Tryd.prog 24 #[.int .i64 B, .slice A js.length c] w fun e w' => e = .returned (.tuple #[.agg #[.bool false, .slice none 0 0, .slice none 0 0, .slice none 0 0], .int .i64 2]) ∧ Below w.heap.size w w' := by
  have HB := Aside0.mk (Below.refl w.heap.size w)
  have HN := Aside0.mk (fun W (hb : Below w.heap.size w W) => newt_no B A c js W (Kd.C_below hr hb) hm ht)
  have hu55 := Tryd.underlying55
  have hu46 := Tryd.underlying46
  clear hr hm ht
  go_enter Tryd.func24, Tryd.ntmps24
  go_wp2_with (first | ((with_reducible refine gate_dst (N := 4) rfl ?_); refine bxe 4 #[.bool false, .slice none 0 0, .slice none 0 0, .slice none 0 0] 46 ?_; intro gr hgr w3 hbox3 hb3; have HXR := Aside0.mk hbox3; have HGR := Aside0.mk (show w.heap.size ≤ gr by rw [hgr]; exact Nat.le_refl _); have HB3 := Aside0.mk (below_step HB.out hb3); clear hgr hbox3 hb3) | (go_at_call 28; go_must (refine (HN.out _ HB3.out).mono ?_); rintro e w4 ⟨rfl, hb4⟩; have HX4 := Aside0.mk ((hb4.block _ (blk_lt HXR.out)).trans HXR.out); have HB4 := Aside0.mk (below_step HB3.out hb4); clear hb4) | ((with_reducible refine gate_dst (N := 6) rfl ?_); refine bxe 6 #[.int .i64 0, .slice none 0 0] 55 ?_; intro gt hgt w5 hbox5 hb5; have HXT := Aside0.mk hbox5; have HGT := Aside0.mk (show w.heap.size ≤ gt ∧ gr < gt by rw [hgt]; exact ⟨HB4.out.size, blk_lt HX4.out⟩); have HX5 := Aside0.mk ((hb5.block _ (blk_lt HX4.out)).trans HX4.out); have HB5 := Aside0.mk (below_step HB4.out hb5); have t0 : w5.cell? ⟨gt, 0, none⟩ = some (.int .i64 0) := (blk_cell HXT.out 0).trans rfl; have t1 : w5.cell? ⟨gt, 1, none⟩ = some (.slice none 0 0) := (blk_cell HXT.out 1).trans rfl; have s0 := blk_frozen HXT.out 0; have s1 := blk_frozen HXT.out 1; have hne : gt ≠ gr := (by have := HGT.out; omega); clear hgt hbox5 hb5; have r0 : w5.cell? ⟨gr, 0, none⟩ = some (.bool false) := (blk_cell HX5.out 0).trans rfl; have q0 := blk_frozen HX5.out 0; have r1 : w5.cell? ⟨gr, 1, none⟩ = some (.slice none 0 0) := (blk_cell HX5.out 1).trans rfl; have q1 := blk_frozen HX5.out 1; have r2 : w5.cell? ⟨gr, 2, none⟩ = some (.slice none 0 0) := (blk_cell HX5.out 2).trans rfl; have q2 := blk_frozen HX5.out 2; have r3 : w5.cell? ⟨gr, 3, none⟩ = some (.slice none 0 0) := (blk_cell HX5.out 3).trans rfl; have q3 := blk_frozen HX5.out 3; skip))
  have HX6 : Aside0 (((w5.setCell ⟨gt, 0, none⟩ (.int .i64 0)).setCell ⟨gt, 1, none⟩ (.slice none 0 0)).heap[gr]? = some (.cells #[.bool false, .slice none 0 0, .slice none 0 0, .slice none 0 0] 46 (0, 0))) := ⟨(Below.heap_setCell _ _ _ gr (fun e => hne e.symm)).trans ((Below.heap_setCell _ _ _ gr (fun e => hne e.symm)).trans HX5.out)⟩
  have HZ : Aside0 (((((((w5.setCell ⟨gt, 0, none⟩ (.int .i64 0)).setCell ⟨gt, 1, none⟩ (.slice none 0 0)).setCell ⟨gr, 0, none⟩ (.bool false)).setCell ⟨gr, 1, none⟩ (.slice none 0 0)).setCell ⟨gr, 2, none⟩ (.slice none 0 0)).setCell ⟨gr, 3, none⟩ (.slice none 0 0)).heap[gr]? = some (.cells #[.bool false, .slice none 0 0, .slice none 0 0, .slice none 0 0] 46 (0, 0))) := ⟨(blk_put (cs := #[.bool false, .slice none 0 0, .slice none 0 0, .slice none 0 0]) (blk_put (cs := #[.bool false, .slice none 0 0, .slice none 0 0, .slice none 0 0]) (blk_put (cs := #[.bool false, .slice none 0 0, .slice none 0 0, .slice none 0 0]) (blk_put (cs := #[.bool false, .slice none 0 0, .slice none 0 0, .slice none 0 0]) HX6.out 0 _ rfl) 1 _ rfl) 2 _ rfl) 3 _ rfl)⟩
  have HBZ : Aside0 (Below w.heap.size w ((((((w5.setCell ⟨gt, 0, none⟩ (.int .i64 0)).setCell ⟨gt, 1, none⟩ (.slice none 0 0)).setCell ⟨gr, 0, none⟩ (.bool false)).setCell ⟨gr, 1, none⟩ (.slice none 0 0)).setCell ⟨gr, 2, none⟩ (.slice none 0 0)).setCell ⟨gr, 3, none⟩ (.slice none 0 0))) := ⟨(Below.setCell (Below.setCell (Below.setCell (Below.setCell (Below.setCell (Below.setCell HB5.out HGT.out.1 _) HGT.out.1 _) HGR.out _) HGR.out _) HGR.out _) HGR.out _)⟩
  clear r0 r1 r2 r3 q0 q1 q2 q3 t0 t1 s0 s1
  generalize ((((((w5.setCell ⟨gt, 0, none⟩ (.int .i64 0)).setCell ⟨gt, 1, none⟩ (.slice none 0 0)).setCell ⟨gr, 0, none⟩ (.bool false)).setCell ⟨gr, 1, none⟩ (.slice none 0 0)).setCell ⟨gr, 2, none⟩ (.slice none 0 0)).setCell ⟨gr, 3, none⟩ (.slice none 0 0)) = wz at HZ HBZ ⊢
  (try simp only [Exit.inBlock, Exit.then])
  refine bodyPost_ret (results_ct (fn := Tryd.f24) rfl _ _ gr 46 #[.bool false, .slice none 0 0, .slice none 0 0, .slice none 0 0] (0, 0) _ rfl HZ.out hu46 rfl (by kernel_rfl)) rfl ?_
  exact ⟨rfl, HBZ.out⟩
set_option maxHeartbeats 8000000 in
set_option maxRecDepth 100000 in
theorem Plan_ok (B : Int) (A : Option Addr) (c : Nat) (js : List S40) (w : World) (hno : None_ w) (hr : Kd.C k40 w A js.length js) (hc : js.length ≤ c) (ht : TaskOk B js) (r1 : Bool) (r2 : List S50) (r3 : List Int) (r4 : List S34) (hpa : planA B js = (r1, r2, r3, r4)) :
    Calls Tryd.prog 24 #[.int .i64 B, .slice A js.length c] w fun e w' => ∃ v1 v2 v3, e = .returned (.tuple #[.agg #[.bool r1, v1, v2, v3], .int .i64 0]) ∧ Kd.R k50 50 w' w.heap.size (fun _ => True) v1 r2 ∧ Kd.R (Kd.int .i64) 3 w' w.heap.size (fun _ => True) v2 r3 ∧ Kd.R k34 34 w' w.heap.size (fun _ => True) v3 r4 ∧ Below w.heap.size w w' := by
  have HB := Aside0.mk (Below.refl w.heap.size w)
  have HN := Aside0.mk (fun W (hb : Below w.heap.size w W) => newt_ok B A c js W (Kd.C_below hr hb) ht)
  have HPL := Aside0.mk (fun W (hb : Below w.heap.size w W) => bench_task_plan.calls B A c js r1 r2 r3 r4 W (hno.below hb) (Kd.C_below hr hb) hc (by rw [planf_ok ht, hpa]))
  have hu55 := Tryd.underlying55
  have hu46 := Tryd.underlying46
  clear hr hno hc ht hpa
  go_enter Tryd.func24, Tryd.ntmps24
  go_wp2_with (first | ((with_reducible refine gate_dst (N := 4) rfl ?_); refine bxe 4 #[.bool false, .slice none 0 0, .slice none 0 0, .slice none 0 0] 46 ?_; intro gr hgr w3 hbox3 hb3; have HXR := Aside0.mk hbox3; have HGR := Aside0.mk (show w.heap.size ≤ gr by rw [hgr]; exact Nat.le_refl _); have HB3 := Aside0.mk (below_step HB.out hb3); clear hgr hbox3 hb3) | (go_at_call 28; go_must (refine (HN.out _ HB3.out).mono ?_); rintro e w4 ⟨rfl, hb4⟩; have HX4 := Aside0.mk ((hb4.block _ (blk_lt HXR.out)).trans HXR.out); have HB4 := Aside0.mk (below_step HB3.out hb4); clear hb4) | ((with_reducible refine gate_dst (N := 6) rfl ?_); refine bxe 6 #[.int .i64 0, .slice none 0 0] 55 ?_; intro gt hgt w5 hbox5 hb5; have HXT := Aside0.mk hbox5; have HGT := Aside0.mk (show w.heap.size ≤ gt ∧ gr < gt by rw [hgt]; exact ⟨HB4.out.size, blk_lt HX4.out⟩); have HX5 := Aside0.mk ((hb5.block _ (blk_lt HX4.out)).trans HX4.out); have HB5 := Aside0.mk (below_step HB4.out hb5); have t0 : w5.cell? ⟨gt, 0, none⟩ = some (.int .i64 0) := (blk_cell HXT.out 0).trans rfl; have t1 : w5.cell? ⟨gt, 1, none⟩ = some (.slice none 0 0) := (blk_cell HXT.out 1).trans rfl; have s0 := blk_frozen HXT.out 0; have s1 := blk_frozen HXT.out 1; have hne : gt ≠ gr := (by have := HGT.out; omega); clear hgt hbox5 hb5; have k0 : w5.cell? ⟨gr, 0, none⟩ = some (.bool false) := (blk_cell HX5.out 0).trans rfl; have q0 := blk_frozen HX5.out 0; have k1 : w5.cell? ⟨gr, 1, none⟩ = some (.slice none 0 0) := (blk_cell HX5.out 1).trans rfl; have q1 := blk_frozen HX5.out 1; have k2 : w5.cell? ⟨gr, 2, none⟩ = some (.slice none 0 0) := (blk_cell HX5.out 2).trans rfl; have q2 := blk_frozen HX5.out 2; have k3 : w5.cell? ⟨gr, 3, none⟩ = some (.slice none 0 0) := (blk_cell HX5.out 3).trans rfl; have q3 := blk_frozen HX5.out 3; skip) | (go_at_call 34; go_loud (refine (HPL.out _ (Below.setCell (p := ⟨gt, 1, none⟩) (Below.setCell (p := ⟨gt, 0, none⟩) HB5.out HGT.out.1 (.int .i64 B)) HGT.out.1 (.slice A js.length c))).mono ?_); rintro e w8 ⟨v1, v2, v3, rfl, h50, h3, h34, hb8⟩; obtain ⟨A1, c1, rfl⟩ := Kd.R_slice h50; obtain ⟨A2, c2, rfl⟩ := Kd.R_slice h3; obtain ⟨A3, c3, rfl⟩ := Kd.R_slice h34; have H50 := Aside0.mk h50; have H3 := Aside0.mk h3; have H34 := Aside0.mk h34; have HX6 : Aside0 (((w5.setCell ⟨gt, 0, none⟩ (.int .i64 B)).setCell ⟨gt, 1, none⟩ (.slice A js.length c)).heap[gr]? = some (.cells #[.bool false, .slice none 0 0, .slice none 0 0, .slice none 0 0] 46 (0, 0))) := ⟨(Below.heap_setCell _ _ _ gr (fun e => hne e.symm)).trans ((Below.heap_setCell _ _ _ gr (fun e => hne e.symm)).trans HX5.out)⟩; have HX8 := Aside0.mk ((hb8.block _ (blk_lt HX6.out)).trans HX6.out); have HG8 := Aside0.mk (blk_lt HX6.out); have HS8 := Aside0.mk ((Below.setCell (p := ⟨gt, 1, none⟩) (Below.setCell (p := ⟨gt, 0, none⟩) HB5.out HGT.out.1 (.int .i64 B)) HGT.out.1 (.slice A js.length c))).size; have HB8 := Aside0.mk (below_step (Below.setCell (p := ⟨gt, 1, none⟩) (Below.setCell (p := ⟨gt, 0, none⟩) HB5.out HGT.out.1 (.int .i64 B)) HGT.out.1 (.slice A js.length c)) hb8); clear k0 k1 k2 k3 q0 q1 q2 q3 t0 t1 s0 s1; have k0 : w8.cell? ⟨gr, 0, none⟩ = some (.bool false) := (blk_cell HX8.out 0).trans rfl; have q0 := blk_frozen HX8.out 0; have k1 : w8.cell? ⟨gr, 1, none⟩ = some (.slice none 0 0) := (blk_cell HX8.out 1).trans rfl; have q1 := blk_frozen HX8.out 1; have k2 : w8.cell? ⟨gr, 2, none⟩ = some (.slice none 0 0) := (blk_cell HX8.out 2).trans rfl; have q2 := blk_frozen HX8.out 2; have k3 : w8.cell? ⟨gr, 3, none⟩ = some (.slice none 0 0) := (blk_cell HX8.out 3).trans rfl; have q3 := blk_frozen HX8.out 3; clear h50 h3 h34 hb8))
  have HZ : Aside0 (((((w8.setCell ⟨gr, 0, none⟩ (.bool r1)).setCell ⟨gr, 1, none⟩ (.slice A1 r2.length c1)).setCell ⟨gr, 2, none⟩ (.slice A2 r3.length c2)).setCell ⟨gr, 3, none⟩ (.slice A3 r4.length c3)).heap[gr]? = some (.cells #[.bool r1, .slice A1 r2.length c1, .slice A2 r3.length c2, .slice A3 r4.length c3] 46 (0, 0))) := ⟨(blk_put (cs := #[.bool r1, .slice A1 r2.length c1, .slice A2 r3.length c2, .slice none 0 0]) (blk_put (cs := #[.bool r1, .slice A1 r2.length c1, .slice none 0 0, .slice none 0 0]) (blk_put (cs := #[.bool r1, .slice none 0 0, .slice none 0 0, .slice none 0 0]) (blk_put (cs := #[.bool false, .slice none 0 0, .slice none 0 0, .slice none 0 0]) HX8.out 0 _ rfl) 1 _ rfl) 2 _ rfl) 3 _ rfl)⟩
  have HBZ : Aside0 (Below w.heap.size w ((((w8.setCell ⟨gr, 0, none⟩ (.bool r1)).setCell ⟨gr, 1, none⟩ (.slice A1 r2.length c1)).setCell ⟨gr, 2, none⟩ (.slice A2 r3.length c2)).setCell ⟨gr, 3, none⟩ (.slice A3 r4.length c3))) := ⟨Below.setCell (Below.setCell (Below.setCell (Below.setCell HB8.out HGR.out _) HGR.out _) HGR.out _) HGR.out _⟩
  have H509 := Aside0.mk (Kd.R_lower (R_set M50 (R_set M50 (R_set M50 (R_set M50 H50.out HG8.out 0 (.bool r1)) HG8.out 1 (.slice A1 r2.length c1)) HG8.out 2 (.slice A2 r3.length c2)) HG8.out 3 (.slice A3 r4.length c3)) HS8.out)
  have H39 := Aside0.mk (Kd.R_lower (R_set M3 (R_set M3 (R_set M3 (R_set M3 H3.out HG8.out 0 (.bool r1)) HG8.out 1 (.slice A1 r2.length c1)) HG8.out 2 (.slice A2 r3.length c2)) HG8.out 3 (.slice A3 r4.length c3)) HS8.out)
  have H349 := Aside0.mk (Kd.R_lower (R_set M34 (R_set M34 (R_set M34 (R_set M34 H34.out HG8.out 0 (.bool r1)) HG8.out 1 (.slice A1 r2.length c1)) HG8.out 2 (.slice A2 r3.length c2)) HG8.out 3 (.slice A3 r4.length c3)) HS8.out)
  clear k0 k1 k2 k3 q0 q1 q2 q3
  generalize ((((w8.setCell ⟨gr, 0, none⟩ (.bool r1)).setCell ⟨gr, 1, none⟩ (.slice A1 r2.length c1)).setCell ⟨gr, 2, none⟩ (.slice A2 r3.length c2)).setCell ⟨gr, 3, none⟩ (.slice A3 r4.length c3)) = wz at HZ HBZ H509 H39 H349 ⊢
  (try simp only [Exit.inBlock, Exit.then])
  refine bodyPost_ret (results_ct (fn := Tryd.f24) rfl _ _ gr 46 #[.bool r1, .slice A1 r2.length c1, .slice A2 r3.length c2, .slice A3 r4.length c3] (0, 0) _ rfl HZ.out hu46 rfl (by kernel_rfl)) rfl ?_
  exact ⟨_, _, _, rfl, H509.out, H39.out, H349.out, HBZ.out⟩
end Go.Proofs.YtmnhcbaocoofoaaDoor.P
namespace Go.Proofs.YtmnhcbaocoofoaaDoor.P
open Go.RowKit YtmnhcbaocoofoaaDoorW.PrintWords YtmnhcbaocoofoaaDoorW.PrintLast YtmnhcbaocoofoaaDoorW.PrintMore
open Classical in
noncomputable def bench_Plan.f (a0 : Int) (l1 : List S40) : Option (Bool × List S50 × List Int × List S34 × Int) :=
  if TaskOk a0 l1 then some ((planA a0 l1).1, (planA a0 l1).2.1, (planA a0 l1).2.2.1, (planA a0 l1).2.2.2, 0) else if l1.length ≤ 1000000 then some (false, [], [], [], 2) else none
theorem bench_Plan.calls (a0 : Int) (A1 : Option Addr) (c1 : Nat) (l1 : List S40) (r1 : Bool) (r2 : List S50) (r3 : List Int) (r4 : List S34) (r5 : Int) (w : World) (hno : None_ w) (hr1 : Kd.C k40 w A1 l1.length l1) (hc1 : l1.length ≤ c1) (h : bench_Plan.f a0 l1 = some (r1, r2, r3, r4, r5)) :
    Calls Tryd.prog 24 #[.int .i64 a0, .slice A1 l1.length c1] w fun e w' => ∃ v1_ v2_ v3_ : Value, e = .returned (.tuple #[.agg #[.bool r1, v1_, v2_, v3_], .int .i64 r5]) ∧ Kd.R k50 50 w' w.heap.size (fun _ => True) v1_ r2 ∧ Kd.R (Kd.int .i64) 3 w' w.heap.size (fun _ => True) v2_ r3 ∧ Kd.R k34 34 w' w.heap.size (fun _ => True) v3_ r4 ∧ Below w.heap.size w w' := by
  unfold bench_Plan.f at h
  split at h
  case isTrue ht =>
    simp only [Option.some.injEq, Prod.mk.injEq] at h
    obtain ⟨h1, h2, h3, h4, rfl⟩ := h
    exact Plan_ok a0 A1 c1 l1 w hno hr1 hc1 ht r1 r2 r3 r4 (by rw [← h1, ← h2, ← h3, ← h4])
  case isFalse ht =>
    split at h
    case isTrue hm =>
      simp only [Option.some.injEq, Prod.mk.injEq] at h
      obtain ⟨rfl, rfl, rfl, rfl, rfl⟩ := h
      exact (Plan_no a0 A1 c1 l1 w hr1 hm ht).mono fun e w' ⟨he, hb⟩ => ⟨_, _, _, he, Kd.R_nil _ _ _ _ _, Kd.R_nil _ _ _ _ _, Kd.R_nil _ _ _ _ _, hb⟩
    case isFalse hm => exact absurd h (by simp)
end Go.Proofs.YtmnhcbaocoofoaaDoor.P
namespace Go.Proofs.YtmnhcbaocoofoaaDoor.P
open Go.RowKit YtmnhcbaocoofoaaDoorW.PrintWords YtmnhcbaocoofoaaDoorW.PrintLast YtmnhcbaocoofoaaDoorW.PrintMore
attribute [local go_sem] max2_int min2_int max_two min_two max_three min_three max_four min_four

noncomputable def L4_can.j0 : Nat → Bool → Bool → List (S50) → List Int → List (S34) → Option (Int)
 | 0, _, _, _, _, _ => none
 | k + 1, x21, x214000, x214001, x214002, x214003 => if x21 = true then (some 2) else (if x214000 = true then (some 1) else (some 0))
noncomputable def L4_can.f (k : Nat) (a0 : Int) (l1 : List (S40)) : Option (Int) := (bench_Plan.f a0 l1).bind fun bt202 => (if bt202.2.2.2.2 = 0 then ((R4_Right.f a0 l1 bt202.1 bt202.2.1 bt202.2.2.1 bt202.2.2.2.1).bind fun t214 => (L4_can.j0 k (!t214) bt202.1 bt202.2.1 bt202.2.2.1 bt202.2.2.2.1)) else (L4_can.j0 k true bt202.1 bt202.2.1 bt202.2.2.1 bt202.2.2.2.1))
theorem L4_can.mono_l : ∀ k, (∀ y0 y1 y2 y3 y4, LeO (L4_can.j0 k y0 y1 y2 y3 y4) (L4_can.j0 (k + 1) y0 y1 y2 y3 y4))
 | 0 => fun _ _ _ _ _ r h => by simp [L4_can.j0] at h
 | k + 1 => by
  have ih0 := L4_can.mono_l k
  ·intro y0 y1 y2 y3 y4
   unfold L4_can.j0
   repeat' first
   | (with_reducible exact ih0 _ _ _ _ _)
   | (with_reducible first | exact LeO.refl _ | exact LeO.none _ | refine LeO.ite ?_ ?_ | refine LeO.bind ?_ (fun _ => ?_))
   | exact ih0 _ _ _ _ _
   | exact LeO.none _ | refine LeO.ite ?_ ?_ | refine LeO.bind ?_ (fun _ => ?_)
theorem L4_can.mono : ∀ a0 a1 k, LeO (L4_can.f k a0 a1) (L4_can.f (k + 1) a0 a1) := by
 intro a0 a1 k
 have ih0 := L4_can.mono_l k
 unfold L4_can.f
 repeat' first
   | (with_reducible exact ih0 _ _ _ _ _)
   | (with_reducible first | exact LeO.refl _ | exact LeO.none _ | refine LeO.ite ?_ ?_ | refine LeO.bind ?_ (fun _ => ?_))
   | exact ih0 _ _ _ _ _
   | exact LeO.none _ | refine LeO.ite ?_ ?_ | refine LeO.bind ?_ (fun _ => ?_)
set_option maxHeartbeats 8000000 in
set_option maxRecDepth 100000 in
theorem L4_can.calls (k : Nat) (a0 : Int) (A1 : Option Addr) (c1 : Nat) (l1 : List (S40)) (r : Int) (w : World) (hno_ : None_ w) (hr1 : Kd.C k40 w A1 l1.length l1) (hc1 : l1.length ≤ c1) (h : L4_can.f k a0 l1 = some r) :
  Calls Tryd.prog 22 #[.int .i64 a0, .slice A1 l1.length c1] w fun e w' => e = .returned (.int .i64 r) ∧ Below w.heap.size w w' := by
 have hu46 := Tryd.underlying46
 have HR1 := Aside0.mk hr1
 have HC1 := Aside0.mk hc1
 clear hr1 hc1
 have HNO := Aside0.mk hno_
 clear hno_
 have HB := Aside0.mk (Below.refl w.heap.size w)
 have H : ((bench_Plan.f a0 l1).bind fun bt202 => (if bt202.2.2.2.2 = 0 then ((R4_Right.f a0 l1 bt202.1 bt202.2.1 bt202.2.2.1 bt202.2.2.2.1).bind fun t214 => (L4_can.j0 k (!t214) bt202.1 bt202.2.1 bt202.2.2.1 bt202.2.2.2.1)) else (L4_can.j0 k true bt202.1 bt202.2.1 bt202.2.2.1 bt202.2.2.2.1))) = some r := h
 clear h
 replace H := Option.bind_eq_some_iff.mp H
 obtain ⟨⟨t202, t203, t206, t209, t212⟩, A30, H⟩ := H
 replace H : (if t212 = 0 then ((R4_Right.f a0 l1 t202 t203 t206 t209).bind fun t214 => (L4_can.j0 k (!t214) t202 t203 t206 t209)) else (L4_can.j0 k true t202 t203 t206 t209)) = some r := H
 have A3 := Aside0.mk A30
 clear A30
 have HC4 := Aside0.mk H
 clear H
 go_enter Tryd.func22, Tryd.ntmps22
 go_upto_region 2 with (first | ((with_reducible refine gate_callee (f := 24) rfl ?_); refine goesL_ (some 10) rfl rfl Tryd.func24 (by kernel_rfl) rfl #[.int .i64 a0, .slice A1 l1.length c1] rfl (by (try simp only [List.map_toArray, List.map_cons, List.map_nil]); first | done | rfl | (simp only [List.length_drop, List.length_take]; rfl)) ?_; (with_reducible refine (bench_Plan.calls a0 _ _ l1 t202 t203 t206 t209 t212 _ ?sidenone ?side1 ?side2 A3.out).mono ?_); (case sidenone => exact HNO.out.below lB); (case side1 => repeat (first | exact HR1.out | (with_reducible refine Kd.C_alloc ?_ _) | (with_reducible refine Kd.C_drewN ?_ _) | (with_reducible refine Kd.C_drew ?_))); (case side2 => exact HC1.out); rintro e w5 ⟨v204, v207, v210, rfl, ho0, ho1, ho2, hb⟩; refine ⟨_, rfl, ?_⟩; have n0_ := Aside0.mk (Kd.R_lower ho0 (below_size lB)); have n1_ := Aside0.mk (Kd.R_lower ho1 (below_size lB)); have n2_ := Aside0.mk (Kd.R_lower ho2 (below_size lB)); have n3_ := Aside0.mk (below_step lB hb); clear HB; have HO205 := n0_; have HO208 := n1_; have HO211 := n2_; have HB := n3_; clear n0_ n1_ n2_ n3_; (try clear hb); (try clear hb2); (try clear hk); (try clear hi); (try clear ho0); (try clear ho1); (try clear ho2)) | ((with_reducible refine gate_dst (N := 5) rfl ?_); refine bxe 5 #[.bool false, .slice none 0 0, .slice none 0 0, .slice none 0 0] 46 ?_; intro gb213 hg w6 hbox hb; have n0_ := Aside0.mk (Kd.R_below (by (with_reducible repeat (first | apply Kd.R_alloc | apply Kd.R_drewN | apply Kd.R_drew)); exact HO205.out) hb); have n1_ := Aside0.mk (Kd.R_below (by (with_reducible repeat (first | apply Kd.R_alloc | apply Kd.R_drewN | apply Kd.R_drew)); exact HO208.out) hb); have n2_ := Aside0.mk (Kd.R_below (by (with_reducible repeat (first | apply Kd.R_alloc | apply Kd.R_drewN | apply Kd.R_drew)); exact HO211.out) hb); have n3_ := Aside0.mk (below_step lB hb); have n4_ := Aside0.mk (hbox); have n5_ := Aside0.mk (lG (w := w) hg); have n6_ := Aside0.mk (lG (w := w) hg); clear HO205; clear HO208; clear HO211; clear HB; have HO205 := n0_; have HO208 := n1_; have HO211 := n2_; have HB := n3_; have BK213 := n4_; have GW213 := n5_; have GE213 := n6_; clear n0_ n1_ n2_ n3_ n4_ n5_ n6_; clear hb hbox hg; have hcz7_0 : w6.cell? ⟨gb213, 0, none⟩ = some (.bool false) := (blk_cell BK213.out 0).trans rfl; have hcz7_1 : w6.cell? ⟨gb213, 1, none⟩ = some (.slice none 0 0) := (blk_cell BK213.out 1).trans rfl; have hcz7_2 : w6.cell? ⟨gb213, 2, none⟩ = some (.slice none 0 0) := (blk_cell BK213.out 2).trans rfl; have hcz7_3 : w6.cell? ⟨gb213, 3, none⟩ = some (.slice none 0 0) := (blk_cell BK213.out 3).trans rfl; have hfz7_0 := blk_frozen BK213.out 0; have hfz7_1 := blk_frozen BK213.out 1; have hfz7_2 := blk_frozen BK213.out 2; have hfz7_3 := blk_frozen BK213.out 3; obtain ⟨Ao8, co8, eo8⟩ := Kd.R_slice HO205.out; subst eo8; obtain ⟨Ao9, co9, eo9⟩ := Kd.R_slice HO208.out; subst eo9; obtain ⟨Ao10, co10, eo10⟩ := Kd.R_slice HO211.out; subst eo10))
 (try simp only [Act.put, sA, sB, sC])
 go_cut [21] (fun v21 wc => ∃ (kq : Nat) (x21_3 : Bool), v21 = .bool x21_3 ∧ Aside0 (L4_can.j0 kq x21_3 t202 t203 t206 t209 = some r) ∧ Aside0 (kq ≤ k) ∧ Aside0 (Kd.R k50 50 wc w.heap.size (fun _ => True) (.slice Ao8 t203.length co8) t203) ∧ Aside0 (Kd.R (Kd.int .i64) 3 wc w.heap.size (fun _ => True) (.slice Ao9 t206.length co9) t206) ∧ Aside0 (Kd.R k34 34 wc w.heap.size (fun _ => True) (.slice Ao10 t209.length co10) t209) ∧ Aside0 (wc.heap[gb213]? = some (.cells #[.bool t202, (.slice Ao8 t203.length co8), (.slice Ao9 t206.length co9), (.slice Ao10 t209.length co10)] 46 (0, 0))) ∧ Aside0 (Below w.heap.size w wc))
 case first =>
  have H := HC4.out
  clear HC4
  by_cases c11 : t212 = 0
  rw [if_pos c11] at H
  have c11b0 : (t212 == 0) = true := beq_iff_eq.mpr c11
  have c11b1 : (t212 != 0) = false := bne_eq_false_iff_eq.mpr c11
  clear c11
  (first | rw [c11b0] | (simp only [i64_w, i32_w]; rw [c11b0]) | skip)
  replace H := Option.bind_eq_some_iff.mp H
  obtain ⟨t214, A120, H⟩ := H
  replace H : (L4_can.j0 k (!t214) t202 t203 t206 t209) = some r := H
  have A12 := Aside0.mk A120
  clear A120
  have H' := Aside0.mk H
  clear H
  have hcz13_0 : w6.cell? ⟨gb213, 0, none⟩ = some (.bool false) := (blk_cell BK213.out 0).trans rfl
  have hcz13_1 : w6.cell? ⟨gb213, 1, none⟩ = some (.slice none 0 0) := (blk_cell BK213.out 1).trans rfl
  have hcz13_2 : w6.cell? ⟨gb213, 2, none⟩ = some (.slice none 0 0) := (blk_cell BK213.out 2).trans rfl
  have hcz13_3 : w6.cell? ⟨gb213, 3, none⟩ = some (.slice none 0 0) := (blk_cell BK213.out 3).trans rfl
  have hfz13_0 := blk_frozen BK213.out 0
  have hfz13_1 := blk_frozen BK213.out 1
  have hfz13_2 := blk_frozen BK213.out 2
  have hfz13_3 := blk_frozen BK213.out 3
  rotate_left 1
  rw [if_neg c11] at H
  have c11b0 : (t212 == 0) = false := beq_eq_false_iff_ne.mpr c11
  have c11b1 : (t212 != 0) = true := bne_iff_ne.mpr c11
  (first | rw [c11b0] | (simp only [i64_w, i32_w]; rw [c11b0]) | skip)
  have H' := Aside0.mk H
  clear H
  all_goals go_wp2_with (first | (go_at_call 25; (with_reducible refine (R4_Right.calls a0 _ _ l1 t202 _ _ t203 _ _ t206 _ _ t209 t214 _ ?side1 ?side2 ?side3 ?side4 ?side5 ?side6 ?side7 ?side8 A12.out).mono ?_); (case side1 => exact Kd.C_below HR1.out lB); (case side2 => exact HC1.out); (case side3 => refine (Kd.R_reads' (e := 50) (base := w.heap.size) (ok := fun k_ => True) (n := t203.length) (c := co8) ?_).2.2; exact (by (with_reducible repeat (first | apply Kd.R_alloc | apply Kd.R_drewN | apply Kd.R_drew)); exact (Kd.R_mono (Kd.R_far (p := ⟨gb213, 3, none⟩) (Kd.R_far (p := ⟨gb213, 2, none⟩) (Kd.R_far (p := ⟨gb213, 1, none⟩) (Kd.R_far (p := ⟨gb213, 0, none⟩) (Kd.R_types HO205.out BK213.out (by decide)) (fun _ hk => hk.2) (.bool t202)) (fun _ hk => hk.2) (.slice Ao8 t203.length co8)) (fun _ hk => hk.2) (.slice Ao9 t206.length co9)) (fun _ hk => hk.2) (.slice Ao10 t209.length co10)) (fun _ h_ => h_.1)))); (case side4 => exact (Kd.R_reads' HO205.out).2.1); (case side5 => refine (Kd.R_reads' (e := 3) (base := w.heap.size) (ok := fun k_ => True) (n := t206.length) (c := co9) ?_).2.2; exact (by (with_reducible repeat (first | apply Kd.R_alloc | apply Kd.R_drewN | apply Kd.R_drew)); exact (Kd.R_mono (Kd.R_far (p := ⟨gb213, 3, none⟩) (Kd.R_far (p := ⟨gb213, 2, none⟩) (Kd.R_far (p := ⟨gb213, 1, none⟩) (Kd.R_far (p := ⟨gb213, 0, none⟩) (Kd.R_types HO208.out BK213.out (by decide)) (fun _ hk => hk.2) (.bool t202)) (fun _ hk => hk.2) (.slice Ao8 t203.length co8)) (fun _ hk => hk.2) (.slice Ao9 t206.length co9)) (fun _ hk => hk.2) (.slice Ao10 t209.length co10)) (fun _ h_ => h_.1)))); (case side6 => exact (Kd.R_reads' HO208.out).2.1); (case side7 => refine (Kd.R_reads' (e := 34) (base := w.heap.size) (ok := fun k_ => True) (n := t209.length) (c := co10) ?_).2.2; exact (by (with_reducible repeat (first | apply Kd.R_alloc | apply Kd.R_drewN | apply Kd.R_drew)); exact (Kd.R_mono (Kd.R_far (p := ⟨gb213, 3, none⟩) (Kd.R_far (p := ⟨gb213, 2, none⟩) (Kd.R_far (p := ⟨gb213, 1, none⟩) (Kd.R_far (p := ⟨gb213, 0, none⟩) (Kd.R_types HO211.out BK213.out (by decide)) (fun _ hk => hk.2) (.bool t202)) (fun _ hk => hk.2) (.slice Ao8 t203.length co8)) (fun _ hk => hk.2) (.slice Ao9 t206.length co9)) (fun _ hk => hk.2) (.slice Ao10 t209.length co10)) (fun _ h_ => h_.1)))); (case side8 => exact (Kd.R_reads' HO211.out).2.1); rintro e wz0 ⟨rfl, hb⟩; have n0_ := Aside0.mk (Kd.R_below (by (with_reducible repeat (first | apply Kd.R_alloc | apply Kd.R_drewN | apply Kd.R_drew)); exact (Kd.R_mono (Kd.R_far (p := ⟨gb213, 3, none⟩) (Kd.R_far (p := ⟨gb213, 2, none⟩) (Kd.R_far (p := ⟨gb213, 1, none⟩) (Kd.R_far (p := ⟨gb213, 0, none⟩) (Kd.R_types HO205.out BK213.out (by decide)) (fun _ hk => hk.2) (.bool t202)) (fun _ hk => hk.2) (.slice Ao8 t203.length co8)) (fun _ hk => hk.2) (.slice Ao9 t206.length co9)) (fun _ hk => hk.2) (.slice Ao10 t209.length co10)) (fun _ h_ => h_.1))) hb); have n1_ := Aside0.mk (Kd.R_below (by (with_reducible repeat (first | apply Kd.R_alloc | apply Kd.R_drewN | apply Kd.R_drew)); exact (Kd.R_mono (Kd.R_far (p := ⟨gb213, 3, none⟩) (Kd.R_far (p := ⟨gb213, 2, none⟩) (Kd.R_far (p := ⟨gb213, 1, none⟩) (Kd.R_far (p := ⟨gb213, 0, none⟩) (Kd.R_types HO208.out BK213.out (by decide)) (fun _ hk => hk.2) (.bool t202)) (fun _ hk => hk.2) (.slice Ao8 t203.length co8)) (fun _ hk => hk.2) (.slice Ao9 t206.length co9)) (fun _ hk => hk.2) (.slice Ao10 t209.length co10)) (fun _ h_ => h_.1))) hb); have n2_ := Aside0.mk (Kd.R_below (by (with_reducible repeat (first | apply Kd.R_alloc | apply Kd.R_drewN | apply Kd.R_drew)); exact (Kd.R_mono (Kd.R_far (p := ⟨gb213, 3, none⟩) (Kd.R_far (p := ⟨gb213, 2, none⟩) (Kd.R_far (p := ⟨gb213, 1, none⟩) (Kd.R_far (p := ⟨gb213, 0, none⟩) (Kd.R_types HO211.out BK213.out (by decide)) (fun _ hk => hk.2) (.bool t202)) (fun _ hk => hk.2) (.slice Ao8 t203.length co8)) (fun _ hk => hk.2) (.slice Ao9 t206.length co9)) (fun _ hk => hk.2) (.slice Ao10 t209.length co10)) (fun _ h_ => h_.1))) hb); have n3_ := Aside0.mk (blk_below (g := gb213) (o := .cells #[.bool t202, .slice Ao8 t203.length co8, .slice Ao9 t206.length co9, .slice Ao10 t209.length co10] 46 (0, 0)) (by (with_reducible repeat (first | refine kN ?_ _ | refine kD ?_ | refine kA ?_ _)); refine blk_put (cs := #[.bool t202, .slice Ao8 t203.length co8, .slice Ao9 t206.length co9, .slice none 0 0]) ?_ 3 _ rfl; (with_reducible repeat (first | refine kN ?_ _ | refine kD ?_ | refine kA ?_ _)); refine blk_put (cs := #[.bool t202, .slice Ao8 t203.length co8, .slice none 0 0, .slice none 0 0]) ?_ 2 _ rfl; (with_reducible repeat (first | refine kN ?_ _ | refine kD ?_ | refine kA ?_ _)); refine blk_put (cs := #[.bool t202, .slice none 0 0, .slice none 0 0, .slice none 0 0]) ?_ 1 _ rfl; (with_reducible repeat (first | refine kN ?_ _ | refine kD ?_ | refine kA ?_ _)); refine blk_put (cs := #[.bool false, .slice none 0 0, .slice none 0 0, .slice none 0 0]) ?_ 0 _ rfl; (with_reducible repeat (first | refine kN ?_ _ | refine kD ?_ | refine kA ?_ _)); exact BK213.out) hb); have n4_ := Aside0.mk (below_step lB hb); clear HO205; clear HO208; clear HO211; clear BK213; clear HB; have HO205 := n0_; have HO208 := n1_; have HO211 := n2_; have BK213 := n3_; have HB := n4_; clear n0_ n1_ n2_ n3_ n4_; (try clear hb); (try clear hb2); (try clear hk); (try clear hi)))
  all_goals first
    | (go_meet
       case rel => exact ⟨_, (!t214), (by first | rfl | (simp; done) | (simp [*]; done)), H', ⟨by first | omega | exact Nat.le_refl _⟩, ⟨by (with_reducible repeat (first | apply Kd.R_alloc | apply Kd.R_drewN | apply Kd.R_drew)); exact HO205.out⟩, ⟨by (with_reducible repeat (first | apply Kd.R_alloc | apply Kd.R_drewN | apply Kd.R_drew)); exact HO208.out⟩, ⟨by (with_reducible repeat (first | apply Kd.R_alloc | apply Kd.R_drewN | apply Kd.R_drew)); exact HO211.out⟩, ⟨by (with_reducible repeat (first | refine kN ?_ _ | refine kD ?_ | refine kA ?_ _)); exact BK213.out⟩, ⟨by repeat (first | (with_reducible first | exact HB.out | apply lA | apply lN | apply lD | refine lS ?_ GE213.out) | exact HB.out)⟩⟩)
    | (go_meet
       case rel => exact ⟨_, (true), (by first | rfl | (simp; done) | (simp [*]; done)), H', ⟨by first | omega | exact Nat.le_refl _⟩, ⟨by (with_reducible repeat (first | apply Kd.R_alloc | apply Kd.R_drewN | apply Kd.R_drew)); exact Kd.R_mono (Kd.R_far (p := ⟨gb213, 3, none⟩) (Kd.R_far (p := ⟨gb213, 2, none⟩) (Kd.R_far (p := ⟨gb213, 1, none⟩) (Kd.R_far (p := ⟨gb213, 0, none⟩) (Kd.R_types HO205.out BK213.out (by decide)) (fun _ hk => hk.2) (.bool t202)) (fun _ hk => hk.2) (.slice Ao8 t203.length co8)) (fun _ hk => hk.2) (.slice Ao9 t206.length co9)) (fun _ hk => hk.2) (.slice Ao10 t209.length co10)) (fun _ hk => trivial)⟩, ⟨by (with_reducible repeat (first | apply Kd.R_alloc | apply Kd.R_drewN | apply Kd.R_drew)); exact Kd.R_mono (Kd.R_far (p := ⟨gb213, 3, none⟩) (Kd.R_far (p := ⟨gb213, 2, none⟩) (Kd.R_far (p := ⟨gb213, 1, none⟩) (Kd.R_far (p := ⟨gb213, 0, none⟩) (Kd.R_types HO208.out BK213.out (by decide)) (fun _ hk => hk.2) (.bool t202)) (fun _ hk => hk.2) (.slice Ao8 t203.length co8)) (fun _ hk => hk.2) (.slice Ao9 t206.length co9)) (fun _ hk => hk.2) (.slice Ao10 t209.length co10)) (fun _ hk => trivial)⟩, ⟨by (with_reducible repeat (first | apply Kd.R_alloc | apply Kd.R_drewN | apply Kd.R_drew)); exact Kd.R_mono (Kd.R_far (p := ⟨gb213, 3, none⟩) (Kd.R_far (p := ⟨gb213, 2, none⟩) (Kd.R_far (p := ⟨gb213, 1, none⟩) (Kd.R_far (p := ⟨gb213, 0, none⟩) (Kd.R_types HO211.out BK213.out (by decide)) (fun _ hk => hk.2) (.bool t202)) (fun _ hk => hk.2) (.slice Ao8 t203.length co8)) (fun _ hk => hk.2) (.slice Ao9 t206.length co9)) (fun _ hk => hk.2) (.slice Ao10 t209.length co10)) (fun _ hk => trivial)⟩, ⟨by (with_reducible repeat (first | refine kN ?_ _ | refine kD ?_ | refine kA ?_ _)); refine blk_put (cs := #[.bool t202, .slice Ao8 t203.length co8, .slice Ao9 t206.length co9, .slice none 0 0]) ?_ 3 _ rfl; (with_reducible repeat (first | refine kN ?_ _ | refine kD ?_ | refine kA ?_ _)); refine blk_put (cs := #[.bool t202, .slice Ao8 t203.length co8, .slice none 0 0, .slice none 0 0]) ?_ 2 _ rfl; (with_reducible repeat (first | refine kN ?_ _ | refine kD ?_ | refine kA ?_ _)); refine blk_put (cs := #[.bool t202, .slice none 0 0, .slice none 0 0, .slice none 0 0]) ?_ 1 _ rfl; (with_reducible repeat (first | refine kN ?_ _ | refine kD ?_ | refine kA ?_ _)); refine blk_put (cs := #[.bool false, .slice none 0 0, .slice none 0 0, .slice none 0 0]) ?_ 0 _ rfl; (with_reducible repeat (first | refine kN ?_ _ | refine kD ?_ | refine kA ?_ _)); exact BK213.out⟩, ⟨by repeat (first | (with_reducible first | exact HB.out | apply lA | apply lN | apply lD | refine lS ?_ GE213.out) | exact HB.out)⟩⟩)
 case rest =>
  clear HC4
  try clear c1
  try clear c2
  try clear p2
  try clear c11
  try clear c11b0
  try clear c11b1
  try clear hcz13_0
  try clear hcz13_1
  try clear hcz13_2
  try clear hcz13_3
  try clear hcz7_0
  try clear hcz7_1
  try clear hcz7_2
  try clear hcz7_3
  try clear hfz13_0
  try clear hfz13_1
  try clear hfz13_2
  try clear hfz13_3
  try clear hfz7_0
  try clear hfz7_1
  try clear hfz7_2
  try clear hfz7_3
  obtain ⟨kq, x21_3, rfl, HA, HJ3, HO_214001, HO_214002, HO_214003, BK213, HB⟩ := hcut
  cases kq with
  | zero => exact absurd HA.out (by simp [L4_can.j0])
  | succ kj3 =>
   have H := HA.out
   clear HA
   simp only [L4_can.j0] at H
   by_cases c15 : x21_3 = true
   subst c15
   have H1 : (some 2) = some r := by rw [if_pos rfl] at H; exact H
   clear H
   have H := H1
   clear H1
   obtain rfl := Option.some.inj H
   rotate_left 1
   replace c15 := Bool.eq_false_iff.mpr c15
   subst c15
   have H1 : (if t202 = true then (some 1) else (some 0)) = some r := by rw [if_neg (show ¬ (false = true) by decide)] at H; exact H
   clear H
   have H := H1
   clear H1
   by_cases c16 : t202 = true
   subst c16
   have H1 : (some 1) = some r := by rw [if_pos rfl] at H; exact H
   clear H
   have H := H1
   clear H1
   obtain rfl := Option.some.inj H
   have hcz17_0 : wc.cell? ⟨gb213, 0, none⟩ = some (.bool true) := (blk_cell BK213.out 0).trans rfl
   have hcz17_1 : wc.cell? ⟨gb213, 1, none⟩ = some (.slice Ao8 t203.length co8) := (blk_cell BK213.out 1).trans rfl
   have hcz17_2 : wc.cell? ⟨gb213, 2, none⟩ = some (.slice Ao9 t206.length co9) := (blk_cell BK213.out 2).trans rfl
   have hcz17_3 : wc.cell? ⟨gb213, 3, none⟩ = some (.slice Ao10 t209.length co10) := (blk_cell BK213.out 3).trans rfl
   have hfz17_0 := blk_frozen BK213.out 0
   have hfz17_1 := blk_frozen BK213.out 1
   have hfz17_2 := blk_frozen BK213.out 2
   have hfz17_3 := blk_frozen BK213.out 3
   rotate_left 1
   replace c16 := Bool.eq_false_iff.mpr c16
   subst c16
   have H1 : (some 0) = some r := by rw [if_neg (show ¬ (false = true) by decide)] at H; exact H
   clear H
   have H := H1
   clear H1
   obtain rfl := Option.some.inj H
   have hcz18_0 : wc.cell? ⟨gb213, 0, none⟩ = some (.bool false) := (blk_cell BK213.out 0).trans rfl
   have hcz18_1 : wc.cell? ⟨gb213, 1, none⟩ = some (.slice Ao8 t203.length co8) := (blk_cell BK213.out 1).trans rfl
   have hcz18_2 : wc.cell? ⟨gb213, 2, none⟩ = some (.slice Ao9 t206.length co9) := (blk_cell BK213.out 2).trans rfl
   have hcz18_3 : wc.cell? ⟨gb213, 3, none⟩ = some (.slice Ao10 t209.length co10) := (blk_cell BK213.out 3).trans rfl
   have hfz18_0 := blk_frozen BK213.out 0
   have hfz18_1 := blk_frozen BK213.out 1
   have hfz18_2 := blk_frozen BK213.out 2
   have hfz18_3 := blk_frozen BK213.out 3
   all_goals go_wp2
   all_goals first
     | (go_ret
        exact en)

end Go.Proofs.YtmnhcbaocoofoaaDoor.P
