/- Proved here: what functions that the law reaches compute, and plain laws of that. No conditions but those that the theorems state. Put together by a program; a part of it was printed by a program of the session's, by way of the kit's printer (wip/printplus.py, wip/mend*.py). -/
import Derived.Test.YthaklbjcjoolcaaB1
import Derived.Outline
import Derived.Deep.DeepMust
import Derived.Laws.EntriesVeiled
import Derived.BigRegion
import Derived.BigQuiet
import Derived.Test.YthaklbjcjoolcaaCPlaneSeparates1
import Derived.Test.YthaklbjcjoolcaaCPlaneSeparates2
import Derived.Test.YthaklbjcjoolcaaB4
import Derived.Test.YthaklbjcjoolcaaB3
set_option linter.unusedVariables false
set_option linter.unusedSimpArgs false
namespace Go.Proofs.Ythaklbjcjoolcaa.P
open Go.RowKit Go.Shelf Go.Sort Go.Proofs.YthaklbjcjoolcaaW.PrintWords Go.Proofs.YthaklbjcjoolcaaW.PrintLast Go.Proofs.YthaklbjcjoolcaaW.PrintMore
theorem refwithin_is (n m : Int) (hm : 0 ≤ m ∧ m ≤ 1152921504606846976) : silversideref01_within.f n m = some (decide (-m ≤ n ∧ n ≤ m)) := by
  unfold silversideref01_within.f
  rw [w64i (x := -m) (by omega) (by omega)]
  by_cases h : n ≥ -m
  · rw [if_pos h]; congr 1; rw [Bool.eq_iff_iff, decide_eq_true_eq, decide_eq_true_eq]; omega
  · rw [if_neg h]; congr 1; symm; rw [decide_eq_false_iff_not]; omega
theorem refwithin_quiet {a b : Int} {r : Bool} (h : silversideref01_within.f a b = some r) (w : World) : Calls Try.prog 70 #[.int .i64 a, .int .i64 b] w fun e w' => e = .returned (.bool r) ∧ ∃ m, w' = w.drewN m :=
  (silversideref01_within.calls a b r w h).mono fun e w' ⟨he, n, hn⟩ => ⟨he, n, hn⟩
theorem sideW_neg {a b : S31} (ha : okPt a = true) (hb : okPt b = true) {X Y D : Int} (hx : -4398046511104 ≤ X ∧ X ≤ 4398046511104) (hy : -4398046511104 ≤ Y ∧ Y ≤ 4398046511104) (hd : 1 ≤ D ∧ D ≤ 1073741824) : sideW b a X Y D = -sideW a b X Y D := by
  rw [okPt_iff] at ha hb
  have h1 := mul_bd (a := a.f1) (b := D) (m := 4096) (n := 1073741824) (by omega) (by omega)
  have h2 := mul_bd (a := a.f0) (b := D) (m := 4096) (n := 1073741824) (by omega) (by omega)
  have h3 := mul_bd (a := b.f0 - a.f0) (b := Y - a.f1 * D) (m := 8192) (n := 8796093022208) (by omega) (by omega)
  have h4 := mul_bd (a := b.f1 - a.f1) (b := X - a.f0 * D) (m := 8192) (n := 8796093022208) (by omega) (by omega)
  have h5 := mul_bd (a := b.f1) (b := D) (m := 4096) (n := 1073741824) (by omega) (by omega)
  have h6 := mul_bd (a := b.f0) (b := D) (m := 4096) (n := 1073741824) (by omega) (by omega)
  have h7 := mul_bd (a := a.f0 - b.f0) (b := Y - b.f1 * D) (m := 8192) (n := 8796093022208) (by omega) (by omega)
  have h8 := mul_bd (a := a.f1 - b.f1) (b := X - b.f0 * D) (m := 8192) (n := 8796093022208) (by omega) (by omega)
  unfold sideW
  rw [w64i (x := a.f1 * D) (by omega) (by omega), w64i (x := a.f0 * D) (by omega) (by omega), w64i (x := b.f0 - a.f0) (by omega) (by omega), w64i (x := b.f1 - a.f1) (by omega) (by omega), w64i (x := Y - a.f1 * D) (by omega) (by omega), w64i (x := X - a.f0 * D) (by omega) (by omega),
    w64i (x := (b.f0 - a.f0) * (Y - a.f1 * D)) (by omega) (by omega), w64i (x := (b.f1 - a.f1) * (X - a.f0 * D)) (by omega) (by omega), w64i (x := (b.f0 - a.f0) * (Y - a.f1 * D) - _) (by omega) (by omega),
    w64i (x := b.f1 * D) (by omega) (by omega), w64i (x := b.f0 * D) (by omega) (by omega), w64i (x := a.f0 - b.f0) (by omega) (by omega), w64i (x := a.f1 - b.f1) (by omega) (by omega), w64i (x := Y - b.f1 * D) (by omega) (by omega), w64i (x := X - b.f0 * D) (by omega) (by omega),
    w64i (x := (a.f0 - b.f0) * (Y - b.f1 * D)) (by omega) (by omega), w64i (x := (a.f1 - b.f1) * (X - b.f0 * D)) (by omega) (by omega), w64i (by omega) (by omega)]
  grind
/-- the reference's test of a point is the program's -/
theorem refin_holds {H : List S31} (h0 : 1 ≤ H.length) (hok : allOk H = true) {X Y D : Int} (hx : -4398046511104 ≤ X ∧ X ≤ 4398046511104) (hy : -4398046511104 ≤ Y ∧ Y ≤ 4398046511104) (hd : 1 ≤ D ∧ D ≤ 1073741824) : refInB H X Y D = holdsB H X Y D := by
  by_cases h1 : H.length = 1
  · unfold refInB holdsB; rw [if_pos h1, if_pos h1]
  by_cases h2 : H.length = 2
  · have e := sideW_neg (allOk_pt hok 0 (by omega)) (allOk_pt hok 1 (by omega)) hx hy hd
    unfold refInB holdsB
    rw [if_neg h1, if_neg h1, if_pos h2, h2, decide_eq_false (show ¬ 2 < 2 by omega), Bool.false_or, Bool.eq_iff_iff, Bool.and_eq_true, List.all_eq_true, decide_eq_true_eq, decide_eq_true_eq]
    constructor
    · rintro ⟨h3, h4⟩
      have k0 := h3 0 (by simp)
      have k1 := h3 1 (by simp)
      rw [decide_eq_true_eq] at k0 k1
      simp only [Nat.reduceAdd, Nat.reduceMod] at k0 k1
      exact ⟨by omega, h4⟩
    · rintro ⟨h3, h4⟩
      refine ⟨fun i hi => ?_, h4⟩
      rw [List.mem_range] at hi
      rw [decide_eq_true_eq]
      have : i = 0 ∨ i = 1 := by omega
      rcases this with rfl | rfl
      · simp only [Nat.reduceAdd, Nat.reduceMod]; omega
      · simp only [Nat.reduceAdd, Nat.reduceMod]; omega
  · unfold refInB holdsB
    rw [if_neg h1, if_neg h1, if_neg h2, decide_eq_true (show 2 < H.length by omega), Bool.true_or, Bool.and_true]
def silversideref01_Right.f (l0 l1 : List S31) (m : Bool) (x y d u v t : Int) : Option Bool := if isSetB l0 = true ∧ isSetB l1 = true then some (rightB l0 l1 m x y d u v t) else none
def rrightR.T2 : Bool × List (List Nat × List Nat) := (true, [([], []), ([0], [0]), ([1], [1]), ([2], [2]), ([3], [3]), ([4, 3], [3, 4]), ([5, 3], [3, 5]), ([3, 6], [3, 6]), ([7, 3], [7]), ([8], [8]), ([9, 8], [8, 9]), ([10, 8], [8, 10]), ([8, 11], [8, 11]), ([12, 8], [12]), ([13], [13]), ([14, 13], [13, 14]), ([15, 13], [13, 15]), ([13, 16], [13, 16]), ([17, 13], [17]), ([18], [18]), ([19, 18], [18, 19]), ([20, 18], [18, 20]), ([18, 21], [18, 21]), ([22, 18], [22]), ([23], [23]), ([24, 23], [23, 24]), ([25, 23, 23], [23, 25]), ([23, 26], [23, 26]), ([27, 26], [27]), ([28], [28]), ([29, 28], [28, 29]), ([30, 28, 28], [28, 30]), ([28, 31], [28, 31]), ([32, 31], [32]), ([33], [33]), ([34, 33, 33], [33, 34]), ([33], [33]), ([36, 33], [33, 36]), ([33], [33]), ([38, 33], [33, 38]), ([33], [33]), ([40, 33], [33, 40]), ([35, 37, 39, 41, 35, 33], [33, 35, 37, 39, 41]), ([33, 42], [33, 42]), ([43, 42], [43]), ([44], [44]), ([45, 44, 44], [44, 45]), ([44], [44]), ([47, 44], [44, 47]), ([44], [44]), ([49, 44], [44, 49]), ([44], [44]), ([51, 44], [44, 51]), ([46, 48, 50, 52, 46, 44], [44, 46, 48, 50, 52]), ([44, 53], [44, 53]), ([54, 53, 0, 1, 2, 3, 4, 5, 6, 7, 8, 9, 10, 11, 12, 13, 14, 15, 16, 17, 18, 19, 20, 21, 22, 23, 24, 25, 26, 27, 28, 29, 30, 31, 32, 33, 34, 35, 36, 37, 38, 39, 40, 41, 42, 43, 44, 45, 46, 47, 48, 49, 50, 51, 52, 53, 54], [54])])
def rrightR.B2 : List Nat := [0, 1, 3, 7, 15, 31, 63, 127, 255, 511, 1023, 2047, 4095, 8191, 16383, 32767, 65535, 131071, 262143, 524287, 1048575, 2097151, 4194303, 8388607, 16777215, 33554431, 67108863, 134217727, 268435455, 536870911, 1073741823, 2147483647, 4294967295, 8589934591, 17179869183, 34359738367, 17179869183, 85899345919, 17179869183, 292057776127, 17179869183, 1116691496959, 4398046511103, 8796093022207, 17592186044415, 35184372088831, 70368744177663, 35184372088831, 175921860444159, 35184372088831, 598134325510143, 35184372088831, 2286984185774079, 9007199254740991, 18014398509481983, 36028797018963967]
theorem rrightR.tab2 : rtab .any (opsOf Try.f40 2) = rrightR.T2 := by kernel_rfl
theorem rrightR.bits2 : waitsOk rrightR.T2.2 rrightR.B2 = true := by kernel_rfl
set_option maxHeartbeats 40000000 in
set_option maxRecDepth 100000 in
theorem rright_meet (A0 : Option Addr) (c0 : Nat) (a : List S31) (A1 : Option Addr) (c1 : Nat) (b : List S31) (x y d u v t : Int) (w : World) (hr0 : Kd.C k31 w A0 a.length a) (hc0 : a.length ≤ c0) (hr1 : Kd.C k31 w A1 b.length b) (hc1 : b.length ≤ c1) (ha : isSetB a = true) (hb : isSetB b = true) :
    Calls Try.prog 40 #[.slice A0 a.length c0, .slice A1 b.length c1, .agg #[.bool true, .int .i64 x, .int .i64 y, .int .i64 d, .int .i64 u, .int .i64 v, .int .i64 t]] w fun e w' => e = .returned (.bool (rightB a b true x y d u v t)) ∧ Below w.heap.size w w' := by
  obtain ⟨⟨la1, la2⟩, oa⟩ := (isSetB_iff a).1 ha
  obtain ⟨⟨lb1, lb2⟩, ob⟩ := (isSetB_iff b).1 hb
  have HC0 := Aside0.mk (fun W (hb : Below w.heap.size w W) => refhull_calls A0 c0 a W (Kd.C_below hr0 hb) hc0 la1 (by omega) oa)
  have HC1 := Aside0.mk (fun W (hb : Below w.heap.size w W) => refhull_calls A1 c1 b W (Kd.C_below hr1 hb) hc1 lb1 (by omega) ob)
  have hpl := cornersS_len a
  have hql := cornersS_len b
  have hpp := cornersS_pos la1
  have hqp := cornersS_pos lb1
  have HH0 := Aside0.mk (show silversideref01_in.f (cornersS a) x y d = some (refInB (cornersS a) x y d) from if_pos (by omega))
  have HH1 := Aside0.mk (show silversideref01_in.f (cornersS b) x y d = some (refInB (cornersS b) x y d) from if_pos (by omega))
  have HW4 := Aside0.mk (refwithin_is x 4398046511104 (by omega))
  have HW5 := Aside0.mk (refwithin_is y 4398046511104 (by omega))
  have HE := Aside0.mk (show rightB a b true x y d u v t = ((u == 0) && ((v == 0) && ((t == 0) && (decide (1 ≤ d) && (decide (d ≤ 1073741824) && (decide (-4398046511104 ≤ x ∧ x ≤ 4398046511104) && (decide (-4398046511104 ≤ y ∧ y ≤ 4398046511104) && (refInB (cornersS a) x y d && refInB (cornersS b) x y d)))))))) from by
    have hsplit : decide (1 ≤ d ∧ d ≤ 1073741824) = (decide (1 ≤ d) && decide (d ≤ 1073741824)) := by rw [Bool.eq_iff_iff]; simp
    have e : rightB a b true x y d u v t = ((u == 0) && ((v == 0) && ((t == 0) && (decide (1 ≤ d ∧ d ≤ 1073741824) && (decide (-4398046511104 ≤ x ∧ x ≤ 4398046511104) && (decide (-4398046511104 ≤ y ∧ y ≤ 4398046511104) && (holdsB (cornersS a) x y d && holdsB (cornersS b) x y d))))))) := rfl
    rw [e]
    by_cases hd : 1 ≤ d ∧ d ≤ 1073741824
    · by_cases hx : -4398046511104 ≤ x ∧ x ≤ 4398046511104
      · by_cases hy : -4398046511104 ≤ y ∧ y ≤ 4398046511104
        · rw [refin_holds hpp (cornersS_ok oa) hx hy hd, refin_holds hqp (cornersS_ok ob) hx hy hd, hsplit, Bool.and_assoc]
        · rw [decide_eq_false hy, hsplit]; simp
      · rw [decide_eq_false hx, hsplit]; simp
    · rw [decide_eq_false hd]
      cases h1 : decide (1 ≤ d)
      · simp
      · rw [show decide (d ≤ 1073741824) = false by rw [decide_eq_false_iff_not]; intro h; exact hd ⟨of_decide_eq_true h1, h⟩]; simp)
  have HB := Aside0.mk (lA (Below.refl w.heap.size w) (Obj.cells #[.bool true, .int .i64 x, .int .i64 y, .int .i64 d, .int .i64 u, .int .i64 v, .int .i64 t] 44))
  obtain ⟨f0, f1, f2, f3, f4, f5, f6⟩ := cells7 (heap_alloc_new w (Obj.cells #[.bool true, .int .i64 x, .int .i64 y, .int .i64 d, .int .i64 u, .int .i64 v, .int .i64 t] 44))
  clear hr0 hr1 ha hb oa ob hpl hql la1 la2 lb1 lb2 hpp hqp
  generalize rightB a b true x y d u v t = r at *
  generalize cornersS a = p at *
  generalize cornersS b = q at *
  generalize decide (-4398046511104 ≤ x ∧ x ≤ 4398046511104) = t4 at *
  generalize decide (-4398046511104 ≤ y ∧ y ≤ 4398046511104) = t5 at *
  generalize refInB p x y d = t6 at *
  generalize refInB q x y d = t7 at *
  go_enter Try.func40, Try.ntmps40
  go_wp2
  generalize w.alloc (Obj.cells #[.bool true, .int .i64 x, .int .i64 y, .int .i64 d, .int .i64 u, .int .i64 v, .int .i64 t] 44) = W at *
  cases h0 : (u == 0)
  · have HR := Aside0.mk (show r = false by rw [HE.out, h0]; simp)
    go_quiet (first | (go_at_call 70; with_reducible refine Calls.quiet_of (refwithin_quiet HW4.out _)) | (go_at_call 70; with_reducible refine Calls.quiet_of (refwithin_quiet HW5.out _)))
    try go_wp2
    go_ret
    exact ⟨by rw [HR.out]; rfl, lN HB.out _⟩
  cases h1 : (v == 0)
  · have HR := Aside0.mk (show r = false by rw [HE.out, h0, h1]; simp)
    go_quiet (first | (go_at_call 70; with_reducible refine Calls.quiet_of (refwithin_quiet HW4.out _)) | (go_at_call 70; with_reducible refine Calls.quiet_of (refwithin_quiet HW5.out _)))
    try go_wp2
    go_ret
    exact ⟨by rw [HR.out]; rfl, lN HB.out _⟩
  cases h2 : (t == 0)
  · have HR := Aside0.mk (show r = false by rw [HE.out, h0, h1, h2]; simp)
    go_quiet (first | (go_at_call 70; with_reducible refine Calls.quiet_of (refwithin_quiet HW4.out _)) | (go_at_call 70; with_reducible refine Calls.quiet_of (refwithin_quiet HW5.out _)))
    try go_wp2
    go_ret
    exact ⟨by rw [HR.out]; rfl, lN HB.out _⟩
  cases h3 : decide (1 ≤ d)
  · have HR := Aside0.mk (show r = false by rw [HE.out, h0, h1, h2, h3]; simp)
    go_quiet (first | (go_at_call 70; with_reducible refine Calls.quiet_of (refwithin_quiet HW4.out _)) | (go_at_call 70; with_reducible refine Calls.quiet_of (refwithin_quiet HW5.out _)))
    try go_wp2
    go_ret
    exact ⟨by rw [HR.out]; rfl, lN HB.out _⟩
  cases h4 : decide (d ≤ 1073741824)
  · have HR := Aside0.mk (show r = false by rw [HE.out, h0, h1, h2, h3, h4]; simp)
    go_quiet (first | (go_at_call 70; with_reducible refine Calls.quiet_of (refwithin_quiet HW4.out _)) | (go_at_call 70; with_reducible refine Calls.quiet_of (refwithin_quiet HW5.out _)))
    try go_wp2
    go_ret
    exact ⟨by rw [HR.out]; rfl, lN HB.out _⟩
  cases t4
  · have HR := Aside0.mk (show r = false by rw [HE.out, h0, h1, h2, h3, h4]; simp)
    go_quiet (first | (go_at_call 70; with_reducible refine Calls.quiet_of (refwithin_quiet HW4.out _)) | (go_at_call 70; with_reducible refine Calls.quiet_of (refwithin_quiet HW5.out _)))
    try go_wp2
    go_ret
    exact ⟨by rw [HR.out]; rfl, lN HB.out _⟩
  cases t5
  · have HR := Aside0.mk (show r = false by rw [HE.out, h0, h1, h2, h3, h4]; simp)
    go_quiet (first | (go_at_call 70; with_reducible refine Calls.quiet_of (refwithin_quiet HW4.out _)) | (go_at_call 70; with_reducible refine Calls.quiet_of (refwithin_quiet HW5.out _)))
    try go_wp2
    go_ret
    exact ⟨by rw [HR.out]; rfl, lN HB.out _⟩
  cases t6
  · have HR := Aside0.mk (show r = false by rw [HE.out, h0, h1, h2, h3, h4]; simp)
    refine start_ (n := 56) (S := fun w' => w'.cell? ⟨w.heap.size, 1, none⟩ = some (.int .i64 x) ∧ w'.cell? ⟨w.heap.size, 2, none⟩ = some (.int .i64 y) ∧ w'.cell? ⟨w.heap.size, 3, none⟩ = some (.int .i64 d) ∧ w'.cell? ⟨w.heap.size, 4, none⟩ = some (.int .i64 u) ∧ w'.cell? ⟨w.heap.size, 5, none⟩ = some (.int .i64 v) ∧ w'.cell? ⟨w.heap.size, 6, none⟩ = some (.int .i64 t)) (ds := []) (Bs 0 56) (by kernel_rfl) rfl rfl ⟨f1, f2, f3, f4, f5, f6⟩ (fun hHeld => ?_)
    refine with_tabW rrightR.tab2 rrightR.bits2 (fun HT_ HW_ => ?_)
    refine pu 0 11 (Bs 1 56) HT_ ?_
    refine ta 1 12 (Bs 2 56) HT_ HW_ hHeld ?_
    refine pu 2 13 (Bs 3 56) HT_ ?_
    refine pu 3 14 (Bs 4 56) HT_ ?_
    refine pu 4 15 (Bs 5 56) HT_ ?_
    refine ta 5 16 (Bs 6 56) HT_ HW_ hHeld ?_
    refine pu 6 17 (Bs 7 56) HT_ ?_
    refine pu 7 18 (Bs 8 56) HT_ ?_
    refine pu 8 19 (Bs 9 56) HT_ ?_
    refine pu 9 20 (Bs 10 56) HT_ ?_
    refine ta 10 21 (Bs 11 56) HT_ HW_ hHeld ?_
    refine pu 11 22 (Bs 12 56) HT_ ?_
    refine pu 12 23 (Bs 13 56) HT_ ?_
    refine pu 13 24 (Bs 14 56) HT_ ?_
    refine pu 14 25 (Bs 15 56) HT_ ?_
    refine ta 15 26 (Bs 16 56) HT_ HW_ hHeld ?_
    refine pu 16 27 (Bs 17 56) HT_ ?_
    refine pu 17 28 (Bs 18 56) HT_ ?_
    refine pu 18 29 (Bs 19 56) HT_ ?_
    refine pu 19 30 (Bs 20 56) HT_ ?_
    refine ta 20 31 (Bs 21 56) HT_ HW_ hHeld ?_
    refine pu 21 32 (Bs 22 56) HT_ ?_
    refine pu 22 33 (Bs 23 56) HT_ ?_
    refine pu 23 34 (Bs 24 56) HT_ ?_
    refine pu 24 35 (Bs 25 56) HT_ ?_
    refine ta 25 36 (Bs 26 56) HT_ HW_ hHeld ?_
    refine one_ (i := 26) (N := some 37) (Bs 27 56) rfl rfl (one_of HT_.out (by kernel_rfl)) (by decide) (fun K hK => ?_)
    refine goes_ Try.func70 (by kernel_rfl) rfl #[.int .i64 x, .int .i64 (4398046511104)] (by rfl) rfl rfl (by simp only [List.map_toArray, List.map_cons, List.map_nil]; rfl) ?_
    with_reducible refine (silversideref01_within.calls _ _ _ _ HW4.out).mono ?_
    rintro e w' ⟨rfl, ⟨n2, rfl⟩⟩
    refine ⟨_, rfl, ?_⟩
    refine hK.out _ _ ⟨hHeld.1, hHeld.2.1, hHeld.2.2.1, hHeld.2.2.2.1, hHeld.2.2.2.2.1, hHeld.2.2.2.2.2⟩ (fun hHeld => ?_)
    clear hK K
    refine nm 37 ?_
    refine pu 27 38 (Bs 28 56) HT_ ?_
    refine pu 28 39 (Bs 29 56) HT_ ?_
    refine pu 29 40 (Bs 30 56) HT_ ?_
    refine ta 30 41 (Bs 31 56) HT_ HW_ hHeld ?_
    refine one_ (i := 31) (N := some 42) (Bs 32 56) rfl rfl (one_of HT_.out (by kernel_rfl)) (by decide) (fun K hK => ?_)
    refine goes_ Try.func70 (by kernel_rfl) rfl #[.int .i64 y, .int .i64 (4398046511104)] (by rfl) rfl rfl (by simp only [List.map_toArray, List.map_cons, List.map_nil]; rfl) ?_
    with_reducible refine (silversideref01_within.calls _ _ _ _ HW5.out).mono ?_
    rintro e w' ⟨rfl, ⟨n3, rfl⟩⟩
    refine ⟨_, rfl, ?_⟩
    have HB3 := Aside0.mk (lN (lN (below_drew HB.out) n2) n3)
    refine hK.out _ _ ⟨hHeld.1, hHeld.2.1, hHeld.2.2.1, hHeld.2.2.2.1, hHeld.2.2.2.2.1, hHeld.2.2.2.2.2⟩ (fun hHeld => ?_)
    clear hK K
    refine nm 42 ?_
    refine pu 32 43 (Bs 33 56) HT_ ?_
    refine pu 33 44 (Bs 34 56) HT_ ?_
    refine pu 34 45 (Bs 35 56) HT_ ?_
    refine pu 36 47 (Br [35,1,1,19]) HT_ ?_
    refine pu 38 49 (Br [35,1,1,1,1,17]) HT_ ?_
    refine pu 40 51 (Br [35,1,1,1,1,1,1,15]) HT_ ?_
    refine ta 37 48 (Br [35,1,3,1,1,15]) HT_ HW_ hHeld ?_
    refine ta 39 50 (Br [35,1,5,15]) HT_ HW_ hHeld ?_
    refine ta 41 52 (Br [35,1,6,14]) HT_ HW_ hHeld ?_
    refine one_ (i := 35) (N := some 46) (Bs 42 56) rfl rfl (one_of HT_.out (by kernel_rfl)) (by decide) (fun K hK => ?_)
    refine goes_ Try.func35 (by kernel_rfl) rfl #[.slice A0 a.length c0] (by rfl) rfl rfl (by simp only [List.map_toArray, List.map_cons, List.map_nil]; rfl) ?_
    with_reducible refine (HC0.out _ HB3.out).mono ?_
    rintro e w4 ⟨v4, rfl, hR4, hb4⟩
    refine ⟨_, rfl, ?_⟩
    have HB4 := Aside0.mk (below_step HB3.out hb4)
    obtain ⟨A4, c4, e4⟩ := Kd.R_slice hR4
    subst e4
    have HR4 := Aside0.mk (Kd.R_reads' hR4)
    clear hR4
    refine hK.out _ _ ⟨(hb4.cell (World.block_lt_of_cell? _ _ hHeld.1)).trans hHeld.1, (hb4.cell (World.block_lt_of_cell? _ _ hHeld.2.1)).trans hHeld.2.1, (hb4.cell (World.block_lt_of_cell? _ _ hHeld.2.2.1)).trans hHeld.2.2.1, (hb4.cell (World.block_lt_of_cell? _ _ hHeld.2.2.2.1)).trans hHeld.2.2.2.1, (hb4.cell (World.block_lt_of_cell? _ _ hHeld.2.2.2.2.1)).trans hHeld.2.2.2.2.1, (hb4.cell (World.block_lt_of_cell? _ _ hHeld.2.2.2.2.2)).trans hHeld.2.2.2.2.2⟩ (fun hHeld => ?_)
    clear hK K
    refine nm 46 ?_
    refine one_ (i := 42) (N := some 53) (Bs 43 56) rfl rfl (one_of HT_.out (by kernel_rfl)) (by decide) (fun K hK => ?_)
    refine goes_ Try.func71 (by kernel_rfl) rfl #[.slice A4 p.length c4, .int .i64 x, .int .i64 y, .int .i64 d] (by rfl) rfl rfl (by simp only [List.map_toArray, List.map_cons, List.map_nil]; rfl) ?_
    with_reducible refine (silversideref01_in.calls A4 c4 p x y d _ _ HR4.out.2.2 HR4.out.2.1 HH0.out).mono ?_
    rintro e w5 ⟨rfl, hb5⟩
    refine ⟨_, rfl, ?_⟩
    have HB5 := Aside0.mk (below_step HB4.out hb5)
    refine hK.out _ _ ⟨(hb5.cell (World.block_lt_of_cell? _ _ hHeld.1)).trans hHeld.1, (hb5.cell (World.block_lt_of_cell? _ _ hHeld.2.1)).trans hHeld.2.1, (hb5.cell (World.block_lt_of_cell? _ _ hHeld.2.2.1)).trans hHeld.2.2.1, (hb5.cell (World.block_lt_of_cell? _ _ hHeld.2.2.2.1)).trans hHeld.2.2.2.1, (hb5.cell (World.block_lt_of_cell? _ _ hHeld.2.2.2.2.1)).trans hHeld.2.2.2.2.1, (hb5.cell (World.block_lt_of_cell? _ _ hHeld.2.2.2.2.2)).trans hHeld.2.2.2.2.2⟩ (fun hHeld => ?_)
    clear hK K
    refine nm 53 ?_
    refine pu 43 54 (Bs 44 56) HT_ ?_
    refine pu 44 55 (Bs 45 56) HT_ ?_
    refine po 45 56 (Bs 46 56) HT_ ?_
    refine po 46 57 (Bs 47 56) HT_ ?_
    refine po 47 58 (Bs 48 56) HT_ ?_
    refine po 48 59 (Bs 49 56) HT_ ?_
    refine po 49 60 (Bs 50 56) HT_ ?_
    refine po 50 61 (Bs 51 56) HT_ ?_
    refine po 51 62 (Bs 52 56) HT_ ?_
    refine po 52 63 (Bs 53 56) HT_ ?_
    refine po 53 64 (Bs 54 56) HT_ ?_
    refine pu 54 65 (Bs 55 56) HT_ ?_
    refine pu 55 6 (Bs 56 56) HT_ ?_
    refine done_ (done_of HT_.out (by kernel_rfl)) ?_
    try go_wp2
    all_goals (go_ret; exact ⟨by rw [HR.out]; rfl, HB5.out⟩)
  have HR := Aside0.mk (show r = t7 by rw [HE.out, h0, h1, h2, h3, h4]; simp)
  refine start_ (n := 56) (S := fun w' => w'.cell? ⟨w.heap.size, 1, none⟩ = some (.int .i64 x) ∧ w'.cell? ⟨w.heap.size, 2, none⟩ = some (.int .i64 y) ∧ w'.cell? ⟨w.heap.size, 3, none⟩ = some (.int .i64 d) ∧ w'.cell? ⟨w.heap.size, 4, none⟩ = some (.int .i64 u) ∧ w'.cell? ⟨w.heap.size, 5, none⟩ = some (.int .i64 v) ∧ w'.cell? ⟨w.heap.size, 6, none⟩ = some (.int .i64 t)) (ds := []) (Bs 0 56) (by kernel_rfl) rfl rfl ⟨f1, f2, f3, f4, f5, f6⟩ (fun hHeld => ?_)
  refine with_tabW rrightR.tab2 rrightR.bits2 (fun HT_ HW_ => ?_)
  refine pu 0 11 (Bs 1 56) HT_ ?_
  refine ta 1 12 (Bs 2 56) HT_ HW_ hHeld ?_
  refine pu 2 13 (Bs 3 56) HT_ ?_
  refine pu 3 14 (Bs 4 56) HT_ ?_
  refine pu 4 15 (Bs 5 56) HT_ ?_
  refine ta 5 16 (Bs 6 56) HT_ HW_ hHeld ?_
  refine pu 6 17 (Bs 7 56) HT_ ?_
  refine pu 7 18 (Bs 8 56) HT_ ?_
  refine pu 8 19 (Bs 9 56) HT_ ?_
  refine pu 9 20 (Bs 10 56) HT_ ?_
  refine ta 10 21 (Bs 11 56) HT_ HW_ hHeld ?_
  refine pu 11 22 (Bs 12 56) HT_ ?_
  refine pu 12 23 (Bs 13 56) HT_ ?_
  refine pu 13 24 (Bs 14 56) HT_ ?_
  refine pu 14 25 (Bs 15 56) HT_ ?_
  refine ta 15 26 (Bs 16 56) HT_ HW_ hHeld ?_
  refine pu 16 27 (Bs 17 56) HT_ ?_
  refine pu 17 28 (Bs 18 56) HT_ ?_
  refine pu 18 29 (Bs 19 56) HT_ ?_
  refine pu 19 30 (Bs 20 56) HT_ ?_
  refine ta 20 31 (Bs 21 56) HT_ HW_ hHeld ?_
  refine pu 21 32 (Bs 22 56) HT_ ?_
  refine pu 22 33 (Bs 23 56) HT_ ?_
  refine pu 23 34 (Bs 24 56) HT_ ?_
  refine pu 24 35 (Bs 25 56) HT_ ?_
  refine ta 25 36 (Bs 26 56) HT_ HW_ hHeld ?_
  refine one_ (i := 26) (N := some 37) (Bs 27 56) rfl rfl (one_of HT_.out (by kernel_rfl)) (by decide) (fun K hK => ?_)
  refine goes_ Try.func70 (by kernel_rfl) rfl #[.int .i64 x, .int .i64 (4398046511104)] (by rfl) rfl rfl (by simp only [List.map_toArray, List.map_cons, List.map_nil]; rfl) ?_
  with_reducible refine (silversideref01_within.calls _ _ _ _ HW4.out).mono ?_
  rintro e w' ⟨rfl, ⟨n2, rfl⟩⟩
  refine ⟨_, rfl, ?_⟩
  refine hK.out _ _ ⟨hHeld.1, hHeld.2.1, hHeld.2.2.1, hHeld.2.2.2.1, hHeld.2.2.2.2.1, hHeld.2.2.2.2.2⟩ (fun hHeld => ?_)
  clear hK K
  refine nm 37 ?_
  refine pu 27 38 (Bs 28 56) HT_ ?_
  refine pu 28 39 (Bs 29 56) HT_ ?_
  refine pu 29 40 (Bs 30 56) HT_ ?_
  refine ta 30 41 (Bs 31 56) HT_ HW_ hHeld ?_
  refine one_ (i := 31) (N := some 42) (Bs 32 56) rfl rfl (one_of HT_.out (by kernel_rfl)) (by decide) (fun K hK => ?_)
  refine goes_ Try.func70 (by kernel_rfl) rfl #[.int .i64 y, .int .i64 (4398046511104)] (by rfl) rfl rfl (by simp only [List.map_toArray, List.map_cons, List.map_nil]; rfl) ?_
  with_reducible refine (silversideref01_within.calls _ _ _ _ HW5.out).mono ?_
  rintro e w' ⟨rfl, ⟨n3, rfl⟩⟩
  refine ⟨_, rfl, ?_⟩
  have HB3 := Aside0.mk (lN (lN (below_drew HB.out) n2) n3)
  refine hK.out _ _ ⟨hHeld.1, hHeld.2.1, hHeld.2.2.1, hHeld.2.2.2.1, hHeld.2.2.2.2.1, hHeld.2.2.2.2.2⟩ (fun hHeld => ?_)
  clear hK K
  refine nm 42 ?_
  refine pu 32 43 (Bs 33 56) HT_ ?_
  refine pu 33 44 (Bs 34 56) HT_ ?_
  refine pu 34 45 (Bs 35 56) HT_ ?_
  refine pu 36 47 (Br [35,1,1,19]) HT_ ?_
  refine pu 38 49 (Br [35,1,1,1,1,17]) HT_ ?_
  refine pu 40 51 (Br [35,1,1,1,1,1,1,15]) HT_ ?_
  refine ta 37 48 (Br [35,1,3,1,1,15]) HT_ HW_ hHeld ?_
  refine ta 39 50 (Br [35,1,5,15]) HT_ HW_ hHeld ?_
  refine ta 41 52 (Br [35,1,6,14]) HT_ HW_ hHeld ?_
  refine one_ (i := 35) (N := some 46) (Bs 42 56) rfl rfl (one_of HT_.out (by kernel_rfl)) (by decide) (fun K hK => ?_)
  refine goes_ Try.func35 (by kernel_rfl) rfl #[.slice A0 a.length c0] (by rfl) rfl rfl (by simp only [List.map_toArray, List.map_cons, List.map_nil]; rfl) ?_
  with_reducible refine (HC0.out _ HB3.out).mono ?_
  rintro e w4 ⟨v4, rfl, hR4, hb4⟩
  refine ⟨_, rfl, ?_⟩
  have HB4 := Aside0.mk (below_step HB3.out hb4)
  obtain ⟨A4, c4, e4⟩ := Kd.R_slice hR4
  subst e4
  have HR4 := Aside0.mk (Kd.R_reads' hR4)
  clear hR4
  refine hK.out _ _ ⟨(hb4.cell (World.block_lt_of_cell? _ _ hHeld.1)).trans hHeld.1, (hb4.cell (World.block_lt_of_cell? _ _ hHeld.2.1)).trans hHeld.2.1, (hb4.cell (World.block_lt_of_cell? _ _ hHeld.2.2.1)).trans hHeld.2.2.1, (hb4.cell (World.block_lt_of_cell? _ _ hHeld.2.2.2.1)).trans hHeld.2.2.2.1, (hb4.cell (World.block_lt_of_cell? _ _ hHeld.2.2.2.2.1)).trans hHeld.2.2.2.2.1, (hb4.cell (World.block_lt_of_cell? _ _ hHeld.2.2.2.2.2)).trans hHeld.2.2.2.2.2⟩ (fun hHeld => ?_)
  clear hK K
  refine nm 46 ?_
  refine one_ (i := 42) (N := some 53) (Bs 43 56) rfl rfl (one_of HT_.out (by kernel_rfl)) (by decide) (fun K hK => ?_)
  refine goes_ Try.func71 (by kernel_rfl) rfl #[.slice A4 p.length c4, .int .i64 x, .int .i64 y, .int .i64 d] (by rfl) rfl rfl (by simp only [List.map_toArray, List.map_cons, List.map_nil]; rfl) ?_
  with_reducible refine (silversideref01_in.calls A4 c4 p x y d _ _ HR4.out.2.2 HR4.out.2.1 HH0.out).mono ?_
  rintro e w5 ⟨rfl, hb5⟩
  refine ⟨_, rfl, ?_⟩
  have HB5 := Aside0.mk (below_step HB4.out hb5)
  refine hK.out _ _ ⟨(hb5.cell (World.block_lt_of_cell? _ _ hHeld.1)).trans hHeld.1, (hb5.cell (World.block_lt_of_cell? _ _ hHeld.2.1)).trans hHeld.2.1, (hb5.cell (World.block_lt_of_cell? _ _ hHeld.2.2.1)).trans hHeld.2.2.1, (hb5.cell (World.block_lt_of_cell? _ _ hHeld.2.2.2.1)).trans hHeld.2.2.2.1, (hb5.cell (World.block_lt_of_cell? _ _ hHeld.2.2.2.2.1)).trans hHeld.2.2.2.2.1, (hb5.cell (World.block_lt_of_cell? _ _ hHeld.2.2.2.2.2)).trans hHeld.2.2.2.2.2⟩ (fun hHeld => ?_)
  clear hK K
  refine nm 53 ?_
  refine pu 43 54 (Bs 44 56) HT_ ?_
  refine pu 44 55 (Bs 45 56) HT_ ?_
  refine pu 45 56 (Bs 46 56) HT_ ?_
  refine pu 47 58 (Br [46,1,1,8]) HT_ ?_
  refine pu 49 60 (Br [46,1,1,1,1,6]) HT_ ?_
  refine pu 51 62 (Br [46,1,1,1,1,1,1,4]) HT_ ?_
  refine ta 48 59 (Br [46,1,3,1,1,4]) HT_ HW_ hHeld ?_
  refine ta 50 61 (Br [46,1,5,4]) HT_ HW_ hHeld ?_
  refine ta 52 63 (Br [46,1,6,3]) HT_ HW_ hHeld ?_
  refine one_ (i := 46) (N := some 57) (Bs 53 56) rfl rfl (one_of HT_.out (by kernel_rfl)) (by decide) (fun K hK => ?_)
  refine goes_ Try.func35 (by kernel_rfl) rfl #[.slice A1 b.length c1] (by rfl) rfl rfl (by simp only [List.map_toArray, List.map_cons, List.map_nil]; rfl) ?_
  with_reducible refine (HC1.out _ HB5.out).mono ?_
  rintro e w6 ⟨v6, rfl, hR6, hb6⟩
  refine ⟨_, rfl, ?_⟩
  have HB6 := Aside0.mk (below_step HB5.out hb6)
  obtain ⟨A6, c6, e6⟩ := Kd.R_slice hR6
  subst e6
  have HR6 := Aside0.mk (Kd.R_reads' hR6)
  clear hR6
  refine hK.out _ _ ⟨(hb6.cell (World.block_lt_of_cell? _ _ hHeld.1)).trans hHeld.1, (hb6.cell (World.block_lt_of_cell? _ _ hHeld.2.1)).trans hHeld.2.1, (hb6.cell (World.block_lt_of_cell? _ _ hHeld.2.2.1)).trans hHeld.2.2.1, (hb6.cell (World.block_lt_of_cell? _ _ hHeld.2.2.2.1)).trans hHeld.2.2.2.1, (hb6.cell (World.block_lt_of_cell? _ _ hHeld.2.2.2.2.1)).trans hHeld.2.2.2.2.1, (hb6.cell (World.block_lt_of_cell? _ _ hHeld.2.2.2.2.2)).trans hHeld.2.2.2.2.2⟩ (fun hHeld => ?_)
  clear hK K
  refine nm 57 ?_
  refine one_ (i := 53) (N := some 64) (Bs 54 56) rfl rfl (one_of HT_.out (by kernel_rfl)) (by decide) (fun K hK => ?_)
  refine goes_ Try.func71 (by kernel_rfl) rfl #[.slice A6 q.length c6, .int .i64 x, .int .i64 y, .int .i64 d] (by rfl) rfl rfl (by simp only [List.map_toArray, List.map_cons, List.map_nil]; rfl) ?_
  with_reducible refine (silversideref01_in.calls A6 c6 q x y d _ _ HR6.out.2.2 HR6.out.2.1 HH1.out).mono ?_
  rintro e w7 ⟨rfl, hb7⟩
  refine ⟨_, rfl, ?_⟩
  have HB7 := Aside0.mk (below_step HB6.out hb7)
  refine hK.out _ _ ⟨(hb7.cell (World.block_lt_of_cell? _ _ hHeld.1)).trans hHeld.1, (hb7.cell (World.block_lt_of_cell? _ _ hHeld.2.1)).trans hHeld.2.1, (hb7.cell (World.block_lt_of_cell? _ _ hHeld.2.2.1)).trans hHeld.2.2.1, (hb7.cell (World.block_lt_of_cell? _ _ hHeld.2.2.2.1)).trans hHeld.2.2.2.1, (hb7.cell (World.block_lt_of_cell? _ _ hHeld.2.2.2.2.1)).trans hHeld.2.2.2.2.1, (hb7.cell (World.block_lt_of_cell? _ _ hHeld.2.2.2.2.2)).trans hHeld.2.2.2.2.2⟩ (fun hHeld => ?_)
  clear hK K
  refine nm 64 ?_
  refine pu 54 65 (Bs 55 56) HT_ ?_
  refine pu 55 6 (Bs 56 56) HT_ ?_
  refine done_ (done_of HT_.out (by kernel_rfl)) ?_
  try go_wp2
  all_goals (go_ret; exact ⟨by rw [HR.out]; rfl, HB7.out⟩)
set_option maxHeartbeats 40000000 in
set_option maxRecDepth 100000 in
theorem rright_line (A0 : Option Addr) (c0 : Nat) (a : List S31) (A1 : Option Addr) (c1 : Nat) (b : List S31) (x y d u v t : Int) (w : World) (hr0 : Kd.C k31 w A0 a.length a) (hc0 : a.length ≤ c0) (hr1 : Kd.C k31 w A1 b.length b) (hc1 : b.length ≤ c1) (ha : isSetB a = true) (hb : isSetB b = true) :
    Calls Try.prog 40 #[.slice A0 a.length c0, .slice A1 b.length c1, .agg #[.bool false, .int .i64 x, .int .i64 y, .int .i64 d, .int .i64 u, .int .i64 v, .int .i64 t]] w fun e w' => e = .returned (.bool (rightB a b false x y d u v t)) ∧ Below w.heap.size w w' := by
  obtain ⟨⟨la1, la2⟩, oa⟩ := (isSetB_iff a).1 ha
  obtain ⟨⟨lb1, lb2⟩, ob⟩ := (isSetB_iff b).1 hb
  have HW3 := Aside0.mk (refwithin_is u 1073741824 (by omega))
  have HW4 := Aside0.mk (refwithin_is v 1073741824 (by omega))
  have HW5 := Aside0.mk (refwithin_is t 1152921504606846976 (by omega))
  have HE := Aside0.mk (show rightB a b false x y d u v t = ((x == 0) && ((y == 0) && ((d == 0) && (decide (-1073741824 ≤ u ∧ u ≤ 1073741824) && (decide (-1073741824 ≤ v ∧ v ≤ 1073741824) && (decide (-1152921504606846976 ≤ t ∧ t ≤ 1152921504606846976) && ((a.all fun p => decide (lin u v p < t)) && (b.all fun p => decide (t < lin u v p))))))))) from rfl)
  have HB := Aside0.mk (lA (Below.refl w.heap.size w) (Obj.cells #[.bool false, .int .i64 x, .int .i64 y, .int .i64 d, .int .i64 u, .int .i64 v, .int .i64 t] 44))
  have HG := Aside0.mk (heap_alloc_new w (Obj.cells #[.bool false, .int .i64 x, .int .i64 y, .int .i64 d, .int .i64 u, .int .i64 v, .int .i64 t] 44))
  have HRA := Aside0.mk (Kd.C_below hr0 HB.out)
  have HRB := Aside0.mk (Kd.C_below hr1 HB.out)
  have HOA := Aside0.mk oa
  have HOB := Aside0.mk ob
  obtain ⟨f0, f1, f2, f3, f4, f5, f6⟩ := cells7 HG.out
  clear hr0 hr1 ha hb oa ob la1 lb1
  generalize rightB a b false x y d u v t = r at *
  cases h0 : (x == 0)
  · have HR := Aside0.mk (show r = false by rw [HE.out, h0]; simp)
    have m0 : (x != 0) = true := by simp only [bne, h0]; rfl
    go_enter Try.func40, Try.ntmps40
    go_wp2_with (first | (go_at_call 70; with_reducible refine (silversideref01_within.calls _ _ _ _ HW3.out).mono ?_; rintro e w' ⟨rfl, ⟨nd, rfl⟩⟩) | (go_at_call 70; with_reducible refine (silversideref01_within.calls _ _ _ _ HW4.out).mono ?_; rintro e w' ⟨rfl, ⟨nd, rfl⟩⟩) | (go_at_call 70; with_reducible refine (silversideref01_within.calls _ _ _ _ HW5.out).mono ?_; rintro e w' ⟨rfl, ⟨nd, rfl⟩⟩))
    go_ret
    exact ⟨by rw [HR.out]; rfl, by repeat (first | exact HB.out | apply lN)⟩
  have m0 : (x != 0) = false := by simp only [bne, h0]; rfl
  cases h1 : (y == 0)
  · have HR := Aside0.mk (show r = false by rw [HE.out, h0, h1]; simp)
    have m1 : (y != 0) = true := by simp only [bne, h1]; rfl
    go_enter Try.func40, Try.ntmps40
    go_wp2_with (first | (go_at_call 70; with_reducible refine (silversideref01_within.calls _ _ _ _ HW3.out).mono ?_; rintro e w' ⟨rfl, ⟨nd, rfl⟩⟩) | (go_at_call 70; with_reducible refine (silversideref01_within.calls _ _ _ _ HW4.out).mono ?_; rintro e w' ⟨rfl, ⟨nd, rfl⟩⟩) | (go_at_call 70; with_reducible refine (silversideref01_within.calls _ _ _ _ HW5.out).mono ?_; rintro e w' ⟨rfl, ⟨nd, rfl⟩⟩))
    go_ret
    exact ⟨by rw [HR.out]; rfl, by repeat (first | exact HB.out | apply lN)⟩
  have m1 : (y != 0) = false := by simp only [bne, h1]; rfl
  cases h2 : (d == 0)
  · have HR := Aside0.mk (show r = false by rw [HE.out, h0, h1, h2]; simp)
    have m2 : (d != 0) = true := by simp only [bne, h2]; rfl
    go_enter Try.func40, Try.ntmps40
    go_wp2_with (first | (go_at_call 70; with_reducible refine (silversideref01_within.calls _ _ _ _ HW3.out).mono ?_; rintro e w' ⟨rfl, ⟨nd, rfl⟩⟩) | (go_at_call 70; with_reducible refine (silversideref01_within.calls _ _ _ _ HW4.out).mono ?_; rintro e w' ⟨rfl, ⟨nd, rfl⟩⟩) | (go_at_call 70; with_reducible refine (silversideref01_within.calls _ _ _ _ HW5.out).mono ?_; rintro e w' ⟨rfl, ⟨nd, rfl⟩⟩))
    go_ret
    exact ⟨by rw [HR.out]; rfl, by repeat (first | exact HB.out | apply lN)⟩
  have m2 : (d != 0) = false := by simp only [bne, h2]; rfl
  cases h3 : decide (-1073741824 ≤ u ∧ u ≤ 1073741824)
  · rw [h3] at HW3
    have HR := Aside0.mk (show r = false by rw [HE.out, h0, h1, h2, h3]; simp)
    go_enter Try.func40, Try.ntmps40
    go_wp2_with (first | (go_at_call 70; with_reducible refine (silversideref01_within.calls _ _ _ _ HW3.out).mono ?_; rintro e w' ⟨rfl, ⟨nd, rfl⟩⟩) | (go_at_call 70; with_reducible refine (silversideref01_within.calls _ _ _ _ HW4.out).mono ?_; rintro e w' ⟨rfl, ⟨nd, rfl⟩⟩) | (go_at_call 70; with_reducible refine (silversideref01_within.calls _ _ _ _ HW5.out).mono ?_; rintro e w' ⟨rfl, ⟨nd, rfl⟩⟩))
    go_ret
    exact ⟨by rw [HR.out]; rfl, by repeat (first | exact HB.out | apply lN)⟩
  rw [h3] at HW3
  cases h4 : decide (-1073741824 ≤ v ∧ v ≤ 1073741824)
  · rw [h4] at HW4
    have HR := Aside0.mk (show r = false by rw [HE.out, h0, h1, h2, h3, h4]; simp)
    go_enter Try.func40, Try.ntmps40
    go_wp2_with (first | (go_at_call 70; with_reducible refine (silversideref01_within.calls _ _ _ _ HW3.out).mono ?_; rintro e w' ⟨rfl, ⟨nd, rfl⟩⟩) | (go_at_call 70; with_reducible refine (silversideref01_within.calls _ _ _ _ HW4.out).mono ?_; rintro e w' ⟨rfl, ⟨nd, rfl⟩⟩) | (go_at_call 70; with_reducible refine (silversideref01_within.calls _ _ _ _ HW5.out).mono ?_; rintro e w' ⟨rfl, ⟨nd, rfl⟩⟩))
    go_ret
    exact ⟨by rw [HR.out]; rfl, by repeat (first | exact HB.out | apply lN)⟩
  rw [h4] at HW4
  cases h5 : decide (-1152921504606846976 ≤ t ∧ t ≤ 1152921504606846976)
  · rw [h5] at HW5
    have HR := Aside0.mk (show r = false by rw [HE.out, h0, h1, h2, h3, h4, h5]; simp)
    go_enter Try.func40, Try.ntmps40
    go_wp2_with (first | (go_at_call 70; with_reducible refine (silversideref01_within.calls _ _ _ _ HW3.out).mono ?_; rintro e w' ⟨rfl, ⟨nd, rfl⟩⟩) | (go_at_call 70; with_reducible refine (silversideref01_within.calls _ _ _ _ HW4.out).mono ?_; rintro e w' ⟨rfl, ⟨nd, rfl⟩⟩) | (go_at_call 70; with_reducible refine (silversideref01_within.calls _ _ _ _ HW5.out).mono ?_; rintro e w' ⟨rfl, ⟨nd, rfl⟩⟩))
    go_ret
    exact ⟨by rw [HR.out]; rfl, by repeat (first | exact HB.out | apply lN)⟩
  rw [h5] at HW5
  have HRR := Aside0.mk (show r = ((a.all fun p => decide (lin u v p < t)) && (b.all fun p => decide (t < lin u v p))) by rw [HE.out, h0, h1, h2, h3, h4, h5]; simp only [Bool.true_and])
  have HU := Aside0.mk (of_decide_eq_true h3)
  have HV := Aside0.mk (of_decide_eq_true h4)
  clear HE h0 h1 h2 h3 h4 h5
  go_enter Try.func40, Try.ntmps40
  go_wp2_with (first | (go_at_call 70; with_reducible refine (silversideref01_within.calls _ _ _ _ HW3.out).mono ?_; rintro e w' ⟨rfl, ⟨nd, rfl⟩⟩) | (go_at_call 70; with_reducible refine (silversideref01_within.calls _ _ _ _ HW4.out).mono ?_; rintro e w' ⟨rfl, ⟨nd, rfl⟩⟩) | (go_at_call 70; with_reducible refine (silversideref01_within.calls _ _ _ _ HW5.out).mono ?_; rintro e w' ⟨rfl, ⟨nd, rfl⟩⟩))
  generalize w.alloc (Obj.cells #[.bool false, .int .i64 x, .int .i64 y, .int .i64 d, .int .i64 u, .int .i64 v, .int .i64 t] 44) = W at *
  go_loopw [7] (fun v7 wr => ∃ k q : Nat, k ≤ a.length ∧ v7 = .int .i64 k ∧ Aside0 (∀ i, i < k → lin u v (pt a i) < t) ∧ wr = W.drewN q) (fun v7 _ => a.length - (intOf v7).toNat)
  case atStart => exact ⟨0, _, by omega, rfl, ⟨fun i h => by omega⟩, rfl⟩
  case round =>
    obtain ⟨k, q, hk, rfl, HA, rfl⟩ := hrel
    by_cases hlt : k < a.length
    · obtain ⟨ad, rfl, x0, x1⟩ := at_T31 HRA.out (k : Int) (by omega) (by omega)
      rw [rd_pt, Int.toNat_natCast] at x0 x1
      have hltI : ((k : Nat) : Int) < ((a.length : Nat) : Int) := by omega
      have hcI : ((k : Nat) : Int) ≤ ((c0 : Nat) : Int) := by omega
      have HP := Aside0.mk (allOk_pt HOA.out k hlt)
      have HK := Aside0.mk (show ∀ i, i < k + 1 → i < k ∨ i = k by omega)
      have HM := Aside0.mk (pt_mem a k hlt)
      obtain ⟨p, hp⟩ : ∃ p, p = pt a k := ⟨_, rfl⟩
      rw [← hp] at x0 x1 HP HM
      have HPK := Aside0.mk hp
      clear hp
      have HL : Aside0 (wrap64 (wrap64 (u * p.f0) + wrap64 (v * p.f1)) = lin u v p) := by
        have ho := (okPt_iff p).1 HP.out
        have b1 := mul_bd (a := u) (b := p.f0) (m := 1073741824) (n := 4096) HU.out (by omega)
        have b2 := mul_bd (a := v) (b := p.f1) (m := 1073741824) (n := 4096) HV.out (by omega)
        exact ⟨by rw [w64i (x := u * p.f0) (by omega) (by omega), w64i (x := v * p.f1) (by omega) (by omega)]; exact w64i (by omega) (by omega)⟩
      go_wp2
      go_quiet (fail)
      clear x0 x1
      cases hB : decide (t ≤ wrap64 (wrap64 (u * p.f0) + wrap64 (v * p.f1)))
      · have HA1 : Aside0 (∀ i, i < k + 1 → lin u v (pt a i) < t) := ⟨fun i hi => by
          rcases HK.out i hi with h | rfl
          · exact HA.out i h
          · rw [← HPK.out, ← HL.out]; have := of_decide_eq_false hB; omega⟩
        go_wp2
        go_roundw
        case rel => exact ⟨k + 1, _, by omega, by go_num, HA1, rfl⟩
        case measure => simp [intOf]; omega
      · have HF : Aside0 (r = false) := ⟨by
          rw [HRR.out]
          have : ((a.all fun p => decide (lin u v p < t))) = false := by
            rw [List.all_eq_false]
            exact ⟨p, HM.out, by rw [decide_eq_true_eq, ← HL.out]; have := of_decide_eq_true hB; omega⟩
          rw [this]; simp⟩
        go_wp2
        go_ret
        exact ⟨by rw [HF.out]; rfl, by repeat (first | exact HB.out | apply lN)⟩
    · have HAL : Aside0 ((a.all fun p => decide (lin u v p < t)) = true) := ⟨by
        rw [List.all_eq_true]
        intro p hp
        obtain ⟨i, hi, rfl⟩ := mem_pt hp
        exact decide_eq_true (HA.out i (by omega))⟩
      obtain rfl : k = a.length := by omega
      clear HA
      go_wp2
      have HALA := HAL
      clear HAL
      go_loopw [8] (fun v8 wr => ∃ k q : Nat, k ≤ b.length ∧ v8 = .int .i64 k ∧ Aside0 (∀ i, i < k → t < lin u v (pt b i)) ∧ wr = W.drewN q) (fun v8 _ => b.length - (intOf v8).toNat)
      case atStart => exact ⟨0, _, by omega, rfl, ⟨fun i h => by omega⟩, rfl⟩
      case round =>
        obtain ⟨k, q, hk, rfl, HA, rfl⟩ := hrel
        by_cases hlt : k < b.length
        · obtain ⟨ad, rfl, x0, x1⟩ := at_T31 HRB.out (k : Int) (by omega) (by omega)
          rw [rd_pt, Int.toNat_natCast] at x0 x1
          have hltI : ((k : Nat) : Int) < ((b.length : Nat) : Int) := by omega
          have hcI : ((k : Nat) : Int) ≤ ((c1 : Nat) : Int) := by omega
          have HP := Aside0.mk (allOk_pt HOB.out k hlt)
          have HK := Aside0.mk (show ∀ i, i < k + 1 → i < k ∨ i = k by omega)
          have HM := Aside0.mk (pt_mem b k hlt)
          obtain ⟨p, hp⟩ : ∃ p, p = pt b k := ⟨_, rfl⟩
          rw [← hp] at x0 x1 HP HM
          have HPK := Aside0.mk hp
          clear hp
          have HL : Aside0 (wrap64 (wrap64 (u * p.f0) + wrap64 (v * p.f1)) = lin u v p) := by
            have ho := (okPt_iff p).1 HP.out
            have b1 := mul_bd (a := u) (b := p.f0) (m := 1073741824) (n := 4096) HU.out (by omega)
            have b2 := mul_bd (a := v) (b := p.f1) (m := 1073741824) (n := 4096) HV.out (by omega)
            exact ⟨by rw [w64i (x := u * p.f0) (by omega) (by omega), w64i (x := v * p.f1) (by omega) (by omega)]; exact w64i (by omega) (by omega)⟩
          go_wp2
          go_quiet (fail)
          clear x0 x1
          cases hB : decide (wrap64 (wrap64 (u * p.f0) + wrap64 (v * p.f1)) ≤ t)
          · have HA1 : Aside0 (∀ i, i < k + 1 → t < lin u v (pt b i)) := ⟨fun i hi => by
              rcases HK.out i hi with h | rfl
              · exact HA.out i h
              · rw [← HPK.out, ← HL.out]; have := of_decide_eq_false hB; omega⟩
            go_wp2
            go_roundw
            case rel => exact ⟨k + 1, _, by omega, by go_num, HA1, rfl⟩
            case measure => simp [intOf]; omega
          · have HF : Aside0 (r = false) := ⟨by
              rw [HRR.out]
              have : ((b.all fun p => decide (t < lin u v p))) = false := by
                rw [List.all_eq_false]
                exact ⟨p, HM.out, by rw [decide_eq_true_eq, ← HL.out]; have := of_decide_eq_true hB; omega⟩
              rw [this]; simp⟩
            go_wp2
            go_ret
            exact ⟨by rw [HF.out]; rfl, by repeat (first | exact HB.out | apply lN)⟩
        · have HAL : Aside0 ((b.all fun p => decide (t < lin u v p)) = true) := ⟨by
            rw [List.all_eq_true]
            intro p hp
            obtain ⟨i, hi, rfl⟩ := mem_pt hp
            exact decide_eq_true (HA.out i (by omega))⟩
          obtain rfl : k = b.length := by omega
          clear HA
          go_wp2
          have HF := Aside0.mk (show r = true by rw [HRR.out, HALA.out, HAL.out]; rfl)
          go_ret
          exact ⟨by rw [HF.out]; rfl, lN HB.out _⟩
theorem silversideref01_Right.calls (A0 : Option Addr) (c0 : Nat) (l0 : List S31) (A1 : Option Addr) (c1 : Nat) (l1 : List S31) (m : Bool) (x y d u v t : Int) (r : Bool) (w : World) (hr0 : Kd.C k31 w A0 l0.length l0) (hc0 : l0.length ≤ c0) (hr1 : Kd.C k31 w A1 l1.length l1) (hc1 : l1.length ≤ c1) (h : silversideref01_Right.f l0 l1 m x y d u v t = some r) :
    Calls Try.prog 40 #[.slice A0 l0.length c0, .slice A1 l1.length c1, .agg #[.bool m, .int .i64 x, .int .i64 y, .int .i64 d, .int .i64 u, .int .i64 v, .int .i64 t]] w fun e w' => e = .returned (.bool r) ∧ Below w.heap.size w w' := by
  unfold silversideref01_Right.f at h
  by_cases hs : isSetB l0 = true ∧ isSetB l1 = true
  · rw [if_pos hs] at h
    injection h with h
    subst h
    cases m
    · exact rright_line A0 c0 l0 A1 c1 l1 x y d u v t w hr0 hc0 hr1 hc1 hs.1 hs.2
    · exact rright_meet A0 c0 l0 A1 c1 l1 x y d u v t w hr0 hc0 hr1 hc1 hs.1 hs.2
  · rw [if_neg hs] at h; cases h
end Go.Proofs.Ythaklbjcjoolcaa.P
namespace Go.Proofs.Ythaklbjcjoolcaa.P
open Go.RowKit Go.Proofs.YthaklbjcjoolcaaW.PrintWords Go.Proofs.YthaklbjcjoolcaaW.PrintLast Go.Proofs.YthaklbjcjoolcaaW.PrintMore
attribute [local go_sem] max2_int min2_int max_two min_two max_three min_three max_four min_four   -- for this text's walks alone

attribute [local go_sem high] eqA44
/-! ### silversidelaw01_PlaneSeparates: function 10 -/
def silversidelaw01_PlaneSeparates.j0 : Nat → List (S31) → List (S31) → Int → Bool → Bool → Int → Int → Int → Int → Int → Int → Option (Bool)
 | 0, _, _, _, _, _, _, _, _, _, _, _ => none
 | k + 1, x5, x6, x8, x26, x486000, x486001, x486002, x486003, x486004, x486005, x486006 => if x26 = true then (if (!x486000 && (x486001 == 0 && (x486002 == 0 && (x486003 == 0 && (x486004 == 0 && (x486005 == 0 && (x486006 == 0))))))) = true then (if x8 = 2 then ((plane_Check.f k x5 x6 x486000 x486001 x486002 x486003 x486004 x486005 x486006).bind fun t488 => (if t488 = 2 then ((silversidelaw01_awake.f k).bind fun t489 => (some t489)) else (some false))) else (some false)) else (some false)) else (if x8 = 0 then ((silversideref01_Right.f x5 x6 x486000 x486001 x486002 x486003 x486004 x486005 x486006).bind fun t490 => (if t490 = true then ((silversideref01_Meets.f k x5 x6).bind fun t491 => (if (x486000 == t491) = true then ((plane_Check.f k x5 x6 x486000 x486001 x486002 x486003 x486004 x486005 x486006).bind fun t492 => (if t492 = 0 then ((silversidelaw01_awake.f k).bind fun t493 => (some t493)) else (some false))) else (some false))) else (some false))) else (some false))
def silversidelaw01_PlaneSeparates.f (k : Nat) (l0 : List (S31)) (l1 : List (S31)) : Option (Bool) := (silversidelaw01_some.f l0 60).bind fun t471 => ((silversidelaw01_some.f l1 60).bind fun t474 => ((plane_Separate.f k t471 t474).bind fun bt477 => ((silversideref01_Set.f k t471).bind fun t486 => (if t486 = true then ((silversideref01_Set.f k t474).bind fun t487 => (silversidelaw01_PlaneSeparates.j0 k t471 t474 bt477.2.2.2.2.2.2.2 (!t487) bt477.1 bt477.2.1 bt477.2.2.1 bt477.2.2.2.1 bt477.2.2.2.2.1 bt477.2.2.2.2.2.1 bt477.2.2.2.2.2.2.1)) else (silversidelaw01_PlaneSeparates.j0 k t471 t474 bt477.2.2.2.2.2.2.2 true bt477.1 bt477.2.1 bt477.2.2.1 bt477.2.2.2.1 bt477.2.2.2.2.1 bt477.2.2.2.2.2.1 bt477.2.2.2.2.2.2.1)))))
theorem silversidelaw01_PlaneSeparates.mono_l : ∀ k, (∀ y0 y1 y2 y3 y4 y5 y6 y7 y8 y9 y10, LeO (silversidelaw01_PlaneSeparates.j0 k y0 y1 y2 y3 y4 y5 y6 y7 y8 y9 y10) (silversidelaw01_PlaneSeparates.j0 (k + 1) y0 y1 y2 y3 y4 y5 y6 y7 y8 y9 y10))
 | 0 => fun _ _ _ _ _ _ _ _ _ _ _ r h => by simp [silversidelaw01_PlaneSeparates.j0] at h
 | k + 1 => by
  have ih0 := silversidelaw01_PlaneSeparates.mono_l k
  ·intro y0 y1 y2 y3 y4 y5 y6 y7 y8 y9 y10
   unfold silversidelaw01_PlaneSeparates.j0
   repeat' first
   | (with_reducible exact ih0 _ _ _ _ _ _ _ _ _ _ _)
   | (with_reducible exact plane_Check.mono _ _ _ _ _ _ _ _ _ _)
   | (with_reducible exact plane_Separate.mono _ _ _)
   | (with_reducible exact silversidelaw01_awake.mono _)
   | (with_reducible exact silversideref01_Meets.mono _ _ _)
   | (with_reducible exact silversideref01_Set.mono _ _)
   | (with_reducible exact LeO.refl _)
   | (with_reducible exact LeO.none _)
   | (with_reducible refine LeO.ite ?_ ?_)
   | (with_reducible refine LeO.bind ?_ (fun _ => ?_))
   | exact ih0 _ _ _ _ _ _ _ _ _ _ _
   | exact plane_Check.mono _ _ _ _ _ _ _ _ _ _
   | exact plane_Separate.mono _ _ _
   | exact silversidelaw01_awake.mono _
   | exact silversideref01_Meets.mono _ _ _
   | exact silversideref01_Set.mono _ _
   | exact LeO.none _
   | refine LeO.ite ?_ ?_
   | refine LeO.bind ?_ (fun _ => ?_)
theorem silversidelaw01_PlaneSeparates.mono : ∀ a0 a1 k, LeO (silversidelaw01_PlaneSeparates.f k a0 a1) (silversidelaw01_PlaneSeparates.f (k + 1) a0 a1) := by
 intro a0 a1 k
 have ih0 := silversidelaw01_PlaneSeparates.mono_l k
 unfold silversidelaw01_PlaneSeparates.f
 repeat' first
   | (with_reducible exact ih0 _ _ _ _ _ _ _ _ _ _ _)
   | (with_reducible exact plane_Check.mono _ _ _ _ _ _ _ _ _ _)
   | (with_reducible exact plane_Separate.mono _ _ _)
   | (with_reducible exact silversidelaw01_awake.mono _)
   | (with_reducible exact silversideref01_Meets.mono _ _ _)
   | (with_reducible exact silversideref01_Set.mono _ _)
   | (with_reducible exact LeO.refl _)
   | (with_reducible exact LeO.none _)
   | (with_reducible refine LeO.ite ?_ ?_)
   | (with_reducible refine LeO.bind ?_ (fun _ => ?_))
   | exact ih0 _ _ _ _ _ _ _ _ _ _ _
   | exact plane_Check.mono _ _ _ _ _ _ _ _ _ _
   | exact plane_Separate.mono _ _ _
   | exact silversidelaw01_awake.mono _
   | exact silversideref01_Meets.mono _ _ _
   | exact silversideref01_Set.mono _ _
   | exact LeO.none _
   | refine LeO.ite ?_ ?_
   | refine LeO.bind ?_ (fun _ => ?_)
def silversidelaw01_PlaneSeparates.T5 : Bool × List (List Nat × List Nat) := (true, [([], []), ([0], [0]), ([1], [1]), ([2], [2]), ([2], [2]), ([2], [2]), ([3, 4, 5, 2, 2], [2, 3, 4, 5]), ([2, 6], [2, 6]), ([7, 6], [7]), ([8], [8]), ([9, 8], [8, 9]), ([8], [8]), ([8], [8]), ([11, 12, 8, 8], [8, 11, 12]), ([10, 13, 8], [8, 10, 13]), ([8, 14], [8, 14]), ([15, 13], [15]), ([16], [16]), ([16], [16]), ([16], [16]), ([17, 18, 19, 16, 16], [16, 17, 18, 19]), ([20, 16], [16, 20]), ([16, 21], [16, 21]), ([22, 20], [22]), ([23, 23], [23]), ([23, 24], [23, 24]), ([25, 24, 0, 1, 2, 3, 4, 5, 6, 7, 8, 9, 10, 11, 12, 13, 14, 15, 16, 17, 18, 19, 20, 21, 22, 23, 24, 25], [25])])
def silversidelaw01_PlaneSeparates.B5 : List Nat := [0, 1, 3, 7, 7, 7, 63, 127, 255, 511, 1023, 511, 511, 6655, 16383, 32767, 65535, 131071, 131071, 131071, 1048575, 2097151, 4194303, 8388607, 16777215, 33554431, 67108863]
theorem silversidelaw01_PlaneSeparates.tab5 : rtab .any (opsOf Try.f10 5) = silversidelaw01_PlaneSeparates.T5 := by kernel_rfl
theorem silversidelaw01_PlaneSeparates.bits5 : waitsOk silversidelaw01_PlaneSeparates.T5.2 silversidelaw01_PlaneSeparates.B5 = true := by kernel_rfl
set_option maxHeartbeats 8000000 in
set_option maxRecDepth 100000 in
theorem silversidelaw01_PlaneSeparates.calls (k : Nat) (A0 : Option Addr) (c0 : Nat) (l0 : List (S31)) (A1 : Option Addr) (c1 : Nat) (l1 : List (S31)) (r : Bool) (hr_ : Aside0 (r = true)) (w : World) (hr0 : Kd.C k31 w A0 l0.length l0) (hc0 : l0.length ≤ c0) (hr1 : Kd.C k31 w A1 l1.length l1) (hc1 : l1.length ≤ c1) (h : silversidelaw01_PlaneSeparates.f k l0 l1 = some r) :
  Calls Try.prog 10 #[.slice A0 l0.length c0, .slice A1 l1.length c1] w fun e w' => e = .returned (.bool r) ∧ Below w.heap.size w w' := by
 have hu44 := Try.underlying44
 have HR0 := Aside0.mk hr0
 have HC0 := Aside0.mk hc0
 clear hr0 hc0
 have HR1 := Aside0.mk hr1
 have HC1 := Aside0.mk hc1
 clear hr1 hc1
 have HB := Aside0.mk (Below.refl w.heap.size w)
 have H : ((silversidelaw01_some.f l0 60).bind fun t471 => ((silversidelaw01_some.f l1 60).bind fun t474 => ((plane_Separate.f k t471 t474).bind fun bt477 => ((silversideref01_Set.f k t471).bind fun t486 => (if t486 = true then ((silversideref01_Set.f k t474).bind fun t487 => (silversidelaw01_PlaneSeparates.j0 k t471 t474 bt477.2.2.2.2.2.2.2 (!t487) bt477.1 bt477.2.1 bt477.2.2.1 bt477.2.2.2.1 bt477.2.2.2.2.1 bt477.2.2.2.2.2.1 bt477.2.2.2.2.2.2.1)) else (silversidelaw01_PlaneSeparates.j0 k t471 t474 bt477.2.2.2.2.2.2.2 true bt477.1 bt477.2.1 bt477.2.2.1 bt477.2.2.2.1 bt477.2.2.2.2.1 bt477.2.2.2.2.2.1 bt477.2.2.2.2.2.2.1)))))) = some r := h
 clear h
 replace H := Option.bind_eq_some_iff.mp H
 obtain ⟨t471, A30, H⟩ := H
 replace H : ((silversidelaw01_some.f l1 60).bind fun t474 => ((plane_Separate.f k t471 t474).bind fun bt477 => ((silversideref01_Set.f k t471).bind fun t486 => (if t486 = true then ((silversideref01_Set.f k t474).bind fun t487 => (silversidelaw01_PlaneSeparates.j0 k t471 t474 bt477.2.2.2.2.2.2.2 (!t487) bt477.1 bt477.2.1 bt477.2.2.1 bt477.2.2.2.1 bt477.2.2.2.2.1 bt477.2.2.2.2.2.1 bt477.2.2.2.2.2.2.1)) else (silversidelaw01_PlaneSeparates.j0 k t471 t474 bt477.2.2.2.2.2.2.2 true bt477.1 bt477.2.1 bt477.2.2.1 bt477.2.2.2.1 bt477.2.2.2.2.1 bt477.2.2.2.2.2.1 bt477.2.2.2.2.2.2.1))))) = some r := H
 have A3 := Aside0.mk A30
 clear A30
 replace H := Option.bind_eq_some_iff.mp H
 obtain ⟨t474, A40, H⟩ := H
 replace H : ((plane_Separate.f k t471 t474).bind fun bt477 => ((silversideref01_Set.f k t471).bind fun t486 => (if t486 = true then ((silversideref01_Set.f k t474).bind fun t487 => (silversidelaw01_PlaneSeparates.j0 k t471 t474 bt477.2.2.2.2.2.2.2 (!t487) bt477.1 bt477.2.1 bt477.2.2.1 bt477.2.2.2.1 bt477.2.2.2.2.1 bt477.2.2.2.2.2.1 bt477.2.2.2.2.2.2.1)) else (silversidelaw01_PlaneSeparates.j0 k t471 t474 bt477.2.2.2.2.2.2.2 true bt477.1 bt477.2.1 bt477.2.2.1 bt477.2.2.2.1 bt477.2.2.2.2.1 bt477.2.2.2.2.2.1 bt477.2.2.2.2.2.2.1)))) = some r := H
 have A4 := Aside0.mk A40
 clear A40
 replace H := Option.bind_eq_some_iff.mp H
 obtain ⟨⟨t477, t478, t479, t480, t481, t482, t483, t484⟩, A50, H⟩ := H
 replace H : ((silversideref01_Set.f k t471).bind fun t486 => (if t486 = true then ((silversideref01_Set.f k t474).bind fun t487 => (silversidelaw01_PlaneSeparates.j0 k t471 t474 t484 (!t487) t477 t478 t479 t480 t481 t482 t483)) else (silversidelaw01_PlaneSeparates.j0 k t471 t474 t484 true t477 t478 t479 t480 t481 t482 t483))) = some r := H
 have A5 := Aside0.mk A50
 clear A50
 have HC6 := Aside0.mk H
 clear H
 go_enter Try.func10, Try.ntmps10
 go_upto_region 3 with (first | ((with_reducible refine gate_callee (f := 20) rfl ?_); refine goesL_ (some 10) rfl rfl Try.func20 (by kernel_rfl) rfl #[.slice A0 l0.length c0, .int .i64 60] rfl (by (try simp only [List.map_toArray, List.map_cons, List.map_nil]); first | done | rfl | (simp only [List.length_drop, List.length_take]; rfl)) ?_; (with_reducible refine (silversidelaw01_some.calls _ _ l0 60 t471 _ ?side1 ?side2 A3.out).mono ?_); (case side1 => repeat (first | exact HR0.out | (with_reducible refine Kd.C_alloc ?_ _) | (with_reducible refine Kd.C_drewN ?_ _) | (with_reducible refine Kd.C_drew ?_))); (case side2 => exact HC0.out); rintro e w7 ⟨v472, rfl, ho0, hb⟩; refine ⟨_, rfl, ?_⟩; have n0_ := Aside0.mk (Kd.R_lower ho0 (below_size lB)); have n1_ := Aside0.mk (below_step lB hb); clear HB; have HO473 := n0_; have HB := n1_; clear n0_ n1_; (try clear hb); (try clear hb2); (try clear hk); (try clear hi); (try clear ho0)) | ((with_reducible refine gate_callee (f := 20) rfl ?_); refine goesL_ (some 12) rfl rfl Try.func20 (by kernel_rfl) rfl #[.slice A1 l1.length c1, .int .i64 60] rfl (by (try simp only [List.map_toArray, List.map_cons, List.map_nil]); first | done | rfl | (simp only [List.length_drop, List.length_take]; rfl)) ?_; (with_reducible refine (silversidelaw01_some.calls _ _ l1 60 t474 _ ?side1 ?side2 A4.out).mono ?_); (case side1 => repeat (first | exact (Kd.C_below HR1.out HB.out) | (with_reducible refine Kd.C_alloc ?_ _) | (with_reducible refine Kd.C_drewN ?_ _) | (with_reducible refine Kd.C_drew ?_))); (case side2 => exact HC1.out); rintro e w8 ⟨v475, rfl, ho0, hb⟩; refine ⟨_, rfl, ?_⟩; have n0_ := Aside0.mk (Kd.R_elder' (by (with_reducible repeat (first | apply Kd.R_alloc | apply Kd.R_drewN | apply Kd.R_drew)); exact HO473.out) (Kd.R_base ho0) hb); have n1_ := Aside0.mk (Kd.R_lower (Kd.R_new' ho0 (Kd.R_lt (by (with_reducible repeat (first | apply Kd.R_alloc | apply Kd.R_drewN | apply Kd.R_drew)); exact HO473.out))) (below_size lB)); have n2_ := Aside0.mk (below_step lB hb); clear HO473; clear HB; have HO473 := n0_; have HO476 := n1_; have HB := n2_; clear n0_ n1_ n2_; (try clear hb); (try clear hb2); (try clear hk); (try clear hi); (try clear ho0); obtain ⟨Ao9, co9, eo9⟩ := Kd.R_slice HO473.out; subst eo9; obtain ⟨Ao10, co10, eo10⟩ := Kd.R_slice HO476.out; subst eo10) | ((with_reducible refine gate_callee (f := 37) rfl ?_); refine goesL_ (some 16) rfl rfl Try.func37 (by kernel_rfl) rfl #[.slice Ao9 t471.length co9, .slice Ao10 t474.length co10] rfl (by (try simp only [List.map_toArray, List.map_cons, List.map_nil]); first | done | rfl | (simp only [List.length_drop, List.length_take]; rfl)) ?_; (with_reducible refine (plane_Separate.calls k _ _ t471 _ _ t474 t477 t478 t479 t480 t481 t482 t483 t484 _ ?side1 ?side2 ?side3 ?side4 A5.out).mono ?_); (case side1 => repeat (first | exact (Kd.R_reads' HO473.out).2.2 | (with_reducible refine Kd.C_alloc ?_ _) | (with_reducible refine Kd.C_drewN ?_ _) | (with_reducible refine Kd.C_drew ?_))); (case side2 => exact (Kd.R_reads' HO473.out).2.1); (case side3 => repeat (first | exact (Kd.R_reads' HO476.out).2.2 | (with_reducible refine Kd.C_alloc ?_ _) | (with_reducible refine Kd.C_drewN ?_ _) | (with_reducible refine Kd.C_drew ?_))); (case side4 => exact (Kd.R_reads' HO476.out).2.1); rintro e w11 ⟨rfl, hb⟩; refine ⟨_, rfl, ?_⟩; have n0_ := Aside0.mk (Kd.R_below (by (with_reducible repeat (first | apply Kd.R_alloc | apply Kd.R_drewN | apply Kd.R_drew)); exact HO473.out) hb); have n1_ := Aside0.mk (Kd.R_below (by (with_reducible repeat (first | apply Kd.R_alloc | apply Kd.R_drewN | apply Kd.R_drew)); exact HO476.out) hb); have n2_ := Aside0.mk (below_step lB hb); clear HO473; clear HO476; clear HB; have HO473 := n0_; have HO476 := n1_; have HB := n2_; clear n0_ n1_ n2_; (try clear hb); (try clear hb2); (try clear hk); (try clear hi)) | ((with_reducible refine gate_dst (N := 7) rfl ?_); refine bxe 7 #[.bool false, .int .i64 0, .int .i64 0, .int .i64 0, .int .i64 0, .int .i64 0, .int .i64 0] 44 ?_; intro gb485 hg w12 hbox hb; have n0_ := Aside0.mk (Kd.R_below (by (with_reducible repeat (first | apply Kd.R_alloc | apply Kd.R_drewN | apply Kd.R_drew)); exact HO473.out) hb); have n1_ := Aside0.mk (Kd.R_below (by (with_reducible repeat (first | apply Kd.R_alloc | apply Kd.R_drewN | apply Kd.R_drew)); exact HO476.out) hb); have n2_ := Aside0.mk (below_step lB hb); have n3_ := Aside0.mk (hbox); have n4_ := Aside0.mk (lG (w := w) hg); have n5_ := Aside0.mk (lG (w := w) hg); clear HO473; clear HO476; clear HB; have HO473 := n0_; have HO476 := n1_; have HB := n2_; have BK485 := n3_; have GW485 := n4_; have GE485 := n5_; clear n0_ n1_ n2_ n3_ n4_ n5_; clear hb hbox hg; have hcz13_0 : w12.cell? ⟨gb485, 0, none⟩ = some (.bool false) := (blk_cell BK485.out 0).trans rfl; have hcz13_1 : w12.cell? ⟨gb485, 1, none⟩ = some (.int .i64 0) := (blk_cell BK485.out 1).trans rfl; have hcz13_2 : w12.cell? ⟨gb485, 2, none⟩ = some (.int .i64 0) := (blk_cell BK485.out 2).trans rfl; have hcz13_3 : w12.cell? ⟨gb485, 3, none⟩ = some (.int .i64 0) := (blk_cell BK485.out 3).trans rfl; have hcz13_4 : w12.cell? ⟨gb485, 4, none⟩ = some (.int .i64 0) := (blk_cell BK485.out 4).trans rfl; have hcz13_5 : w12.cell? ⟨gb485, 5, none⟩ = some (.int .i64 0) := (blk_cell BK485.out 5).trans rfl; have hcz13_6 : w12.cell? ⟨gb485, 6, none⟩ = some (.int .i64 0) := (blk_cell BK485.out 6).trans rfl; have hfz13_0 := blk_frozen BK485.out 0; have hfz13_1 := blk_frozen BK485.out 1; have hfz13_2 := blk_frozen BK485.out 2; have hfz13_3 := blk_frozen BK485.out 3; have hfz13_4 := blk_frozen BK485.out 4; have hfz13_5 := blk_frozen BK485.out 5; have hfz13_6 := blk_frozen BK485.out 6))
 (try simp only [Act.put, sA, sB, sC])
 go_cut [26] (fun v26 wc => ∃ (kq : Nat) (x26_5 : Bool), v26 = .bool x26_5 ∧ Aside0 (silversidelaw01_PlaneSeparates.j0 kq t471 t474 t484 x26_5 t477 t478 t479 t480 t481 t482 t483 = some r) ∧ Aside0 (kq ≤ k) ∧ Aside0 (Kd.R k31 31 wc w.heap.size (fun k_ => some k_ ≠ ((.slice Ao10 t474.length co10) : Value).ownBlock) (.slice Ao9 t471.length co9) t471) ∧ Aside0 (Kd.R k31 31 wc w.heap.size (fun k_ => some k_ ≠ ((.slice Ao9 t471.length co9) : Value).ownBlock) (.slice Ao10 t474.length co10) t474) ∧ Aside0 (wc.heap[gb485]? = some (.cells #[.bool t477, .int .i64 t478, .int .i64 t479, .int .i64 t480, .int .i64 t481, .int .i64 t482, .int .i64 t483] 44 (0, 0))) ∧ Aside0 (Below w.heap.size w wc))
 case first =>
  have H := HC6.out
  clear HC6
  replace H := Option.bind_eq_some_iff.mp H
  obtain ⟨t486, A140, H⟩ := H
  replace H : (if t486 = true then ((silversideref01_Set.f k t474).bind fun t487 => (silversidelaw01_PlaneSeparates.j0 k t471 t474 t484 (!t487) t477 t478 t479 t480 t481 t482 t483)) else (silversidelaw01_PlaneSeparates.j0 k t471 t474 t484 true t477 t478 t479 t480 t481 t482 t483)) = some r := H
  have A14 := Aside0.mk A140
  clear A140
  by_cases c15 : t486 = true
  ·subst c15
   have H1 : ((silversideref01_Set.f k t474).bind fun t487 => (silversidelaw01_PlaneSeparates.j0 k t471 t474 t484 (!t487) t477 t478 t479 t480 t481 t482 t483)) = some r := by rw [if_pos rfl] at H; exact H
   clear H
   have H := H1
   clear H1
   replace H := Option.bind_eq_some_iff.mp H
   obtain ⟨t487, A160, H⟩ := H
   replace H : (silversidelaw01_PlaneSeparates.j0 k t471 t474 t484 (!t487) t477 t478 t479 t480 t481 t482 t483) = some r := H
   have A16 := Aside0.mk A160
   clear A160
   have H' := Aside0.mk H
   clear H
   go_wp2_with (first | ((with_reducible refine gate_callee (f := 33) rfl ?_); refine goesL_ (some 20) rfl rfl Try.func33 (by kernel_rfl) rfl #[.slice Ao9 t471.length co9] rfl (by (try simp only [List.map_toArray, List.map_cons, List.map_nil]); first | done | rfl | (simp only [List.length_drop, List.length_take]; rfl)) ?_; (with_reducible refine (silversideref01_Set.calls k _ _ t471 true _ ?side1 ?side2 A14.out).mono ?_); (case side1 => refine (Kd.R_reads' (e := 31) (base := w.heap.size) (ok := fun k_ => (True ∧ some k_ ≠ (.slice Ao10 t474.length co10 : Value).ownBlock)) (n := t471.length) (c := co9) ?_).2.2; exact (by (with_reducible repeat (first | apply Kd.R_alloc | apply Kd.R_drewN | apply Kd.R_drew)); exact (Kd.R_mono (Kd.R_far (p := ⟨gb485, 6, none⟩) (Kd.R_far (p := ⟨gb485, 5, none⟩) (Kd.R_far (p := ⟨gb485, 4, none⟩) (Kd.R_far (p := ⟨gb485, 3, none⟩) (Kd.R_far (p := ⟨gb485, 2, none⟩) (Kd.R_far (p := ⟨gb485, 1, none⟩) (Kd.R_far (p := ⟨gb485, 0, none⟩) (Kd.R_types HO473.out BK485.out (by decide)) (fun _ hk => hk.2) (.bool t477)) (fun _ hk => hk.2) (.int .i64 t478)) (fun _ hk => hk.2) (.int .i64 t479)) (fun _ hk => hk.2) (.int .i64 t480)) (fun _ hk => hk.2) (.int .i64 t481)) (fun _ hk => hk.2) (.int .i64 t482)) (fun _ hk => hk.2) (.int .i64 t483)) (fun _ h_ => h_.1)))); (case side2 => exact (Kd.R_reads' HO473.out).2.1); rintro e w17 ⟨rfl, hb⟩; refine ⟨_, rfl, ?_⟩; have n0_ := Aside0.mk (Kd.R_below (by (with_reducible repeat (first | apply Kd.R_alloc | apply Kd.R_drewN | apply Kd.R_drew)); exact (Kd.R_mono (Kd.R_far (p := ⟨gb485, 6, none⟩) (Kd.R_far (p := ⟨gb485, 5, none⟩) (Kd.R_far (p := ⟨gb485, 4, none⟩) (Kd.R_far (p := ⟨gb485, 3, none⟩) (Kd.R_far (p := ⟨gb485, 2, none⟩) (Kd.R_far (p := ⟨gb485, 1, none⟩) (Kd.R_far (p := ⟨gb485, 0, none⟩) (Kd.R_types HO473.out BK485.out (by decide)) (fun _ hk => hk.2) (.bool t477)) (fun _ hk => hk.2) (.int .i64 t478)) (fun _ hk => hk.2) (.int .i64 t479)) (fun _ hk => hk.2) (.int .i64 t480)) (fun _ hk => hk.2) (.int .i64 t481)) (fun _ hk => hk.2) (.int .i64 t482)) (fun _ hk => hk.2) (.int .i64 t483)) (fun _ h_ => h_.1))) hb); have n1_ := Aside0.mk (Kd.R_below (by (with_reducible repeat (first | apply Kd.R_alloc | apply Kd.R_drewN | apply Kd.R_drew)); exact (Kd.R_mono (Kd.R_far (p := ⟨gb485, 6, none⟩) (Kd.R_far (p := ⟨gb485, 5, none⟩) (Kd.R_far (p := ⟨gb485, 4, none⟩) (Kd.R_far (p := ⟨gb485, 3, none⟩) (Kd.R_far (p := ⟨gb485, 2, none⟩) (Kd.R_far (p := ⟨gb485, 1, none⟩) (Kd.R_far (p := ⟨gb485, 0, none⟩) (Kd.R_types HO476.out BK485.out (by decide)) (fun _ hk => hk.2) (.bool t477)) (fun _ hk => hk.2) (.int .i64 t478)) (fun _ hk => hk.2) (.int .i64 t479)) (fun _ hk => hk.2) (.int .i64 t480)) (fun _ hk => hk.2) (.int .i64 t481)) (fun _ hk => hk.2) (.int .i64 t482)) (fun _ hk => hk.2) (.int .i64 t483)) (fun _ h_ => h_.1))) hb); have n2_ := Aside0.mk (blk_below (g := gb485) (o := .cells #[.bool t477, .int .i64 t478, .int .i64 t479, .int .i64 t480, .int .i64 t481, .int .i64 t482, .int .i64 t483] 44 (0, 0)) (by (with_reducible repeat (first | refine kN ?_ _ | refine kD ?_ | refine kA ?_ _)); refine blk_put (cs := #[.bool t477, .int .i64 t478, .int .i64 t479, .int .i64 t480, .int .i64 t481, .int .i64 t482, .int .i64 0]) ?_ 6 _ rfl; (with_reducible repeat (first | refine kN ?_ _ | refine kD ?_ | refine kA ?_ _)); refine blk_put (cs := #[.bool t477, .int .i64 t478, .int .i64 t479, .int .i64 t480, .int .i64 t481, .int .i64 0, .int .i64 0]) ?_ 5 _ rfl; (with_reducible repeat (first | refine kN ?_ _ | refine kD ?_ | refine kA ?_ _)); refine blk_put (cs := #[.bool t477, .int .i64 t478, .int .i64 t479, .int .i64 t480, .int .i64 0, .int .i64 0, .int .i64 0]) ?_ 4 _ rfl; (with_reducible repeat (first | refine kN ?_ _ | refine kD ?_ | refine kA ?_ _)); refine blk_put (cs := #[.bool t477, .int .i64 t478, .int .i64 t479, .int .i64 0, .int .i64 0, .int .i64 0, .int .i64 0]) ?_ 3 _ rfl; (with_reducible repeat (first | refine kN ?_ _ | refine kD ?_ | refine kA ?_ _)); refine blk_put (cs := #[.bool t477, .int .i64 t478, .int .i64 0, .int .i64 0, .int .i64 0, .int .i64 0, .int .i64 0]) ?_ 2 _ rfl; (with_reducible repeat (first | refine kN ?_ _ | refine kD ?_ | refine kA ?_ _)); refine blk_put (cs := #[.bool t477, .int .i64 0, .int .i64 0, .int .i64 0, .int .i64 0, .int .i64 0, .int .i64 0]) ?_ 1 _ rfl; (with_reducible repeat (first | refine kN ?_ _ | refine kD ?_ | refine kA ?_ _)); refine blk_put (cs := #[.bool false, .int .i64 0, .int .i64 0, .int .i64 0, .int .i64 0, .int .i64 0, .int .i64 0]) ?_ 0 _ rfl; (with_reducible repeat (first | refine kN ?_ _ | refine kD ?_ | refine kA ?_ _)); exact BK485.out) hb); have n3_ := Aside0.mk (below_step lB hb); clear HO473; clear HO476; clear BK485; clear HB; have HO473 := n0_; have HO476 := n1_; have BK485 := n2_; have HB := n3_; clear n0_ n1_ n2_ n3_; (try clear hb); (try clear hb2); (try clear hk); (try clear hi)) | (go_at_call 33; (with_reducible refine (silversideref01_Set.calls k _ _ t474 t487 _ ?side1 ?side2 A16.out).mono ?_); (case side1 => repeat (first | exact (Kd.R_reads' HO476.out).2.2 | (with_reducible refine Kd.C_alloc ?_ _) | (with_reducible refine Kd.C_drewN ?_ _) | (with_reducible refine Kd.C_drew ?_))); (case side2 => exact (Kd.R_reads' HO476.out).2.1); rintro e w18 ⟨rfl, hb⟩; have n0_ := Aside0.mk (Kd.R_below (by (with_reducible repeat (first | apply Kd.R_alloc | apply Kd.R_drewN | apply Kd.R_drew)); exact HO473.out) hb); have n1_ := Aside0.mk (Kd.R_below (by (with_reducible repeat (first | apply Kd.R_alloc | apply Kd.R_drewN | apply Kd.R_drew)); exact HO476.out) hb); have n2_ := Aside0.mk (blk_below (g := gb485) (o := .cells #[.bool t477, .int .i64 t478, .int .i64 t479, .int .i64 t480, .int .i64 t481, .int .i64 t482, .int .i64 t483] 44 (0, 0)) (kX BK485.out) hb); have n3_ := Aside0.mk (below_step lB hb); clear HO473; clear HO476; clear BK485; clear HB; have HO473 := n0_; have HO476 := n1_; have BK485 := n2_; have HB := n3_; clear n0_ n1_ n2_ n3_; (try clear hb); (try clear hb2); (try clear hk); (try clear hi)))
   go_meet
   case rel => exact ⟨_, (!t487), (by first | rfl | (simp; done) | (simp [*]; done)), H', ⟨by first | omega | exact Nat.le_refl _⟩, ⟨by (with_reducible repeat (first | apply Kd.R_alloc | apply Kd.R_drewN | apply Kd.R_drew)); exact Kd.R_mono HO473.out (fun _ hk => hk.2)⟩, ⟨by (with_reducible repeat (first | apply Kd.R_alloc | apply Kd.R_drewN | apply Kd.R_drew)); exact Kd.R_mono HO476.out (fun _ hk => hk.2)⟩, ⟨by (with_reducible repeat (first | refine kN ?_ _ | refine kD ?_ | refine kA ?_ _)); exact BK485.out⟩, ⟨by repeat (first | (with_reducible first | exact HB.out | apply lA | apply lN | apply lD | refine lS ?_ GE485.out) | exact HB.out)⟩⟩
  replace c15 := Bool.eq_false_iff.mpr c15
  subst c15
  have H1 : (silversidelaw01_PlaneSeparates.j0 k t471 t474 t484 true t477 t478 t479 t480 t481 t482 t483) = some r := by rw [if_neg (show ¬ (false = true) by decide)] at H; exact H
  clear H
  have H := H1
  clear H1
  have H' := Aside0.mk H
  clear H
  go_wp2_with (first | ((with_reducible refine gate_callee (f := 33) rfl ?_); refine goesL_ (some 20) rfl rfl Try.func33 (by kernel_rfl) rfl #[.slice Ao9 t471.length co9] rfl (by (try simp only [List.map_toArray, List.map_cons, List.map_nil]); first | done | rfl | (simp only [List.length_drop, List.length_take]; rfl)) ?_; (with_reducible refine (silversideref01_Set.calls k _ _ t471 false _ ?side1 ?side2 A14.out).mono ?_); (case side1 => refine (Kd.R_reads' (e := 31) (base := w.heap.size) (ok := fun k_ => (True ∧ some k_ ≠ (.slice Ao10 t474.length co10 : Value).ownBlock)) (n := t471.length) (c := co9) ?_).2.2; exact (by (with_reducible repeat (first | apply Kd.R_alloc | apply Kd.R_drewN | apply Kd.R_drew)); exact (Kd.R_mono (Kd.R_far (p := ⟨gb485, 6, none⟩) (Kd.R_far (p := ⟨gb485, 5, none⟩) (Kd.R_far (p := ⟨gb485, 4, none⟩) (Kd.R_far (p := ⟨gb485, 3, none⟩) (Kd.R_far (p := ⟨gb485, 2, none⟩) (Kd.R_far (p := ⟨gb485, 1, none⟩) (Kd.R_far (p := ⟨gb485, 0, none⟩) (Kd.R_types HO473.out BK485.out (by decide)) (fun _ hk => hk.2) (.bool t477)) (fun _ hk => hk.2) (.int .i64 t478)) (fun _ hk => hk.2) (.int .i64 t479)) (fun _ hk => hk.2) (.int .i64 t480)) (fun _ hk => hk.2) (.int .i64 t481)) (fun _ hk => hk.2) (.int .i64 t482)) (fun _ hk => hk.2) (.int .i64 t483)) (fun _ h_ => h_.1)))); (case side2 => exact (Kd.R_reads' HO473.out).2.1); rintro e w19 ⟨rfl, hb⟩; refine ⟨_, rfl, ?_⟩; have n0_ := Aside0.mk (Kd.R_below (by (with_reducible repeat (first | apply Kd.R_alloc | apply Kd.R_drewN | apply Kd.R_drew)); exact (Kd.R_mono (Kd.R_far (p := ⟨gb485, 6, none⟩) (Kd.R_far (p := ⟨gb485, 5, none⟩) (Kd.R_far (p := ⟨gb485, 4, none⟩) (Kd.R_far (p := ⟨gb485, 3, none⟩) (Kd.R_far (p := ⟨gb485, 2, none⟩) (Kd.R_far (p := ⟨gb485, 1, none⟩) (Kd.R_far (p := ⟨gb485, 0, none⟩) (Kd.R_types HO473.out BK485.out (by decide)) (fun _ hk => hk.2) (.bool t477)) (fun _ hk => hk.2) (.int .i64 t478)) (fun _ hk => hk.2) (.int .i64 t479)) (fun _ hk => hk.2) (.int .i64 t480)) (fun _ hk => hk.2) (.int .i64 t481)) (fun _ hk => hk.2) (.int .i64 t482)) (fun _ hk => hk.2) (.int .i64 t483)) (fun _ h_ => h_.1))) hb); have n1_ := Aside0.mk (Kd.R_below (by (with_reducible repeat (first | apply Kd.R_alloc | apply Kd.R_drewN | apply Kd.R_drew)); exact (Kd.R_mono (Kd.R_far (p := ⟨gb485, 6, none⟩) (Kd.R_far (p := ⟨gb485, 5, none⟩) (Kd.R_far (p := ⟨gb485, 4, none⟩) (Kd.R_far (p := ⟨gb485, 3, none⟩) (Kd.R_far (p := ⟨gb485, 2, none⟩) (Kd.R_far (p := ⟨gb485, 1, none⟩) (Kd.R_far (p := ⟨gb485, 0, none⟩) (Kd.R_types HO476.out BK485.out (by decide)) (fun _ hk => hk.2) (.bool t477)) (fun _ hk => hk.2) (.int .i64 t478)) (fun _ hk => hk.2) (.int .i64 t479)) (fun _ hk => hk.2) (.int .i64 t480)) (fun _ hk => hk.2) (.int .i64 t481)) (fun _ hk => hk.2) (.int .i64 t482)) (fun _ hk => hk.2) (.int .i64 t483)) (fun _ h_ => h_.1))) hb); have n2_ := Aside0.mk (blk_below (g := gb485) (o := .cells #[.bool t477, .int .i64 t478, .int .i64 t479, .int .i64 t480, .int .i64 t481, .int .i64 t482, .int .i64 t483] 44 (0, 0)) (by (with_reducible repeat (first | refine kN ?_ _ | refine kD ?_ | refine kA ?_ _)); refine blk_put (cs := #[.bool t477, .int .i64 t478, .int .i64 t479, .int .i64 t480, .int .i64 t481, .int .i64 t482, .int .i64 0]) ?_ 6 _ rfl; (with_reducible repeat (first | refine kN ?_ _ | refine kD ?_ | refine kA ?_ _)); refine blk_put (cs := #[.bool t477, .int .i64 t478, .int .i64 t479, .int .i64 t480, .int .i64 t481, .int .i64 0, .int .i64 0]) ?_ 5 _ rfl; (with_reducible repeat (first | refine kN ?_ _ | refine kD ?_ | refine kA ?_ _)); refine blk_put (cs := #[.bool t477, .int .i64 t478, .int .i64 t479, .int .i64 t480, .int .i64 0, .int .i64 0, .int .i64 0]) ?_ 4 _ rfl; (with_reducible repeat (first | refine kN ?_ _ | refine kD ?_ | refine kA ?_ _)); refine blk_put (cs := #[.bool t477, .int .i64 t478, .int .i64 t479, .int .i64 0, .int .i64 0, .int .i64 0, .int .i64 0]) ?_ 3 _ rfl; (with_reducible repeat (first | refine kN ?_ _ | refine kD ?_ | refine kA ?_ _)); refine blk_put (cs := #[.bool t477, .int .i64 t478, .int .i64 0, .int .i64 0, .int .i64 0, .int .i64 0, .int .i64 0]) ?_ 2 _ rfl; (with_reducible repeat (first | refine kN ?_ _ | refine kD ?_ | refine kA ?_ _)); refine blk_put (cs := #[.bool t477, .int .i64 0, .int .i64 0, .int .i64 0, .int .i64 0, .int .i64 0, .int .i64 0]) ?_ 1 _ rfl; (with_reducible repeat (first | refine kN ?_ _ | refine kD ?_ | refine kA ?_ _)); refine blk_put (cs := #[.bool false, .int .i64 0, .int .i64 0, .int .i64 0, .int .i64 0, .int .i64 0, .int .i64 0]) ?_ 0 _ rfl; (with_reducible repeat (first | refine kN ?_ _ | refine kD ?_ | refine kA ?_ _)); exact BK485.out) hb); have n3_ := Aside0.mk (below_step lB hb); clear HO473; clear HO476; clear BK485; clear HB; have HO473 := n0_; have HO476 := n1_; have BK485 := n2_; have HB := n3_; clear n0_ n1_ n2_ n3_; (try clear hb); (try clear hb2); (try clear hk); (try clear hi)))
  go_meet
  case rel => exact ⟨_, (true), (by first | rfl | (simp; done) | (simp [*]; done)), H', ⟨by first | omega | exact Nat.le_refl _⟩, ⟨by (with_reducible repeat (first | apply Kd.R_alloc | apply Kd.R_drewN | apply Kd.R_drew)); exact Kd.R_mono HO473.out (fun _ hk => hk.2)⟩, ⟨by (with_reducible repeat (first | apply Kd.R_alloc | apply Kd.R_drewN | apply Kd.R_drew)); exact Kd.R_mono HO476.out (fun _ hk => hk.2)⟩, ⟨by (with_reducible repeat (first | refine kN ?_ _ | refine kD ?_ | refine kA ?_ _)); exact BK485.out⟩, ⟨by repeat (first | (with_reducible first | exact HB.out | apply lA | apply lN | apply lD | refine lS ?_ GE485.out) | exact HB.out)⟩⟩
 case rest =>
  clear HC6
  try clear c1
  try clear c2
  try clear p2
  try clear c3
  try clear c10
  try clear c15
  try clear hcz13_0
  try clear hcz13_1
  try clear hcz13_2
  try clear hcz13_3
  try clear hcz13_4
  try clear hcz13_5
  try clear hcz13_6
  try clear hfz13_0
  try clear hfz13_1
  try clear hfz13_2
  try clear hfz13_3
  try clear hfz13_4
  try clear hfz13_5
  try clear hfz13_6
  obtain ⟨kq, x26_5, rfl, HA, HJ5, HO_5, HO_6, BK485, HB⟩ := hcut
  cases kq with
  | zero => exact absurd HA.out (by simp [silversidelaw01_PlaneSeparates.j0])
  | succ kj5 =>
   have H := HA.out
   clear HA
   simp only [silversidelaw01_PlaneSeparates.j0] at H
   by_cases c20 : x26_5 = true
   ·subst c20
    have H1 : (if (!t477 && (t478 == 0 && (t479 == 0 && (t480 == 0 && (t481 == 0 && (t482 == 0 && (t483 == 0))))))) = true then (if t484 = 2 then ((plane_Check.f kj5 t471 t474 t477 t478 t479 t480 t481 t482 t483).bind fun t488 => (if t488 = 2 then ((silversidelaw01_awake.f kj5).bind fun t489 => (some t489)) else (some false))) else (some false)) else (some false)) = some r := by rw [if_pos rfl] at H; exact H
    clear H
    have H := H1
    clear H1
    by_cases c21 : (!t477 && (t478 == 0 && (t479 == 0 && (t480 == 0 && (t481 == 0 && (t482 == 0 && (t483 == 0))))))) = true
    ·rw [if_pos c21] at H
     have c21b0 : (!t477 && (t478 == 0 && (t479 == 0 && (t480 == 0 && (t481 == 0 && (t482 == 0 && (t483 == 0))))))) = true := c21
     clear c21
     by_cases c22 : t484 = 2
     ·rw [if_pos c22] at H
      have c22b0 : (t484 == 2) = true := beq_iff_eq.mpr c22
      have c22b1 : (t484 != 2) = false := bne_eq_false_iff_eq.mpr c22
      clear c22
      replace H := Option.bind_eq_some_iff.mp H
      obtain ⟨t488, A230, H⟩ := H
      replace H : (if t488 = 2 then ((silversidelaw01_awake.f kj5).bind fun t489 => (some t489)) else (some false)) = some r := H
      have A23 := Aside0.mk A230
      clear A230
      by_cases c24 : t488 = 2
      ·rw [if_pos c24] at H
       have c24b0 : (t488 == 2) = true := beq_iff_eq.mpr c24
       have c24b1 : (t488 != 2) = false := bne_eq_false_iff_eq.mpr c24
       clear c24
       replace H := Option.bind_eq_some_iff.mp H
       obtain ⟨t489, A250, H⟩ := H
       replace H : (some t489) = some r := H
       have A25 := Aside0.mk A250
       clear A250
       obtain rfl := Option.some.inj H
       have hcz26_0 : wc.cell? ⟨gb485, 0, none⟩ = some (.bool t477) := (blk_cell BK485.out 0).trans rfl
       have hcz26_1 : wc.cell? ⟨gb485, 1, none⟩ = some (.int .i64 t478) := (blk_cell BK485.out 1).trans rfl
       have hcz26_2 : wc.cell? ⟨gb485, 2, none⟩ = some (.int .i64 t479) := (blk_cell BK485.out 2).trans rfl
       have hcz26_3 : wc.cell? ⟨gb485, 3, none⟩ = some (.int .i64 t480) := (blk_cell BK485.out 3).trans rfl
       have hcz26_4 : wc.cell? ⟨gb485, 4, none⟩ = some (.int .i64 t481) := (blk_cell BK485.out 4).trans rfl
       have hcz26_5 : wc.cell? ⟨gb485, 5, none⟩ = some (.int .i64 t482) := (blk_cell BK485.out 5).trans rfl
       have hcz26_6 : wc.cell? ⟨gb485, 6, none⟩ = some (.int .i64 t483) := (blk_cell BK485.out 6).trans rfl
       have hfz26_0 := blk_frozen BK485.out 0
       have hfz26_1 := blk_frozen BK485.out 1
       have hfz26_2 := blk_frozen BK485.out 2
       have hfz26_3 := blk_frozen BK485.out 3
       have hfz26_4 := blk_frozen BK485.out 4
       have hfz26_5 := blk_frozen BK485.out 5
       have hfz26_6 := blk_frozen BK485.out 6
       go_wp2_with (first | (go_at_call 39; (with_reducible refine (plane_Check.calls kj5 _ _ t471 _ _ t474 t477 t478 t479 t480 t481 t482 t483 t488 _ ?side1 ?side2 ?side3 ?side4 A23.out).mono ?_); (case side1 => repeat (first | exact (Kd.R_reads' HO_5.out).2.2 | (with_reducible refine Kd.C_alloc ?_ _) | (with_reducible refine Kd.C_drewN ?_ _) | (with_reducible refine Kd.C_drew ?_))); (case side2 => exact (Kd.R_reads' HO_5.out).2.1); (case side3 => repeat (first | exact (Kd.R_reads' HO_6.out).2.2 | (with_reducible refine Kd.C_alloc ?_ _) | (with_reducible refine Kd.C_drewN ?_ _) | (with_reducible refine Kd.C_drew ?_))); (case side4 => exact (Kd.R_reads' HO_6.out).2.1); rintro e w27 ⟨rfl, hb⟩; have n0_ := Aside0.mk (Kd.R_below (by (with_reducible repeat (first | apply Kd.R_alloc | apply Kd.R_drewN | apply Kd.R_drew)); exact HO_5.out) hb); have n1_ := Aside0.mk (Kd.R_below (by (with_reducible repeat (first | apply Kd.R_alloc | apply Kd.R_drewN | apply Kd.R_drew)); exact HO_6.out) hb); have n2_ := Aside0.mk (blk_below (g := gb485) (o := .cells #[.bool t477, .int .i64 t478, .int .i64 t479, .int .i64 t480, .int .i64 t481, .int .i64 t482, .int .i64 t483] 44 (0, 0)) (kX BK485.out) hb); have n3_ := Aside0.mk (below_step lB hb); clear HO_5; clear HO_6; clear BK485; clear HB; have HO_5 := n0_; have HO_6 := n1_; have BK485 := n2_; have HB := n3_; clear n0_ n1_ n2_ n3_; (try clear hb); (try clear hb2); (try clear hk); (try clear hi)) | (go_at_call 23; (with_reducible refine (silversidelaw01_awake.calls kj5  t489 _ A25.out).mono ?_); rintro e w28 ⟨rfl, hb⟩; have n0_ := Aside0.mk (Kd.R_below (by (with_reducible repeat (first | apply Kd.R_alloc | apply Kd.R_drewN | apply Kd.R_drew)); exact HO_5.out) hb); have n1_ := Aside0.mk (Kd.R_below (by (with_reducible repeat (first | apply Kd.R_alloc | apply Kd.R_drewN | apply Kd.R_drew)); exact HO_6.out) hb); have n2_ := Aside0.mk (blk_below (g := gb485) (o := .cells #[.bool t477, .int .i64 t478, .int .i64 t479, .int .i64 t480, .int .i64 t481, .int .i64 t482, .int .i64 t483] 44 (0, 0)) (kX BK485.out) hb); have n3_ := Aside0.mk (below_step lB hb); clear HO_5; clear HO_6; clear BK485; clear HB; have HO_5 := n0_; have HO_6 := n1_; have BK485 := n2_; have HB := n3_; clear n0_ n1_ n2_ n3_; (try clear hb); (try clear hb2); (try clear hk); (try clear hi)))
       go_ret
       exact en
      ·rw [if_neg c24] at H
       exact absurd ((Option.some.inj H).trans hr_.out) (by decide)
     ·rw [if_neg c22] at H
      exact absurd ((Option.some.inj H).trans hr_.out) (by decide)
    ·rw [if_neg c21] at H
     exact absurd ((Option.some.inj H).trans hr_.out) (by decide)
   ·replace c20 := Bool.eq_false_iff.mpr c20
    subst c20
    have H1 : (if t484 = 0 then ((silversideref01_Right.f t471 t474 t477 t478 t479 t480 t481 t482 t483).bind fun t490 => (if t490 = true then ((silversideref01_Meets.f kj5 t471 t474).bind fun t491 => (if (t477 == t491) = true then ((plane_Check.f kj5 t471 t474 t477 t478 t479 t480 t481 t482 t483).bind fun t492 => (if t492 = 0 then ((silversidelaw01_awake.f kj5).bind fun t493 => (some t493)) else (some false))) else (some false))) else (some false))) else (some false)) = some r := by rw [if_neg (show ¬ (false = true) by decide)] at H; exact H
    clear H
    have H := H1
    clear H1
    by_cases c33 : t484 = 0
    ·rw [if_pos c33] at H
     have c33b0 : (t484 == 0) = true := beq_iff_eq.mpr c33
     have c33b1 : (t484 != 0) = false := bne_eq_false_iff_eq.mpr c33
     clear c33
     replace H := Option.bind_eq_some_iff.mp H
     obtain ⟨t490, A340, H⟩ := H
     replace H : (if t490 = true then ((silversideref01_Meets.f kj5 t471 t474).bind fun t491 => (if (t477 == t491) = true then ((plane_Check.f kj5 t471 t474 t477 t478 t479 t480 t481 t482 t483).bind fun t492 => (if t492 = 0 then ((silversidelaw01_awake.f kj5).bind fun t493 => (some t493)) else (some false))) else (some false))) else (some false)) = some r := H
     have A34 := Aside0.mk A340
     clear A340
     by_cases c35 : t490 = true
     ·subst c35
      have H1 : ((silversideref01_Meets.f kj5 t471 t474).bind fun t491 => (if (t477 == t491) = true then ((plane_Check.f kj5 t471 t474 t477 t478 t479 t480 t481 t482 t483).bind fun t492 => (if t492 = 0 then ((silversidelaw01_awake.f kj5).bind fun t493 => (some t493)) else (some false))) else (some false))) = some r := by rw [if_pos rfl] at H; exact H
      clear H
      have H := H1
      clear H1
      replace H := Option.bind_eq_some_iff.mp H
      obtain ⟨t491, A360, H⟩ := H
      replace H : (if (t477 == t491) = true then ((plane_Check.f kj5 t471 t474 t477 t478 t479 t480 t481 t482 t483).bind fun t492 => (if t492 = 0 then ((silversidelaw01_awake.f kj5).bind fun t493 => (some t493)) else (some false))) else (some false)) = some r := H
      have A36 := Aside0.mk A360
      clear A360
      by_cases c37 : (t477 == t491) = true
      ·rw [if_pos c37] at H
       have c37b0 : (t477 == t491) = true := c37
       (try (have c37b1 : decide (t477 = t491) = true := by simpa using c37))
       (try (have c37b2 : (t477 == t491) = true := by simpa using c37))
       clear c37
       replace H := Option.bind_eq_some_iff.mp H
       obtain ⟨t492, A380, H⟩ := H
       replace H : (if t492 = 0 then ((silversidelaw01_awake.f kj5).bind fun t493 => (some t493)) else (some false)) = some r := H
       have A38 := Aside0.mk A380
       clear A380
       by_cases c39 : t492 = 0
       ·rw [if_pos c39] at H
        have c39b0 : (t492 == 0) = true := beq_iff_eq.mpr c39
        have c39b1 : (t492 != 0) = false := bne_eq_false_iff_eq.mpr c39
        clear c39
        replace H := Option.bind_eq_some_iff.mp H
        obtain ⟨t493, A400, H⟩ := H
        replace H : (some t493) = some r := H
        have A40 := Aside0.mk A400
        clear A400
        obtain rfl := Option.some.inj H
        try go_wp2
        replace HO_5 := Aside0.mk (Kd.R_drew HO_5.out)
        replace HO_6 := Aside0.mk (Kd.R_drew HO_6.out)
        replace BK485 := Aside0.mk (kD BK485.out)
        replace HB := Aside0.mk (lD HB.out)
        refine start_ (n := 27) (S := fun w' => w'.cell? ⟨gb485, 0, none⟩ = some (.bool t477) ∧ w'.cell? ⟨gb485, 1, none⟩ = some (.int .i64 t478) ∧ w'.cell? ⟨gb485, 2, none⟩ = some (.int .i64 t479) ∧ w'.cell? ⟨gb485, 3, none⟩ = some (.int .i64 t480) ∧ w'.cell? ⟨gb485, 4, none⟩ = some (.int .i64 t481) ∧ w'.cell? ⟨gb485, 5, none⟩ = some (.int .i64 t482) ∧ w'.cell? ⟨gb485, 6, none⟩ = some (.int .i64 t483)) (ds := []) (Bs 0 27) (by kernel_rfl) rfl rfl ⟨(blk_cell BK485.out 0).trans rfl, (blk_cell BK485.out 1).trans rfl, (blk_cell BK485.out 2).trans rfl, (blk_cell BK485.out 3).trans rfl, (blk_cell BK485.out 4).trans rfl, (blk_cell BK485.out 5).trans rfl, (blk_cell BK485.out 6).trans rfl⟩ (fun hHeld => ?_); refine with_tabW silversidelaw01_PlaneSeparates.tab5 silversidelaw01_PlaneSeparates.bits5 (fun HT_ HW_ => ?_)
        generalize wc.drew = w41 at HO_5 HO_6 BK485 HB hHeld ⊢
        refine pu 0 44 (Bs 1 27) HT_ ?_
        refine pu 1 45 (Bs 2 27) HT_ ?_
        refine pu 2 46 (Bs 3 27) HT_ ?_
        refine pu 3 47 (Bs 4 27) HT_ ?_
        refine pu 4 48 (Bs 5 27) HT_ ?_
        refine ta 5 49 (Bs 6 27) HT_ HW_ hHeld ?_
        refine one_ (i := 6) (N := some 50) (Bs 7 27) rfl rfl (one_of HT_.out (by kernel_rfl)) (by decide) (fun K hK => ?_)
        refine goes_ Try.func40 (by kernel_rfl) rfl #[.slice Ao9 t471.length co9, .slice Ao10 t474.length co10, .agg #[.bool t477, .int .i64 t478, .int .i64 t479, .int .i64 t480, .int .i64 t481, .int .i64 t482, .int .i64 t483]] (by rfl) rfl rfl (by (try simp only [List.map_toArray, List.map_cons, List.map_nil]); first | done | rfl | (simp only [List.length_drop, List.length_take]; rfl)) ?_
        with_reducible refine (silversideref01_Right.calls _ _ t471 _ _ t474 t477 t478 t479 t480 t481 t482 t483 true _ ?side1 ?side2 ?side3 ?side4 A34.out).mono ?_
        (case side1 => repeat (first | exact (Kd.R_reads' HO_5.out).2.2 | (with_reducible refine Kd.C_alloc ?_ _) | (with_reducible refine Kd.C_drewN ?_ _) | (with_reducible refine Kd.C_drew ?_)))
        (case side2 => exact (Kd.R_reads' HO_5.out).2.1)
        (case side3 => repeat (first | exact (Kd.R_reads' HO_6.out).2.2 | (with_reducible refine Kd.C_alloc ?_ _) | (with_reducible refine Kd.C_drewN ?_ _) | (with_reducible refine Kd.C_drew ?_)))
        (case side4 => exact (Kd.R_reads' HO_6.out).2.1)
        rintro e w42 ⟨rfl, hb⟩
        refine ⟨_, rfl, ?_⟩
        have n0_ := Aside0.mk (Kd.R_below (by (with_reducible repeat (first | apply Kd.R_alloc | apply Kd.R_drewN | apply Kd.R_drew)); exact HO_5.out) hb)
        have n1_ := Aside0.mk (Kd.R_below (by (with_reducible repeat (first | apply Kd.R_alloc | apply Kd.R_drewN | apply Kd.R_drew)); exact HO_6.out) hb)
        have n3_ := Aside0.mk (below_step lB hb)
        clear HO_5
        clear HO_6
        clear HB
        have HO_5 := n0_
        have HO_6 := n1_
        have HB := n3_
        clear n0_ n1_ n3_
        replace BK485 := Aside0.mk (blk_below (g := gb485) (o := .cells #[.bool t477, .int .i64 t478, .int .i64 t479, .int .i64 t480, .int .i64 t481, .int .i64 t482, .int .i64 t483] 44 (0, 0)) (kX BK485.out) hb)
        (try clear hb)
        (try clear hb2)
        (try clear hk)
        (try clear hi)
        refine hK.out _ _ ⟨(blk_cell BK485.out 0).trans rfl, (blk_cell BK485.out 1).trans rfl, (blk_cell BK485.out 2).trans rfl, (blk_cell BK485.out 3).trans rfl, (blk_cell BK485.out 4).trans rfl, (blk_cell BK485.out 5).trans rfl, (blk_cell BK485.out 6).trans rfl⟩ (fun hHeld => ?_)
        clear hK K
        refine nm 50 ?_
        refine pu 7 51 (Bs 8 27) HT_ ?_
        refine pu 8 52 (Bs 9 27) HT_ ?_
        refine pu 9 53 (Bs 10 27) HT_ ?_
        refine pu 11 55 (Br [10,1,1,15]) HT_ ?_
        refine pu 12 56 (Br [10,1,2,14]) HT_ ?_
        refine ta 10 54 (Bs 13 27) HT_ HW_ hHeld ?_
        refine one_ (i := 13) (N := some 57) (Bs 14 27) rfl rfl (one_of HT_.out (by kernel_rfl)) (by decide) (fun K hK => ?_)
        refine goes_ Try.func41 (by kernel_rfl) rfl #[.slice Ao9 t471.length co9, .slice Ao10 t474.length co10] (by rfl) rfl rfl (by (try simp only [List.map_toArray, List.map_cons, List.map_nil]); first | done | rfl | (simp only [List.length_drop, List.length_take]; rfl)) ?_
        with_reducible refine (silversideref01_Meets.calls kj5 _ _ t471 _ _ t474 t491 _ ?side1 ?side2 ?side3 ?side4 A36.out).mono ?_
        (case side1 => repeat (first | exact (Kd.R_reads' HO_5.out).2.2 | (with_reducible refine Kd.C_alloc ?_ _) | (with_reducible refine Kd.C_drewN ?_ _) | (with_reducible refine Kd.C_drew ?_)))
        (case side2 => exact (Kd.R_reads' HO_5.out).2.1)
        (case side3 => repeat (first | exact (Kd.R_reads' HO_6.out).2.2 | (with_reducible refine Kd.C_alloc ?_ _) | (with_reducible refine Kd.C_drewN ?_ _) | (with_reducible refine Kd.C_drew ?_)))
        (case side4 => exact (Kd.R_reads' HO_6.out).2.1)
        rintro e w43 ⟨rfl, hb⟩
        refine ⟨_, rfl, ?_⟩
        have n0_ := Aside0.mk (Kd.R_below (by (with_reducible repeat (first | apply Kd.R_alloc | apply Kd.R_drewN | apply Kd.R_drew)); exact HO_5.out) hb)
        have n1_ := Aside0.mk (Kd.R_below (by (with_reducible repeat (first | apply Kd.R_alloc | apply Kd.R_drewN | apply Kd.R_drew)); exact HO_6.out) hb)
        have n3_ := Aside0.mk (below_step lB hb)
        clear HO_5
        clear HO_6
        clear HB
        have HO_5 := n0_
        have HO_6 := n1_
        have HB := n3_
        clear n0_ n1_ n3_
        replace BK485 := Aside0.mk (blk_below (g := gb485) (o := .cells #[.bool t477, .int .i64 t478, .int .i64 t479, .int .i64 t480, .int .i64 t481, .int .i64 t482, .int .i64 t483] 44 (0, 0)) (kX BK485.out) hb)
        (try clear hb)
        (try clear hb2)
        (try clear hk)
        (try clear hi)
        refine hK.out _ _ ⟨(blk_cell BK485.out 0).trans rfl, (blk_cell BK485.out 1).trans rfl, (blk_cell BK485.out 2).trans rfl, (blk_cell BK485.out 3).trans rfl, (blk_cell BK485.out 4).trans rfl, (blk_cell BK485.out 5).trans rfl, (blk_cell BK485.out 6).trans rfl⟩ (fun hHeld => ?_)
        clear hK K
        refine nm 57 ?_
        refine pu 14 58 (Bs 15 27) HT_ ?_
        refine pu 15 59 (Bs 16 27) HT_ ?_
        refine pu 16 60 (Bs 17 27) HT_ ?_
        refine pu 17 61 (Bs 18 27) HT_ ?_
        refine pu 18 62 (Bs 19 27) HT_ ?_
        refine ta 19 63 (Bs 20 27) HT_ HW_ hHeld ?_
        refine one_ (i := 20) (N := some 64) (Bs 21 27) rfl rfl (one_of HT_.out (by kernel_rfl)) (by decide) (fun K hK => ?_)
        refine goes_ Try.func39 (by kernel_rfl) rfl #[.slice Ao9 t471.length co9, .slice Ao10 t474.length co10, .agg #[.bool t477, .int .i64 t478, .int .i64 t479, .int .i64 t480, .int .i64 t481, .int .i64 t482, .int .i64 t483]] (by rfl) rfl rfl (by (try simp only [List.map_toArray, List.map_cons, List.map_nil]); first | done | rfl | (simp only [List.length_drop, List.length_take]; rfl)) ?_
        with_reducible refine (plane_Check.calls kj5 _ _ t471 _ _ t474 t477 t478 t479 t480 t481 t482 t483 t492 _ ?side1 ?side2 ?side3 ?side4 A38.out).mono ?_
        (case side1 => repeat (first | exact (Kd.R_reads' HO_5.out).2.2 | (with_reducible refine Kd.C_alloc ?_ _) | (with_reducible refine Kd.C_drewN ?_ _) | (with_reducible refine Kd.C_drew ?_)))
        (case side2 => exact (Kd.R_reads' HO_5.out).2.1)
        (case side3 => repeat (first | exact (Kd.R_reads' HO_6.out).2.2 | (with_reducible refine Kd.C_alloc ?_ _) | (with_reducible refine Kd.C_drewN ?_ _) | (with_reducible refine Kd.C_drew ?_)))
        (case side4 => exact (Kd.R_reads' HO_6.out).2.1)
        rintro e w44 ⟨rfl, hb⟩
        refine ⟨_, rfl, ?_⟩
        have n0_ := Aside0.mk (Kd.R_below (by (with_reducible repeat (first | apply Kd.R_alloc | apply Kd.R_drewN | apply Kd.R_drew)); exact HO_5.out) hb)
        have n1_ := Aside0.mk (Kd.R_below (by (with_reducible repeat (first | apply Kd.R_alloc | apply Kd.R_drewN | apply Kd.R_drew)); exact HO_6.out) hb)
        have n3_ := Aside0.mk (below_step lB hb)
        clear HO_5
        clear HO_6
        clear HB
        have HO_5 := n0_
        have HO_6 := n1_
        have HB := n3_
        clear n0_ n1_ n3_
        replace BK485 := Aside0.mk (blk_below (g := gb485) (o := .cells #[.bool t477, .int .i64 t478, .int .i64 t479, .int .i64 t480, .int .i64 t481, .int .i64 t482, .int .i64 t483] 44 (0, 0)) (kX BK485.out) hb)
        (try clear hb)
        (try clear hb2)
        (try clear hk)
        (try clear hi)
        refine hK.out _ _ ⟨(blk_cell BK485.out 0).trans rfl, (blk_cell BK485.out 1).trans rfl, (blk_cell BK485.out 2).trans rfl, (blk_cell BK485.out 3).trans rfl, (blk_cell BK485.out 4).trans rfl, (blk_cell BK485.out 5).trans rfl, (blk_cell BK485.out 6).trans rfl⟩ (fun hHeld => ?_)
        clear hK K
        refine nm 64 ?_
        refine pu 21 65 (Bs 22 27) HT_ ?_
        refine pu 22 66 (Bs 23 27) HT_ ?_
        refine pu 23 67 (Bs 24 27) HT_ ?_
        refine one_ (i := 24) (N := some 68) (Bs 25 27) rfl rfl (one_of HT_.out (by kernel_rfl)) (by decide) (fun K hK => ?_)
        refine goes_ Try.func23 (by kernel_rfl) rfl #[] (by rfl) rfl rfl (by (try simp only [List.map_toArray, List.map_cons, List.map_nil]); first | done | rfl | (simp only [List.length_drop, List.length_take]; rfl)) ?_
        with_reducible refine (silversidelaw01_awake.calls kj5  t493 _ A40.out).mono ?_
        rintro e w45 ⟨rfl, hb⟩
        refine ⟨_, rfl, ?_⟩
        have n0_ := Aside0.mk (Kd.R_below (by (with_reducible repeat (first | apply Kd.R_alloc | apply Kd.R_drewN | apply Kd.R_drew)); exact HO_5.out) hb)
        have n1_ := Aside0.mk (Kd.R_below (by (with_reducible repeat (first | apply Kd.R_alloc | apply Kd.R_drewN | apply Kd.R_drew)); exact HO_6.out) hb)
        have n3_ := Aside0.mk (below_step lB hb)
        clear HO_5
        clear HO_6
        clear HB
        have HO_5 := n0_
        have HO_6 := n1_
        have HB := n3_
        clear n0_ n1_ n3_
        replace BK485 := Aside0.mk (blk_below (g := gb485) (o := .cells #[.bool t477, .int .i64 t478, .int .i64 t479, .int .i64 t480, .int .i64 t481, .int .i64 t482, .int .i64 t483] 44 (0, 0)) (kX BK485.out) hb)
        (try clear hb)
        (try clear hb2)
        (try clear hk)
        (try clear hi)
        refine hK.out _ _ ⟨(blk_cell BK485.out 0).trans rfl, (blk_cell BK485.out 1).trans rfl, (blk_cell BK485.out 2).trans rfl, (blk_cell BK485.out 3).trans rfl, (blk_cell BK485.out 4).trans rfl, (blk_cell BK485.out 5).trans rfl, (blk_cell BK485.out 6).trans rfl⟩ (fun hHeld => ?_)
        clear hK K
        refine nm 68 ?_
        refine pu 25 69 (Bs 26 27) HT_ ?_
        refine pu 26 4 (Bs 27 27) HT_ ?_
        refine done_ (done_of HT_.out (by kernel_rfl)) ?_
        try go_wp2
        go_ret
        exact en
       ·rw [if_neg c39] at H
        exact absurd ((Option.some.inj H).trans hr_.out) (by decide)
      ·rw [if_neg c37] at H
       exact absurd ((Option.some.inj H).trans hr_.out) (by decide)
     ·replace c35 := Bool.eq_false_iff.mpr c35
      subst c35
      exact absurd ((Option.some.inj (show (some false : Option Bool) = some r from by rw [if_neg (show ¬ (false = true) by decide)] at H; exact H)).trans hr_.out) (by decide)
    ·rw [if_neg c33] at H
     exact absurd ((Option.some.inj H).trans hr_.out) (by decide)
end Go.Proofs.Ythaklbjcjoolcaa.P
namespace Go.Proofs.Ythaklbjcjoolcaa.P
open Go.RowKit Go.Proofs.YthaklbjcjoolcaaW.PrintWords Go.Proofs.YthaklbjcjoolcaaW.PrintLast Go.Proofs.YthaklbjcjoolcaaW.PrintMore
theorem onB_crs {a b p : S31} (h : onB a b p = true) : crs a b p = 0 := by
  unfold onB at h
  simp only [Bool.and_eq_true, decide_eq_true_eq] at h
  exact h.1
theorem has_is {a b p : S31} (ha : okPt a = true) (hb : okPt b = true) (hp : okPt p = true) : plane_segment_has.f a.f0 a.f1 b.f0 b.f1 p.f0 p.f1 = some (onB a b p) := by
  unfold plane_segment_has.f onB
  rw [turn_is ha hb hp, Option.bind_some, within_is, within_is]
  simp only [Option.bind_some]
  by_cases h : crs a b p = 0
  · rw [if_pos (sgn_zero.2 h), h]
    by_cases h2 : mn a.f0 b.f0 ≤ p.f0 ∧ p.f0 ≤ mx a.f0 b.f0
    · rw [if_pos (decide_eq_true h2)]; simp [h2.1, h2.2]
    · rw [if_neg (by simpa using h2)]
      by_cases h3 : mn a.f0 b.f0 ≤ p.f0
      · have h4 : ¬ p.f0 ≤ mx a.f0 b.f0 := fun h4 => h2 ⟨h3, h4⟩
        simp [h4]
      · simp [h3]
  · rw [if_neg (fun h' => h (sgn_zero.1 h'))]; simp [h]
/-- two segments have a point in common -/
def meetB (a b c d : S31) : Bool := onB a b c || (onB a b d || (onB c d a || (onB c d b || (decide (sgn (crs a b c) * sgn (crs a b d) < 0) && decide (sgn (crs c d a) * sgn (crs c d b) < 0)))))
theorem w64_sgn (x y : Int) : wrap64 (sgn x * sgn y) = sgn x * sgn y := by
  have h := mul_bd (m := 1) (n := 1) (sgn_bd x) (sgn_bd y)
  exact w64i (by omega) (by omega)
theorem meets_is {a b c d : S31} (ha : okPt a = true) (hb : okPt b = true) (hc : okPt c = true) (hd : okPt d = true) (k : Nat) : plane_segment_meets.f (k + 1) a.f0 a.f1 b.f0 b.f1 c.f0 c.f1 d.f0 d.f1 = some (meetB a b c d) := by
  have hj : ∀ x : Bool, plane_segment_meets.j0 (k + 1) x a.f0 a.f1 b.f0 b.f1 c.f0 c.f1 d.f0 d.f1 = some (x || (decide (sgn (crs a b c) * sgn (crs a b d) < 0) && decide (sgn (crs c d a) * sgn (crs c d b) < 0))) := by
    intro x
    rw [plane_segment_meets.j0, turn_is ha hb hc, turn_is ha hb hd, turn_is hc hd ha, turn_is hc hd hb]
    simp only [Option.bind_some, w64_sgn]
    cases x
    · by_cases h : sgn (crs a b c) * sgn (crs a b d) < 0
      · simp [h]
      · simp [h]
    · rfl
  unfold plane_segment_meets.f meetB
  simp only [hj]
  rw [has_is ha hb hc, has_is ha hb hd, has_is hc hd ha, has_is hc hd hb]
  simp only [Option.bind_some]
  cases onB a b c <;> cases onB a b d <;> cases onB c d a <;> cases onB c d b <;> rfl
end Go.Proofs.Ythaklbjcjoolcaa.P
namespace Go.Proofs.Ythaklbjcjoolcaa.P
open Go.RowKit Go.Shelf Go.Sort Go.Proofs.YthaklbjcjoolcaaW.PrintWords Go.Proofs.YthaklbjcjoolcaaW.PrintLast Go.Proofs.YthaklbjcjoolcaaW.PrintMore
/-- a linear form in (X, Y, D): the point (X/D, Y/D) is on its side if it is not negative -/
structure Fm where
  a : Int
  b : Int
  c : Int
/-- the value of a form -/
def Fm.v (g : Fm) (X Y D : Int) : Int := g.a * X + g.b * Y + g.c * D
/-- the side of an edge -/
def fmE (a b : S31) : Fm := ⟨-(b.f1 - a.f1), b.f0 - a.f0, (b.f1 - a.f1) * a.f0 - (b.f0 - a.f0) * a.f1⟩
/-- on which side of the way from a to b a point (X/D, Y/D) lies -/
def sd (a b : S31) (X Y D : Int) : Int := (b.f0 - a.f0) * (Y - a.f1 * D) - (b.f1 - a.f1) * (X - a.f0 * D)
theorem fmE_v (a b : S31) (X Y D : Int) : (fmE a b).v X Y D = sd a b X Y D := by unfold fmE Fm.v sd; grind
theorem sd_crs (a b p : S31) : sd a b p.f0 p.f1 1 = crs a b p := by unfold sd crs; grind
/-- the box of two points -/
def fmB (a b : S31) : List Fm := [⟨1, 0, -mn a.f0 b.f0⟩, ⟨-1, 0, mx a.f0 b.f0⟩, ⟨0, 1, -mn a.f1 b.f1⟩, ⟨0, -1, mx a.f1 b.f1⟩]
/-- the forms of a hull -/
def fms (H : List S31) : List Fm := (List.range H.length).map (fun i => fmE (pt H i) (pt H (nxt i H.length))) ++ (if H.length < 3 then fmB (pt H 0) (pt H (H.length - 1)) else [])
/-- the point (X/D, Y/D) is in the hull -/
def InH (H : List S31) (X Y D : Int) : Prop := 0 < D ∧ ∀ g ∈ fms H, 0 ≤ g.v X Y D
theorem Fm.v_lin (g : Fm) (l m X Y D X' Y' D' : Int) : g.v (l * X + m * X') (l * Y + m * Y') (l * D + m * D') = l * g.v X Y D + m * g.v X' Y' D' := by unfold Fm.v; grind
theorem InH.comb {H : List S31} {l m X Y D X' Y' D' : Int} (hl : 0 ≤ l) (hm : 0 ≤ m) (hD : 0 < l * D + m * D') (h : InH H X Y D) (h' : InH H X' Y' D') : InH H (l * X + m * X') (l * Y + m * Y') (l * D + m * D') :=
  ⟨hD, fun g hg => by rw [Fm.v_lin]; have := nn_mul hl (h.2 g hg); have := nn_mul hm (h'.2 g hg); omega⟩
theorem fm_edge {H : List S31} {i : Nat} (hi : i < H.length) : fmE (pt H i) (pt H (nxt i H.length)) ∈ fms H :=
  List.mem_append_left _ (List.mem_map.2 ⟨i, List.mem_range.2 hi, rfl⟩)
theorem mn_le (a b : Int) : mn a b ≤ a ∧ mn a b ≤ b := by unfold mn; split <;> omega
theorem le_mx (a b : Int) : a ≤ mx a b ∧ b ≤ mx a b := by unfold mx; split <;> omega
theorem fmB_v {a b : S31} {X Y D : Int} : (∀ g ∈ fmB a b, 0 ≤ g.v X Y D) ↔ (mn a.f0 b.f0 * D ≤ X ∧ X ≤ mx a.f0 b.f0 * D) ∧ (mn a.f1 b.f1 * D ≤ Y ∧ Y ≤ mx a.f1 b.f1 * D) := by
  unfold fmB Fm.v
  simp only [List.mem_cons, List.not_mem_nil, or_false, forall_eq_or_imp, forall_eq]
  constructor
  · rintro ⟨h1, h2, h3, h4⟩
    refine ⟨⟨by grind, by grind⟩, by grind, by grind⟩
  · rintro ⟨⟨h1, h2⟩, h3, h4⟩
    refine ⟨by grind, by grind, by grind, by grind⟩
theorem hull_two {l H : List S31} (h : IsHull l H) (h3 : H.length < 3) {p : S31} (hp : p ∈ l) : onB (pt H 0) (pt H (H.length - 1)) p = true := by
  by_cases h1 : H.length = 1
  · rw [h1, h.one h1 p hp]; exact onB_self _
  · have h2 : H.length = 2 := by have := h.pos; omega
    have e0 := h.ed 0 (by omega) p hp
    have e1 := h.ed 1 (by omega) p hp
    rw [show nxt 0 H.length = 1 by unfold nxt; rw [if_pos (by omega)]] at e0
    rw [show nxt 1 H.length = 0 by unfold nxt; rw [if_neg (by omega)]] at e1
    rw [h2]
    have n0 := e0.nn
    have n1 := e1.nn
    have e : crs (pt H 1) (pt H 0) p = - crs (pt H 0) (pt H 1) p := by unfold crs; grind
    rcases e0 with e0 | e0
    · omega
    · exact e0
/-- the points are in the hull -/
theorem hull_in {l H : List S31} (h : IsHull l H) {p : S31} (hp : p ∈ l) : InH H p.f0 p.f1 1 := by
  refine ⟨by omega, fun g hg => ?_⟩
  unfold fms at hg
  rw [List.mem_append] at hg
  rcases hg with hg | hg
  · obtain ⟨i, hi, rfl⟩ := List.mem_map.1 hg
    rw [fmE_v, sd_crs]
    exact (h.ed i (List.mem_range.1 hi) p hp).nn
  · split at hg
    · rename_i h3
      have := (onB_iff _ _ _).1 (hull_two h h3 hp)
      refine (fmB_v (X := p.f0) (Y := p.f1) (D := 1)).2 ?_ g hg
      simp only [Int.mul_one]; exact this.2
    · simp at hg
/-- the point (X/D, Y/D) is on a segment -/
def OnS (a b : S31) (X Y D : Int) : Prop := ∃ s t, 0 ≤ s ∧ 0 ≤ t ∧ 0 < s + t ∧ (s + t) * X = D * (s * a.f0 + t * b.f0) ∧ (s + t) * Y = D * (s * a.f1 + t * b.f1)
theorem OnS.swap {a b : S31} {X Y D : Int} (h : OnS a b X Y D) : OnS b a X Y D := by
  obtain ⟨s, t, h1, h2, h3, h4, h5⟩ := h
  exact ⟨t, s, h2, h1, by omega, by grind, by grind⟩
theorem on_box {a b : S31} {X Y D : Int} (hD : 0 < D) (hs : sd a b X Y D = 0) (hx : mn a.f0 b.f0 * D ≤ X ∧ X ≤ mx a.f0 b.f0 * D) (hy : mn a.f1 b.f1 * D ≤ Y ∧ Y ≤ mx a.f1 b.f1 * D) : OnS a b X Y D := by
  unfold sd at hs
  unfold mn mx at hx hy
  rcases Int.lt_trichotomy a.f0 b.f0 with h | h | h
  · rw [if_neg (by omega), if_pos h] at hx
    refine ⟨b.f0 * D - X, X - a.f0 * D, by omega, by omega, ?_, by grind, by grind⟩
    have := ps_mul (a := b.f0 - a.f0) (b := D) (by omega) hD
    grind
  · rw [if_neg (by omega), if_neg (by omega)] at hx
    have hX : X = a.f0 * D := by omega
    rcases Int.lt_trichotomy a.f1 b.f1 with h' | h' | h'
    · rw [if_neg (by omega), if_pos h'] at hy
      refine ⟨b.f1 * D - Y, Y - a.f1 * D, by omega, by omega, ?_, by grind, by grind⟩
      have := ps_mul (a := b.f1 - a.f1) (b := D) (by omega) hD
      grind
    · rw [if_neg (by omega), if_neg (by omega)] at hy
      exact ⟨1, 0, by omega, by omega, by omega, by grind, by grind⟩
    · rw [if_pos h', if_neg (by omega)] at hy
      refine ⟨Y - b.f1 * D, a.f1 * D - Y, by omega, by omega, ?_, by grind, by grind⟩
      have := ps_mul (a := a.f1 - b.f1) (b := D) (by omega) hD
      grind
  · rw [if_pos h, if_neg (by omega)] at hx
    refine ⟨X - b.f0 * D, a.f0 * D - X, by omega, by omega, ?_, by grind, by grind⟩
    have := ps_mul (a := a.f0 - b.f0) (b := D) (by omega) hD
    grind
theorem nxt_prev {n i : Nat} (hn : 0 < n) (hi : i < n) : ∃ k, k < n ∧ nxt k n = i := by
  rcases Nat.eq_zero_or_pos i with rfl | h3
  · exact ⟨n - 1, by omega, by unfold nxt; rw [if_neg (by omega)]⟩
  · exact ⟨i - 1, by omega, by unfold nxt; rw [if_pos (by omega)]; omega⟩
/-- where a form of a hull vanishes, the point is on an edge -/
theorem on_edge {H : List S31} (h : IsHull H H) {X Y D : Int} (hin : InH H X Y D) {g : Fm} (hg : g ∈ fms H) (h0 : g.v X Y D = 0) : ∃ i, i < H.length ∧ OnS (pt H i) (pt H (nxt i H.length)) X Y D := by
  by_cases h3 : H.length < 3
  · have hbox := (fmB_v (a := pt H 0) (b := pt H (H.length - 1)) (X := X) (Y := Y) (D := D)).1 (fun g hg => hin.2 g (List.mem_append_right _ (by rw [if_pos h3]; exact hg)))
    by_cases h1 : H.length = 1
    · refine ⟨0, by omega, ?_⟩
      rw [show nxt 0 H.length = 0 by unfold nxt; rw [if_neg (by omega)]]
      rw [h1] at hbox
      exact on_box hin.1 (by unfold sd; grind) hbox.1 hbox.2
    · have h2 : H.length = 2 := by have := h.pos; omega
      refine ⟨0, by omega, ?_⟩
      have e0 := hin.2 _ (fm_edge (H := H) (i := 0) (by omega))
      have e1 := hin.2 _ (fm_edge (H := H) (i := 1) (by omega))
      rw [show nxt 0 H.length = 1 by unfold nxt; rw [if_pos (by omega)], fmE_v] at e0
      rw [show nxt 1 H.length = 0 by unfold nxt; rw [if_neg (by omega)], fmE_v] at e1
      rw [show nxt 0 H.length = 1 by unfold nxt; rw [if_pos (by omega)]]
      rw [h2] at hbox
      have e : sd (pt H 1) (pt H 0) X Y D = - sd (pt H 0) (pt H 1) X Y D := by unfold sd; grind
      exact on_box hin.1 (by omega) hbox.1 hbox.2
  · unfold fms at hg
    rw [if_neg h3, List.append_nil] at hg
    obtain ⟨i, hi, rfl⟩ := List.mem_map.1 hg
    have hi := List.mem_range.1 hi
    refine ⟨i, hi, ?_⟩
    obtain ⟨k, hk, hki⟩ := nxt_prev h.pos hi
    have t1 := hull_left h (by omega) k hk
    have t2 := hull_left h (by omega) i hi
    have s1 := hin.2 _ (fm_edge hk)
    have s2 := hin.2 _ (fm_edge (nxt_lt (i := i) h.pos))
    rw [hki] at t1 s1
    rw [fmE_v] at s1 s2 h0
    have hD := hin.1
    have hne : pt H i ≠ pt H (nxt i H.length) := hull_ne h hi (nxt_lt h.pos) (by unfold nxt; split <;> omega)
    generalize pt H (nxt (nxt i H.length) H.length) = m at *
    generalize pt H (nxt i H.length) = b at *
    generalize pt H i = a at *
    generalize pt H k = k at *
    -- the weights
    have kx : crs k a b * (X - a.f0 * D) = sd k a X Y D * (b.f0 - a.f0) := by
      have : crs k a b * (X - a.f0 * D) = sd k a X Y D * (b.f0 - a.f0) - sd a b X Y D * (a.f0 - k.f0) := by unfold crs sd; grind
      rw [this, h0]; grind
    have ky : crs k a b * (Y - a.f1 * D) = sd k a X Y D * (b.f1 - a.f1) := by
      have : crs k a b * (Y - a.f1 * D) = sd k a X Y D * (b.f1 - a.f1) - sd a b X Y D * (a.f1 - k.f1) := by unfold crs sd; grind
      rw [this, h0]; grind
    have mx' : crs a b m * (b.f0 * D - X) = sd b m X Y D * (b.f0 - a.f0) := by
      have : crs a b m * (b.f0 * D - X) = sd b m X Y D * (b.f0 - a.f0) - sd a b X Y D * (m.f0 - b.f0) := by unfold crs sd; grind
      rw [this, h0]; grind
    have my' : crs a b m * (b.f1 * D - Y) = sd b m X Y D * (b.f1 - a.f1) := by
      have : crs a b m * (b.f1 * D - Y) = sd b m X Y D * (b.f1 - a.f1) - sd a b X Y D * (m.f1 - b.f1) := by unfold crs sd; grind
      rw [this, h0]; grind
    generalize crs k a b = C at *
    generalize crs a b m = C' at *
    generalize sd k a X Y D = T at *
    generalize sd b m X Y D = S at *
    clear h0
    have hS : 0 ≤ C * D - T := by
      have px : (C' * (C * D - T)) * (b.f0 - a.f0) = (C * S) * (b.f0 - a.f0) := by grind
      have py : (C' * (C * D - T)) * (b.f1 - a.f1) = (C * S) * (b.f1 - a.f1) := by grind
      have hcs := nn_mul (Int.le_of_lt t1) s2
      have hab : b.f0 - a.f0 ≠ 0 ∨ b.f1 - a.f1 ≠ 0 := by
        by_cases h0 : a.f0 = b.f0
        · right; intro h1; exact hne (S31.ext' h0 (by omega))
        · left; omega
      have e : C' * (C * D - T) = C * S := by
        rcases hab with hab | hab
        · exact Int.eq_of_mul_eq_mul_right hab px
        · exact Int.eq_of_mul_eq_mul_right hab py
      exact nn_of t2 (by omega)
    have hCD := ps_mul t1 hD
    refine ⟨C * D - T, T, hS, s1, by omega, by grind, by grind⟩
theorem min_ratio (vz vp : Fm → Int) : ∀ (L : List Fm), (∀ g ∈ L, 0 ≤ vz g) → (∃ g ∈ L, vp g < 0) → ∃ g ∈ L, vp g < 0 ∧ ∀ k ∈ L, 0 ≤ -vp g * vz k + vz g * vp k
  | [], _, h => by obtain ⟨g, hg, _⟩ := h; simp at hg
  | x :: L, hz, h => by
    have hzx := hz x (by simp)
    by_cases hL : ∃ g ∈ L, vp g < 0
    · obtain ⟨g, hg, hg1, hg2⟩ := min_ratio vz vp L (fun g hg => hz g (by simp [hg])) hL
      have hzg := hz g (by simp [hg])
      rcases Int.lt_or_le (-vp g * vz x + vz g * vp x) 0 with h1 | h1
      · have hx : vp x < 0 := by
          rcases Int.lt_or_le (vp x) 0 with h2 | h2
          · exact h2
          · have := nn_mul hzg h2; have := nn_mul (a := -vp g) (b := vz x) (by omega) hzx; omega
        refine ⟨x, by simp, hx, fun k hk => ?_⟩
        rw [List.mem_cons] at hk
        rcases hk with rfl | hk
        · have : -vp k * vz k + vz k * vp k = 0 := by grind
          omega
        · have hzk := hz k (by simp [hk])
          have hk2 := hg2 k hk
          rcases Int.lt_or_le (vp k) 0 with h2 | h2
          · refine nn_of (b := -vp g) (by omega) ?_
            have m1 := nn_mul (a := -vp x) (b := -vp g * vz k + vz g * vp k) (by omega) hk2
            have m2 := nn_mul (a := -vp k) (b := -(-vp g * vz x + vz g * vp x)) (by omega) (by omega)
            grind
          · have := nn_mul hzx h2; have := nn_mul (a := -vp x) (b := vz k) (by omega) hzk; omega
      · refine ⟨g, by simp [hg], hg1, fun k hk => ?_⟩
        rw [List.mem_cons] at hk
        rcases hk with rfl | hk
        · exact h1
        · exact hg2 k hk
    · obtain ⟨g, hg, hg1⟩ := h
      rw [List.mem_cons] at hg
      have hgx : g = x := by
        rcases hg with hg | hg
        · exact hg
        · exact absurd ⟨g, hg, hg1⟩ hL
      subst hgx
      refine ⟨g, by simp, hg1, fun k hk => ?_⟩
      rw [List.mem_cons] at hk
      rcases hk with rfl | hk
      · have : -vp k * vz k + vz k * vp k = 0 := by grind
        omega
      · have hzk := hz k (by simp [hk])
        have h2 : 0 ≤ vp k := by
          rcases Int.lt_or_le (vp k) 0 with h2 | h2
          · exact absurd ⟨k, hk, h2⟩ hL
          · exact h2
        have := nn_mul hzx h2; have := nn_mul (a := -vp g) (b := vz k) (by omega) hzk; omega
/-- from a common point towards a point of the one hull that is not in the other one: where the other one's edge is met -/
theorem clip {P Q : List S31} {X Y D : Int} {p : S31} (hP : InH P X Y D) (hQ : InH Q X Y D) (hp : InH P p.f0 p.f1 1) (hq : ¬ InH Q p.f0 p.f1 1) :
    ∃ l m, 0 < l ∧ 0 ≤ m ∧ InH P (l * X + m * p.f0) (l * Y + m * p.f1) (l * D + m * 1) ∧ InH Q (l * X + m * p.f0) (l * Y + m * p.f1) (l * D + m * 1) ∧ ∃ g ∈ fms Q, g.v (l * X + m * p.f0) (l * Y + m * p.f1) (l * D + m * 1) = 0 := by
  have hex : ∃ g ∈ fms Q, g.v p.f0 p.f1 1 < 0 := by
    rcases Classical.em (∃ g ∈ fms Q, g.v p.f0 p.f1 1 < 0) with h | h
    · exact h
    · refine absurd ⟨by omega, fun g hg => ?_⟩ hq
      rcases Int.lt_or_le (g.v p.f0 p.f1 1) 0 with h2 | h2
      · exact absurd ⟨g, hg, h2⟩ h
      · exact h2
  obtain ⟨g, hg, hg1, hg2⟩ := min_ratio (fun g => g.v X Y D) (fun g => g.v p.f0 p.f1 1) (fms Q) hQ.2 hex
  have hzg := hQ.2 g hg
  have hl : 0 < -g.v p.f0 p.f1 1 := by omega
  have hD := ps_mul hl hP.1
  refine ⟨-g.v p.f0 p.f1 1, g.v X Y D, hl, hzg, InH.comb (by omega) hzg (by omega) hP hp, ⟨by omega, fun k hk => by rw [Fm.v_lin]; exact hg2 k hk⟩, g, hg, ?_⟩
  rw [Fm.v_lin]; grind
theorem OnS.comb {c d : S31} {X Y D l m : Int} (h : OnS c d X Y D) (hl : 0 < l) (hm : 0 ≤ m) (hD : 0 < D) : OnS c d (l * X + m * c.f0) (l * Y + m * c.f1) (l * D + m * 1) := by
  obtain ⟨s, t, h1, h2, h3, h4, h5⟩ := h
  have hlD := ps_mul hl hD
  have n1 := nn_mul (Int.le_of_lt hlD) h1
  have n2 := nn_mul (Int.le_of_lt h3) hm
  have n3 := nn_mul (Int.le_of_lt hlD) h2
  have n4 := ps_mul (a := s + t) (b := l * D + m) h3 (by omega)
  refine ⟨l * D * s + (s + t) * m, l * D * t, by omega, n3, by grind, by grind, by grind⟩
theorem OnS.inH {P : List S31} (h : IsHull P P) {a b : S31} (ha : a ∈ P) (hb : b ∈ P) {X Y D : Int} (hD : 0 < D) (ho : OnS a b X Y D) : InH P X Y D := by
  obtain ⟨s, t, h1, h2, h3, h4, h5⟩ := ho
  refine ⟨hD, fun g hg => ?_⟩
  have ga := (hull_in h ha).2 g hg
  have gb := (hull_in h hb).2 g hg
  refine nn_of h3 ?_
  have e : (s + t) * g.v X Y D = D * (s * g.v a.f0 a.f1 1 + t * g.v b.f0 b.f1 1) := by unfold Fm.v; grind
  rw [e]
  have := nn_mul h1 ga
  have := nn_mul h2 gb
  exact nn_mul (Int.le_of_lt hD) (by omega)
theorem on_onB {a b p : S31} (h : OnS a b p.f0 p.f1 1) : onB a b p = true := by
  obtain ⟨s, t, h1, h2, h3, h4, h5⟩ := h
  rw [onB_iff']
  have btw : ∀ x u v : Int, (s + t) * x = 1 * (s * u + t * v) → (u ≤ x ∧ x ≤ v ∨ v ≤ x ∧ x ≤ u) := by
    intro x u v e
    rcases Int.le_total u v with h | h
    · left
      have m1 := nn_mul (a := t) (b := v - u) h2 (by omega)
      have m2 := nn_mul (a := s) (b := v - u) h1 (by omega)
      have e1 := nn_of (b := s + t) (t := x - u) h3 (by grind)
      have e2 := nn_of (b := s + t) (t := v - x) h3 (by grind)
      omega
    · right
      have m1 := nn_mul (a := t) (b := u - v) h2 (by omega)
      have m2 := nn_mul (a := s) (b := u - v) h1 (by omega)
      have e1 := nn_of (b := s + t) (t := u - x) h3 (by grind)
      have e2 := nn_of (b := s + t) (t := x - v) h3 (by grind)
      omega
  refine ⟨?_, btw _ _ _ h4, btw _ _ _ h5⟩
  have : (s + t) * crs a b p = 0 := by unfold crs; grind
  rcases Int.mul_eq_zero.1 this with h | h
  · omega
  · exact h
theorem on_sd {a b : S31} {X Y D : Int} (h : OnS a b X Y D) : sd a b X Y D = 0 := by
  obtain ⟨s, t, h1, h2, h3, h4, h5⟩ := h
  have : (s + t) * sd a b X Y D = 0 := by unfold sd; grind
  rcases Int.mul_eq_zero.1 this with h | h
  · omega
  · exact h
/-- the two directions' cross product -/
def par (a b c d : S31) : Int := (b.f0 - a.f0) * (d.f1 - c.f1) - (b.f1 - a.f1) * (d.f0 - c.f0)
theorem par_crs (a b c d : S31) : par a b c d = crs a b d - crs a b c := by unfold par crs; grind
theorem on_side {a b c d : S31} {X Y D s t : Int} (hD : 0 < D) (h : OnS a b X Y D) (h4 : (s + t) * X = D * (s * c.f0 + t * d.f0)) (h5 : (s + t) * Y = D * (s * c.f1 + t * d.f1)) : s * crs a b c + t * crs a b d = 0 := by
  have h0 := on_sd h
  have e : (s + t) * sd a b X Y D = D * (s * crs a b c + t * crs a b d) := by unfold sd crs; grind
  rw [h0, Int.mul_zero] at e
  rcases Int.mul_eq_zero.1 e.symm with h | h
  · omega
  · exact h
theorem on_one {c d : S31} {X Y D : Int} (hD : 0 < D) {x : S31} (hx : X = D * x.f0) (hy : Y = D * x.f1) (h : OnS c d X Y D) : OnS c d x.f0 x.f1 1 := by
  obtain ⟨s, t, h1, h2, h3, h4, h5⟩ := h
  refine ⟨s, t, h1, h2, h3, ?_, ?_⟩
  · have : D * ((s + t) * x.f0) = D * (1 * (s * c.f0 + t * d.f0)) := by grind
    exact Int.eq_of_mul_eq_mul_left (by omega) this
  · have : D * ((s + t) * x.f1) = D * (1 * (s * c.f1 + t * d.f1)) := by grind
    exact Int.eq_of_mul_eq_mul_left (by omega) this
theorem sides_opp {a b c d : S31} {X Y D : Int} (hD : 0 < D) (h : OnS a b X Y D) (h' : OnS c d X Y D) (hp : par a b c d ≠ 0) : onB a b c = true ∨ onB a b d = true ∨ sgn (crs a b c) * sgn (crs a b d) < 0 := by
  obtain ⟨s, t, h1, h2, h3, h4, h5⟩ := h'
  have hz := on_side hD h h4 h5
  rw [par_crs] at hp
  by_cases hs : s = 0
  · subst hs
    right; left
    refine on_onB (on_one hD ?_ ?_ h)
    · have : t * X = t * (D * d.f0) := by grind
      exact Int.eq_of_mul_eq_mul_left (by omega) this
    · have : t * Y = t * (D * d.f1) := by grind
      exact Int.eq_of_mul_eq_mul_left (by omega) this
  · by_cases ht : t = 0
    · subst ht
      left
      refine on_onB (on_one hD ?_ ?_ h)
      · have : s * X = s * (D * c.f0) := by grind
        exact Int.eq_of_mul_eq_mul_left (by omega) this
      · have : s * Y = s * (D * c.f1) := by grind
        exact Int.eq_of_mul_eq_mul_left (by omega) this
    · right; right
      generalize crs a b c = C at *
      generalize crs a b d = E at *
      rcases Int.lt_trichotomy C 0 with hC | hC | hC
      · have m := ps_mul (a := s) (b := -C) (by omega) (by omega)
        have hE : 0 < E := pos_of (b := t) (by omega) (by grind)
        have a1 := sgn_neg.2 hC
        have a2 := sgn_pos.2 hE
        have := ps_mul (a := -sgn C) (b := sgn E) (by omega) a2
        grind
      · subst hC
        have : t * E = 0 := by omega
        rcases Int.mul_eq_zero.1 this with h | h <;> omega
      · have m := ps_mul (a := s) (b := C) (by omega) (by omega)
        have hE : 0 < -E := pos_of (b := t) (by omega) (by grind)
        have a1 := sgn_pos.2 hC
        have a2 := sgn_neg.2 (show E < 0 by omega)
        have := ps_mul (a := sgn C) (b := -sgn E) a1 (by omega)
        grind
theorem par_swap (a b c d : S31) : par c d a b = - par a b c d := by unfold par; grind
/-- two segments of different directions that share a point meet -/
theorem meet_of {a b c d : S31} {X Y D : Int} (hD : 0 < D) (h : OnS a b X Y D) (h' : OnS c d X Y D) (hp : par a b c d ≠ 0) : meetB a b c d = true := by
  have s1 := sides_opp hD h h' hp
  have s2 := sides_opp hD h' h (by rw [par_swap]; omega)
  unfold meetB
  simp only [Bool.or_eq_true, Bool.and_eq_true, decide_eq_true_eq]
  rcases s1 with s1 | s1 | s1
  · exact Or.inl s1
  · exact Or.inr (Or.inl s1)
  · rcases s2 with s2 | s2 | s2
    · exact Or.inr (Or.inr (Or.inl s2))
    · exact Or.inr (Or.inr (Or.inr (Or.inl s2)))
    · exact Or.inr (Or.inr (Or.inr (Or.inr ⟨s1, s2⟩)))
theorem line_x {a b p : S31} (hp : crs a b p = 0) : ((b.f0 - a.f0) * (b.f0 - a.f0) + (b.f1 - a.f1) * (b.f1 - a.f1)) * (p.f0 - a.f0) = ((b.f0 - a.f0) * (p.f0 - a.f0) + (b.f1 - a.f1) * (p.f1 - a.f1)) * (b.f0 - a.f0) := by
  have : ((b.f0 - a.f0) * (b.f0 - a.f0) + (b.f1 - a.f1) * (b.f1 - a.f1)) * (p.f0 - a.f0) = ((b.f0 - a.f0) * (p.f0 - a.f0) + (b.f1 - a.f1) * (p.f1 - a.f1)) * (b.f0 - a.f0) - (b.f1 - a.f1) * crs a b p := by unfold crs; grind
  rw [this, hp]; omega
theorem line_y {a b p : S31} (hp : crs a b p = 0) : ((b.f0 - a.f0) * (b.f0 - a.f0) + (b.f1 - a.f1) * (b.f1 - a.f1)) * (p.f1 - a.f1) = ((b.f0 - a.f0) * (p.f0 - a.f0) + (b.f1 - a.f1) * (p.f1 - a.f1)) * (b.f1 - a.f1) := by
  have : ((b.f0 - a.f0) * (b.f0 - a.f0) + (b.f1 - a.f1) * (b.f1 - a.f1)) * (p.f1 - a.f1) = ((b.f0 - a.f0) * (p.f0 - a.f0) + (b.f1 - a.f1) * (p.f1 - a.f1)) * (b.f1 - a.f1) + (b.f0 - a.f0) * crs a b p := by unfold crs; grind
  rw [this, hp]; omega
theorem zF_of {s t X Y D ax ay bx b_y : Int} (k4 : (s + t) * X = D * (s * ax + t * bx)) (k5 : (s + t) * Y = D * (s * ay + t * b_y)) :
    (s + t) * ((bx - ax) * (X - ax * D) + (b_y - ay) * (Y - ay * D)) = D * t * ((bx - ax) * (bx - ax) + (b_y - ay) * (b_y - ay)) := by
  have e1 : (s + t) * (X - ax * D) = D * t * (bx - ax) := by grind
  have e2 : (s + t) * (Y - ay * D) = D * t * (b_y - ay) := by grind
  have : (s + t) * ((bx - ax) * (X - ax * D) + (b_y - ay) * (Y - ay * D)) = (bx - ax) * ((s + t) * (X - ax * D)) + (b_y - ay) * ((s + t) * (Y - ay * D)) := by grind
  rw [this, e1, e2]; grind
theorem zG_of {s t X Y D ax ay ex ey cx cy dx dy : Int} (k4 : (s + t) * X = D * (s * cx + t * dx)) (k5 : (s + t) * Y = D * (s * cy + t * dy)) :
    (s + t) * (ex * (X - ax * D) + ey * (Y - ay * D)) = D * (s * (ex * (cx - ax) + ey * (cy - ay)) + t * (ex * (dx - ax) + ey * (dy - ay))) := by
  have e1 : (s + t) * (X - ax * D) = D * (s * (cx - ax) + t * (dx - ax)) := by grind
  have e2 : (s + t) * (Y - ay * D) = D * (s * (cy - ay) + t * (dy - ay)) := by grind
  have : (s + t) * (ex * (X - ax * D) + ey * (Y - ay * D)) = ex * ((s + t) * (X - ax * D)) + ey * ((s + t) * (Y - ay * D)) := by grind
  rw [this, e1, e2]; grind
theorem fin_of {L Fc Fd ax cx dx e : Int} (h1 : L * (cx - ax) = Fc * e) (h2 : L * (dx - ax) = Fd * e) : L * ((Fd + -Fc) * ax) = L * (1 * (Fd * cx + -Fc * dx)) := by
  have m1 : Fd * (L * (cx - ax)) = Fd * (Fc * e) := by rw [h1]
  have m2 : Fc * (L * (dx - ax)) = Fc * (Fd * e) := by rw [h2]
  grind
theorem fin_of' {L Fc Fd ax cx dx e : Int} (h1 : L * (cx - ax) = Fc * e) (h2 : L * (dx - ax) = Fd * e) : L * ((-Fd + Fc) * ax) = L * (1 * (-Fd * cx + Fc * dx)) := by
  have m1 : Fd * (L * (cx - ax)) = Fd * (Fc * e) := by rw [h1]
  have m2 : Fc * (L * (dx - ax)) = Fc * (Fd * e) := by rw [h2]
  grind
/-- two segments of one direction that share a point: an end of one lies on the other -/
theorem along_of {a b c d : S31} {X Y D : Int} (hD : 0 < D) (h : OnS a b X Y D) (h' : OnS c d X Y D) (hp : par a b c d = 0) :
    OnS c d a.f0 a.f1 1 ∨ OnS a b c.f0 c.f1 1 ∨ OnS a b d.f0 d.f1 1 := by
  by_cases hab : a = b
  · subst hab
    left
    obtain ⟨s, t, h1, h2, h3, h4, h5⟩ := h
    refine on_one hD ?_ ?_ h'
    · have : (s + t) * X = (s + t) * (D * a.f0) := by grind
      exact Int.eq_of_mul_eq_mul_left (by omega) this
    · have : (s + t) * Y = (s + t) * (D * a.f1) := by grind
      exact Int.eq_of_mul_eq_mul_left (by omega) this
  · obtain ⟨s, t, h1, h2, h3, h4, h5⟩ := h'
    have hz := on_side hD h h4 h5
    rw [par_crs] at hp
    have hcd : crs a b d = crs a b c := by omega
    have hc : crs a b c = 0 := by
      rw [hcd] at hz
      have : (s + t) * crs a b c = 0 := by grind
      rcases Int.mul_eq_zero.1 this with h | h
      · omega
      · exact h
    have hd : crs a b d = 0 := by omega
    obtain ⟨s', t', k1, k2, k3, k4, k5⟩ := h
    -- the place along the line
    have hL : 0 < (b.f0 - a.f0) * (b.f0 - a.f0) + (b.f1 - a.f1) * (b.f1 - a.f1) := by
      have hne : b.f0 - a.f0 ≠ 0 ∨ b.f1 - a.f1 ≠ 0 := by
        by_cases h0 : a.f0 = b.f0
        · right; intro h1; exact hab (S31.ext' h0 (by omega))
        · left; omega
      have q1 : ∀ x : Int, 0 ≤ x * x := fun x => by
        rcases Int.le_total 0 x with h | h
        · exact nn_mul h h
        · have := nn_mul (a := -x) (b := -x) (by omega) (by omega); grind
      have q2 : ∀ x : Int, x ≠ 0 → 0 < x * x := fun x hx => by
        rcases Int.lt_or_gt_of_ne hx with h | h
        · have := ps_mul (a := -x) (b := -x) (by omega) (by omega); grind
        · exact ps_mul h h
      rcases hne with h | h
      · have := q2 _ h; have := q1 (b.f1 - a.f1); omega
      · have := q2 _ h; have := q1 (b.f0 - a.f0); omega
    have lx := fun p (hp : crs a b p = 0) => line_x hp
    have ly := fun p (hp : crs a b p = 0) => line_y hp
    have cx := lx c hc; have cy := ly c hc; have dx := lx d hd; have dy := ly d hd
    have zF := zF_of k4 k5
    have zG := zG_of (ax := a.f0) (ay := a.f1) (ex := b.f0 - a.f0) (ey := b.f1 - a.f1) h4 h5
    clear hz hp hcd hc hd lx ly k4 k5 h4 h5
    generalize (b.f0 - a.f0) * (b.f0 - a.f0) + (b.f1 - a.f1) * (b.f1 - a.f1) = L at *
    generalize (b.f0 - a.f0) * (c.f0 - a.f0) + (b.f1 - a.f1) * (c.f1 - a.f1) = Fc at *
    generalize (b.f0 - a.f0) * (d.f0 - a.f0) + (b.f1 - a.f1) * (d.f1 - a.f1) = Fd at *
    generalize (b.f0 - a.f0) * (X - a.f0 * D) + (b.f1 - a.f1) * (Y - a.f1 * D) = F at *
    have F0 : 0 ≤ F := by
      refine nn_of k3 ?_
      rw [zF]; exact nn_mul (nn_mul (Int.le_of_lt hD) k2) (Int.le_of_lt hL)
    have F1 : F ≤ L * D := by
      have : 0 ≤ L * D - F := by
        refine nn_of k3 ?_
        have := nn_mul (nn_mul (Int.le_of_lt hD) k1) (Int.le_of_lt hL)
        grind
      omega
    by_cases c1 : 0 ≤ Fc ∧ Fc ≤ L
    · right; left
      exact ⟨L - Fc, Fc, by omega, by omega, by omega, by grind, by grind⟩
    · by_cases d1 : 0 ≤ Fd ∧ Fd ≤ L
      · right; right
        exact ⟨L - Fd, Fd, by omega, by omega, by omega, by grind, by grind⟩
      · left
        have hsum : 0 ≤ s * Fc + t * Fd := by
          refine nn_of hD ?_
          rw [← zG]; exact nn_mul (Int.le_of_lt h3) F0
        have hsum2 : s * Fc + t * Fd ≤ (s + t) * L := by
          have : 0 ≤ (s + t) * L - (s * Fc + t * Fd) := by
            refine nn_of hD ?_
            have := nn_mul (Int.le_of_lt h3) (show 0 ≤ L * D - F by omega)
            grind
          omega
        have hcase : (Fc < 0 ∧ L < Fd) ∨ (L < Fc ∧ Fd < 0) := by
          by_cases u : Fc < 0
          · by_cases v : Fd < 0
            · exfalso
              have m1 := nn_mul (a := s) (b := -Fc - 1) h1 (by omega)
              have m2 := nn_mul (a := t) (b := -Fd - 1) h2 (by omega)
              grind
            · left; omega
          · by_cases v : Fd < 0
            · right; omega
            · exfalso
              have m1 := nn_mul (a := s) (b := Fc - L - 1) h1 (by omega)
              have m2 := nn_mul (a := t) (b := Fd - L - 1) h2 (by omega)
              grind
        rcases hcase with ⟨u, v⟩ | ⟨u, v⟩
        · refine ⟨Fd, -Fc, by omega, by omega, by omega, ?_, ?_⟩
          · exact Int.eq_of_mul_eq_mul_left (show L ≠ 0 by omega) (fin_of cx dx)
          · exact Int.eq_of_mul_eq_mul_left (show L ≠ 0 by omega) (fin_of cy dy)
        · refine ⟨-Fd, Fc, by omega, by omega, by omega, ?_, ?_⟩
          · exact Int.eq_of_mul_eq_mul_left (show L ≠ 0 by omega) (fin_of' cx dx)
          · exact Int.eq_of_mul_eq_mul_left (show L ≠ 0 by omega) (fin_of' cy dy)
/-- what the look for a common point finds -/
def Found (P Q : List S31) : Prop :=
  (∃ i, i < P.length ∧ InH Q (pt P i).f0 (pt P i).f1 1) ∨ (∃ k, k < Q.length ∧ InH P (pt Q k).f0 (pt Q k).f1 1) ∨
  ∃ i k, i < P.length ∧ k < Q.length ∧ par (pt P i) (pt P (nxt i P.length)) (pt Q k) (pt Q (nxt k Q.length)) ≠ 0 ∧ meetB (pt P i) (pt P (nxt i P.length)) (pt Q k) (pt Q (nxt k Q.length)) = true
theorem found_of {P Q : List S31} (hP : IsHull P P) (hQ : IsHull Q Q) {X Y D : Int} (h1 : InH P X Y D) (h2 : InH Q X Y D) : Found P Q := by
  by_cases hp0 : InH Q (pt P 0).f0 (pt P 0).f1 1
  · exact Or.inl ⟨0, hP.pos, hp0⟩
  · obtain ⟨l, m, _, _, i1, i2, g, hg, g0⟩ := clip h1 h2 (hull_in hP (pt_mem P 0 hP.pos)) hp0
    obtain ⟨k, hk, ho⟩ := on_edge hQ i2 hg g0
    generalize l * X + m * (pt P 0).f0 = X1 at *
    generalize l * Y + m * (pt P 0).f1 = Y1 at *
    generalize l * D + m * 1 = D1 at *
    by_cases hq : InH P (pt Q k).f0 (pt Q k).f1 1
    · exact Or.inr (Or.inl ⟨k, hk, hq⟩)
    · obtain ⟨l, m, hl, hm, j1, j2, g, hg, g0⟩ := clip i2 i1 (hull_in hQ (pt_mem Q k hk)) hq
      obtain ⟨i, hi, ho'⟩ := on_edge hP j2 hg g0
      have ho2 := ho.comb hl hm i1.1
      have hD2 := j1.1
      generalize l * X1 + m * (pt Q k).f0 = X2 at *
      generalize l * Y1 + m * (pt Q k).f1 = Y2 at *
      generalize l * D1 + m * 1 = D2 at *
      have hni := nxt_lt (i := i) hP.pos
      have hnk := nxt_lt (i := k) hQ.pos
      by_cases hpar : par (pt P i) (pt P (nxt i P.length)) (pt Q k) (pt Q (nxt k Q.length)) = 0
      · rcases along_of hD2 ho' ho2 hpar with h | h | h
        · exact Or.inl ⟨i, hi, OnS.inH hQ (pt_mem _ _ hk) (pt_mem _ _ hnk) (by omega) h⟩
        · exact Or.inr (Or.inl ⟨k, hk, OnS.inH hP (pt_mem _ _ hi) (pt_mem _ _ hni) (by omega) h⟩)
        · exact Or.inr (Or.inl ⟨_, hnk, OnS.inH hP (pt_mem _ _ hi) (pt_mem _ _ hni) (by omega) h⟩)
      · exact Or.inr (Or.inr ⟨i, k, hi, hk, hpar, meet_of hD2 ho' ho2 hpar⟩)
/-- the difference of two points -/
def sub (p q : S31) : S31 := ⟨p.f0 - q.f0, p.f1 - q.f1⟩
theorem lin_sub (u v : Int) (p q : S31) : lin u v (sub p q) = lin u v p - lin u v q := by unfold lin sub; grind
/-- the line of a direction separates two sets -/
def Apt (u v : Int) (P Q : List S31) : Prop := ∀ p ∈ P, ∀ q ∈ Q, lin u v p < lin u v q
theorem sq_pos {x y : Int} (h : x ≠ 0 ∨ y ≠ 0) : 0 < x * x + y * y := by
  have q1 : ∀ x : Int, 0 ≤ x * x := fun x => by
    rcases Int.le_total 0 x with h | h
    · exact nn_mul h h
    · have := nn_mul (a := -x) (b := -x) (by omega) (by omega); grind
  have q2 : ∀ x : Int, x ≠ 0 → 0 < x * x := fun x hx => by
    rcases Int.lt_or_gt_of_ne hx with h | h
    · have := ps_mul (a := -x) (b := -x) (by omega) (by omega); grind
    · exact ps_mul h h
  rcases h with h | h
  · have := q2 _ h; have := q1 y; omega
  · have := q2 _ h; have := q1 x; omega
theorem ne_coord {a b : S31} (h : a ≠ b) : b.f0 - a.f0 ≠ 0 ∨ b.f1 - a.f1 ≠ 0 := by
  by_cases h0 : a.f0 = b.f0
  · right; intro h1; exact h (S31.ext' h0 (by omega))
  · left; omega
theorem lin_diff (u v : Int) (p q : S31) : lin u v q - lin u v p = u * (q.f0 - p.f0) + v * (q.f1 - p.f1) := by unfold lin; grind
/-- a direction at right angles to an edge -/
theorem dir_normal {u v : Int} {E : S31} (hE : E.f0 ≠ 0 ∨ E.f1 ≠ 0) (huv : u ≠ 0 ∨ v ≠ 0) (h : u * E.f0 + v * E.f1 = 0) {P Q : List S31} (ha : Apt u v P Q) : ∃ w ∈ four E, Apt w.f0 w.f1 P Q := by
  have hL := sq_pos hE
  have e1 : (E.f0 * E.f0 + E.f1 * E.f1) * u = (u * E.f1 - v * E.f0) * E.f1 := by
    have : (E.f0 * E.f0 + E.f1 * E.f1) * u = (u * E.f1 - v * E.f0) * E.f1 + E.f0 * (u * E.f0 + v * E.f1) := by grind
    rw [this, h]; grind
  have e2 : (E.f0 * E.f0 + E.f1 * E.f1) * v = -((u * E.f1 - v * E.f0) * E.f0) := by
    have : (E.f0 * E.f0 + E.f1 * E.f1) * v = -((u * E.f1 - v * E.f0) * E.f0) + E.f1 * (u * E.f0 + v * E.f1) := by grind
    rw [this, h]; grind
  generalize E.f0 * E.f0 + E.f1 * E.f1 = L at *
  generalize hc : u * E.f1 - v * E.f0 = c at *
  have key : ∀ p q : S31, L * (lin u v q - lin u v p) = c * (E.f1 * (q.f0 - p.f0) + -E.f0 * (q.f1 - p.f1)) := by
    intro p q
    rw [lin_diff]
    have : L * (u * (q.f0 - p.f0) + v * (q.f1 - p.f1)) = (L * u) * (q.f0 - p.f0) + (L * v) * (q.f1 - p.f1) := by grind
    rw [this, e1, e2]; grind
  rcases Int.lt_trichotomy c 0 with h1 | h1 | h1
  · refine ⟨⟨-E.f1, E.f0⟩, by simp [four], fun p hp q hq => ?_⟩
    have k1 := key p q
    have k2 := ps_mul hL (show 0 < lin u v q - lin u v p by have := ha p hp q hq; omega)
    have k3 : 0 < -c * (-(E.f1 * (q.f0 - p.f0) + -E.f0 * (q.f1 - p.f1))) := by grind
    have k4 := pos_of (by omega) k3
    have k5 := lin_diff (-E.f1) E.f0 p q
    show lin (-E.f1) E.f0 p < lin (-E.f1) E.f0 q
    grind
  · rw [h1] at e1 e2
    rcases huv with h2 | h2
    · have : L * u = 0 := by rw [e1]; grind
      rcases Int.mul_eq_zero.1 this with h3 | h3 <;> omega
    · have : L * v = 0 := by rw [e2]; grind
      rcases Int.mul_eq_zero.1 this with h3 | h3 <;> omega
  · refine ⟨⟨E.f1, -E.f0⟩, by simp [four], fun p hp q hq => ?_⟩
    have k1 := key p q
    have k2 := ps_mul hL (show 0 < lin u v q - lin u v p by have := ha p hp q hq; omega)
    have k4 := pos_of h1 (by rw [k1] at k2; exact k2)
    have k5 := lin_diff E.f1 (-E.f0) p q
    show lin E.f1 (-E.f0) p < lin E.f1 (-E.f0) q
    omega
/-- a direction along an edge -/
theorem dir_along {u v : Int} {E : S31} (hE : E.f0 ≠ 0 ∨ E.f1 ≠ 0) (huv : u ≠ 0 ∨ v ≠ 0) (h : u * E.f1 - v * E.f0 = 0) {P Q : List S31} (ha : Apt u v P Q) : ∃ w ∈ four E, Apt w.f0 w.f1 P Q := by
  obtain ⟨w, hw, hA⟩ := dir_normal (E := ⟨E.f1, -E.f0⟩) (u := u) (v := v) (by simp only; omega) huv (by simp only; grind) ha
  refine ⟨w, ?_, hA⟩
  simp only [four, List.mem_cons, List.not_mem_nil, or_false, Int.neg_neg] at hw ⊢
  rcases hw with h | h | h | h
  · exact Or.inr (Or.inr (Or.inl h))
  · exact Or.inr (Or.inr (Or.inr h))
  · exact Or.inr (Or.inl h)
  · exact Or.inl h
/-- two points where a linear function is least: so is it along an edge -/
theorem min_edge {P : List S31} (h : IsHull P P) (u v : Int) {m m' : S31} (hm : m ∈ P) (hm' : m' ∈ P) (hne : m ≠ m') (hmin : ∀ r ∈ P, lin u v m ≤ lin u v r) (he : lin u v m' = lin u v m) :
    ∃ i, i < P.length ∧ pt P i ≠ pt P (nxt i P.length) ∧ lin u v (pt P i) = lin u v (pt P (nxt i P.length)) := by
  obtain ⟨j, hj, rfl⟩ := mem_pt hm
  obtain ⟨j', hj', rfl⟩ := mem_pt hm'
  by_cases h1 : P.length = 1
  · exfalso
    obtain rfl : j = j' := by omega
    exact hne rfl
  · by_cases h2 : P.length = 2
    · refine ⟨j, hj, ?_⟩
      have : nxt j P.length = j' := by
        have : j ≠ j' := fun e => hne (by rw [e])
        unfold nxt; split <;> omega
      rw [this]; exact ⟨hne, he.symm⟩
    · obtain ⟨k, hk, hki⟩ := nxt_prev h.pos hj
      have hn := nxt_lt (i := j) h.pos
      by_cases ha : lin u v (pt P k) = lin u v (pt P j)
      · exact ⟨k, hk, by rw [hki]; exact hull_ne h hk hj (by intro e; subst e; unfold nxt at hki; split at hki <;> omega), by rw [hki]; exact ha⟩
      · by_cases hc : lin u v (pt P (nxt j P.length)) = lin u v (pt P j)
        · exact ⟨j, hj, hull_ne h hj hn (by unfold nxt; split <;> omega), hc.symm⟩
        · exfalso
          have t := hull_left h (by omega) k hk
          rw [hki] at t
          have e1 := (h.ed k hk _ hm').nn
          have e2 := (h.ed j hj _ hm').nn
          rw [hki] at e1
          have a1 := hmin _ (pt_mem P k hk)
          have c1 := hmin _ (pt_mem P _ hn)
          have key := lin_key u v (pt P k) (pt P j) (pt P (nxt j P.length)) (pt P j')
          have kx := lin_key 1 0 (pt P k) (pt P j) (pt P (nxt j P.length)) (pt P j')
          have ky := lin_key 0 1 (pt P k) (pt P j) (pt P (nxt j P.length)) (pt P j')
          generalize pt P (nxt j P.length) = c at *
          generalize pt P k = a at *
          generalize pt P j = b at *
          generalize pt P j' = m at *
          rw [he, Int.sub_self, Int.mul_zero] at key
          have m1 := nn_mul e1 (show 0 ≤ lin u v c - lin u v b by omega)
          have m2 := nn_mul e2 (show 0 ≤ lin u v a - lin u v b by omega)
          have z1 : crs a b m = 0 := by
            have : crs a b m * (lin u v c - lin u v b) = 0 := by omega
            rcases Int.mul_eq_zero.1 this with h | h <;> omega
          have z2 : crs b c m = 0 := by
            have : crs b c m * (lin u v a - lin u v b) = 0 := by omega
            rcases Int.mul_eq_zero.1 this with h | h <;> omega
          rw [z1, z2, Int.zero_mul, Int.zero_mul] at kx ky
          have x1 : lin 1 0 m - lin 1 0 b = 0 := by
            rcases Int.mul_eq_zero.1 (show crs a b c * (lin 1 0 m - lin 1 0 b) = 0 by omega) with h | h <;> omega
          have y1 : lin 0 1 m - lin 0 1 b = 0 := by
            rcases Int.mul_eq_zero.1 (show crs a b c * (lin 0 1 m - lin 0 1 b) = 0 by omega) with h | h <;> omega
          unfold lin at x1 y1
          exact hne (S31.ext' (by omega) (by omega))
/-- all differences of two sets -/
def diffs (P Q : List S31) : List S31 := P.flatMap fun p => Q.map fun q => sub p q
theorem mem_diffs {P Q : List S31} {d : S31} : d ∈ diffs P Q ↔ ∃ p ∈ P, ∃ q ∈ Q, d = sub p q := by
  unfold diffs
  rw [List.mem_flatMap]
  constructor
  · rintro ⟨p, hp, h⟩
    obtain ⟨q, hq, e⟩ := List.mem_map.1 h
    exact ⟨p, hp, q, hq, e.symm⟩
  · rintro ⟨p, hp, q, hq, rfl⟩
    exact ⟨p, hp, List.mem_map.2 ⟨q, hq, rfl⟩⟩
theorem dir_in {P Q : List S31} {i : Nat} {w : S31} (h : (i < P.length ∧ w ∈ four (edgeD P i)) ∨ (i < Q.length ∧ w ∈ four (edgeD Q i))) : w ∈ dirM P Q 2 := by
  unfold dirM dirE
  rw [if_pos (by omega), if_pos (by omega)]
  rcases h with ⟨h1, h2⟩ | ⟨h1, h2⟩
  · exact List.mem_append_left _ (List.mem_append_right _ (List.mem_flatMap.2 ⟨i, List.mem_range.2 h1, h2⟩))
  · exact List.mem_append_right _ (List.mem_flatMap.2 ⟨i, List.mem_range.2 h1, h2⟩)
theorem edgeD_is {P : List S31} {i : Nat} (hi : i < P.length) : edgeD P i = ⟨(pt P (nxt i P.length)).f0 - (pt P i).f0, (pt P (nxt i P.length)).f1 - (pt P i).f1⟩ := by unfold edgeD; rw [nxt_mod hi]
/-- the line is one of those that are tried -/
def SepDir (P Q : List S31) : Prop := ∃ w ∈ dirM P Q 2, Apt w.f0 w.f1 P Q
theorem sep_normal {P Q : List S31} (hP : IsHull P P) (hQ : IsHull Q Q) {d d' : S31} (hd : d ∈ diffs P Q) (hd' : d' ∈ diffs P Q) (hne : d ≠ d') (hall : ∀ x ∈ diffs P Q, 0 ≤ crs d d' x) (ho : crs d d' z31 < 0) : SepDir P Q := by
  have hz : crs d d' z31 = lin (d'.f1 - d.f1) (-(d'.f0 - d.f0)) d := by unfold crs lin z31; simp only; grind
  have hx : ∀ x, crs d d' x = lin (d'.f1 - d.f1) (-(d'.f0 - d.f0)) d - lin (d'.f1 - d.f1) (-(d'.f0 - d.f0)) x := by intro x; unfold crs lin; grind
  have hdd : lin (d'.f1 - d.f1) (-(d'.f0 - d.f0)) d' = lin (d'.f1 - d.f1) (-(d'.f0 - d.f0)) d := by unfold lin; grind
  have hne' := ne_coord hne
  have huv : d'.f1 - d.f1 ≠ 0 ∨ -(d'.f0 - d.f0) ≠ 0 := by omega
  generalize d'.f1 - d.f1 = u at *
  generalize -(d'.f0 - d.f0) = v at *
  rw [hz] at ho
  have hmax : ∀ x ∈ diffs P Q, lin u v x ≤ lin u v d := by intro x hx'; have := hall x hx'; rw [hx] at this; omega
  have hA : Apt u v P Q := by
    intro p hp q hq
    have := hmax _ (mem_diffs.2 ⟨p, hp, q, hq, rfl⟩)
    rw [lin_sub] at this; omega
  obtain ⟨p, hp, q, hq, rfl⟩ := mem_diffs.1 hd
  obtain ⟨p', hp', q', hq', rfl⟩ := mem_diffs.1 hd'
  rw [lin_sub, lin_sub] at hdd
  have hpm : ∀ r ∈ P, lin u v r ≤ lin u v p := by
    intro r hr
    have := hmax _ (mem_diffs.2 ⟨r, hr, q, hq, rfl⟩)
    rw [lin_sub, lin_sub] at this; omega
  have hqm : ∀ r ∈ Q, lin u v q ≤ lin u v r := by
    intro r hr
    have := hmax _ (mem_diffs.2 ⟨p, hp, r, hr, rfl⟩)
    rw [lin_sub, lin_sub] at this; omega
  have h1 := hpm p' hp'
  have h2 := hqm q' hq'
  have hneg : ∀ r, lin (-u) (-v) r = - lin u v r := by intro r; unfold lin; grind
  by_cases hpp : p = p'
  · have hqq : q ≠ q' := by
      intro e; subst e; subst hpp; exact hne rfl
    obtain ⟨i, hi, hni, he⟩ := min_edge hQ u v hq hq' hqq hqm (by omega)
    obtain ⟨w, hw, hwA⟩ := dir_normal (E := edgeD Q i) (by rw [edgeD_is hi]; exact ne_coord hni) huv (by rw [edgeD_is hi]; have := lin_diff u v (pt Q i) (pt Q (nxt i Q.length)); simp only; omega) hA
    exact ⟨w, dir_in (i := i) (Or.inr ⟨hi, hw⟩), hwA⟩
  · obtain ⟨i, hi, hni, he⟩ := min_edge hP (-u) (-v) hp hp' hpp (fun r hr => by rw [hneg, hneg]; have := hpm r hr; omega) (by rw [hneg, hneg]; omega)
    rw [hneg, hneg] at he
    obtain ⟨w, hw, hwA⟩ := dir_normal (E := edgeD P i) (by rw [edgeD_is hi]; exact ne_coord hni) huv (by rw [edgeD_is hi]; have := lin_diff u v (pt P i) (pt P (nxt i P.length)); simp only; omega) hA
    exact ⟨w, dir_in (i := i) (Or.inl ⟨hi, hw⟩), hwA⟩
/-- a point of the two hulls -/
def Common (P Q : List S31) : Prop := ∃ X Y D, InH P X Y D ∧ InH Q X Y D
theorem in3 {P : List S31} (h : IsHull P P) {a b c : S31} (ha : a ∈ P) (hb : b ∈ P) (hc : c ∈ P) {s t r : Int} (hs : 0 ≤ s) (ht : 0 ≤ t) (hr : 0 ≤ r) (hsum : 0 < s + t + r) :
    InH P (s * a.f0 + t * b.f0 + r * c.f0) (s * a.f1 + t * b.f1 + r * c.f1) (s + t + r) := by
  refine ⟨hsum, fun g hg => ?_⟩
  have e : g.v (s * a.f0 + t * b.f0 + r * c.f0) (s * a.f1 + t * b.f1 + r * c.f1) (s + t + r) = s * g.v a.f0 a.f1 1 + t * g.v b.f0 b.f1 1 + r * g.v c.f0 c.f1 1 := by unfold Fm.v; grind
  rw [e]
  have := nn_mul hs ((hull_in h ha).2 g hg)
  have := nn_mul ht ((hull_in h hb).2 g hg)
  have := nn_mul hr ((hull_in h hc).2 g hg)
  omega
theorem common3 {P Q : List S31} (hP : IsHull P P) (hQ : IsHull Q Q) {a b c : S31} (ha : a ∈ diffs P Q) (hb : b ∈ diffs P Q) (hc : c ∈ diffs P Q) {s t r : Int} (hs : 0 ≤ s) (ht : 0 ≤ t) (hr : 0 ≤ r) (hsum : 0 < s + t + r)
    (hx : s * a.f0 + t * b.f0 + r * c.f0 = 0) (hy : s * a.f1 + t * b.f1 + r * c.f1 = 0) : Common P Q := by
  obtain ⟨p1, hp1, q1, hq1, rfl⟩ := mem_diffs.1 ha
  obtain ⟨p2, hp2, q2, hq2, rfl⟩ := mem_diffs.1 hb
  obtain ⟨p3, hp3, q3, hq3, rfl⟩ := mem_diffs.1 hc
  unfold sub at hx hy
  simp only at hx hy
  refine ⟨_, _, _, in3 hP hp1 hp2 hp3 hs ht hr hsum, ?_⟩
  have h2 := in3 hQ hq1 hq2 hq3 hs ht hr hsum
  have ex : s * p1.f0 + t * p2.f0 + r * p3.f0 = s * q1.f0 + t * q2.f0 + r * q3.f0 := by grind
  have ey : s * p1.f1 + t * p2.f1 + r * p3.f1 = s * q1.f1 + t * q2.f1 + r * q3.f1 := by grind
  rw [ex, ey]; exact h2
theorem on_of_onB {a b p : S31} (h : onB a b p = true) : OnS a b p.f0 p.f1 1 := by
  obtain ⟨h1, h2, h3⟩ := (onB_iff a b p).1 h
  exact on_box (by omega) (by rw [sd_crs]; exact h1) (by simp only [Int.mul_one]; exact h2) (by simp only [Int.mul_one]; exact h3)
/-- a sign turns somewhere -/
theorem turns_at (f : Nat → Int) : ∀ n, 0 ≤ f 0 → f n ≤ 0 → 0 < n → ∃ i, i < n ∧ 0 ≤ f i ∧ f (i + 1) ≤ 0
  | 0, _, _, h => by omega
  | 1, h0, h1, _ => ⟨0, by omega, h0, h1⟩
  | n + 2, h0, h1, _ => by
    rcases Int.le_total (f (n + 1)) 0 with h | h
    · obtain ⟨i, hi, h2, h3⟩ := turns_at f (n + 1) h0 h (by omega)
      exact ⟨i, by omega, h2, h3⟩
    · exact ⟨n + 1, by omega, h, h1⟩
theorem bary (a b c : S31) : crs b c z31 + crs c a z31 + crs a b z31 = crs a b c ∧ crs b c z31 * a.f0 + crs c a z31 * b.f0 + crs a b z31 * c.f0 = 0 ∧ crs b c z31 * a.f1 + crs c a z31 * b.f1 + crs a b z31 * c.f1 = 0 := by
  unfold crs z31; simp only
  exact ⟨by grind, by grind, by grind⟩
/-- two hulls: one of the lines that are tried separates them, or they have a point in common -/
theorem sep_or {P Q : List S31} (hP : IsHull P P) (hQ : IsHull Q Q) : SepDir P Q ∨ Common P Q := by
  have hD0 : 0 < (diffs P Q).length := List.length_pos_of_mem (mem_diffs.2 ⟨_, pt_mem P 0 hP.pos, _, pt_mem Q 0 hQ.pos, rfl⟩)
  have hD := corners_hull (diffs P Q) hD0
  generalize cornersS (diffs P Q) = H at *
  have hm := hD.mem
  by_cases h1 : H.length = 1
  · have hall := hD.one h1
    have hP0 := mem_diffs.2 ⟨_, pt_mem P 0 hP.pos, _, pt_mem Q 0 hQ.pos, rfl⟩
    have e0 := hall _ hP0
    by_cases ho : sub (pt P 0) (pt Q 0) = z31
    · right
      refine common3 hP hQ hP0 hP0 hP0 (s := 1) (t := 0) (r := 0) (by omega) (by omega) (by omega) (by omega) ?_ ?_
      · rw [ho]; rfl
      · rw [ho]; rfl
    · left
      refine ⟨⟨(pt Q 0).f0 - (pt P 0).f0, (pt Q 0).f1 - (pt P 0).f1⟩, by unfold dirM; simp, fun p hp q hq => ?_⟩
      have e1 := hall _ (mem_diffs.2 ⟨p, hp, q, hq, rfl⟩)
      rw [← e0] at e1
      have x1 : p.f0 - q.f0 = (pt P 0).f0 - (pt Q 0).f0 := congrArg S31.f0 e1
      have y1 : p.f1 - q.f1 = (pt P 0).f1 - (pt Q 0).f1 := congrArg S31.f1 e1
      have hn : (pt Q 0).f0 - (pt P 0).f0 ≠ 0 ∨ (pt Q 0).f1 - (pt P 0).f1 ≠ 0 := by
        refine ne_coord (fun e => ho ?_)
        rw [e]; unfold sub z31; simp
      have hs := sq_pos hn
      have := lin_diff ((pt Q 0).f0 - (pt P 0).f0) ((pt Q 0).f1 - (pt P 0).f1) p q
      rw [show q.f0 - p.f0 = (pt Q 0).f0 - (pt P 0).f0 by omega, show q.f1 - p.f1 = (pt Q 0).f1 - (pt P 0).f1 by omega] at this
      show lin ((pt Q 0).f0 - (pt P 0).f0) ((pt Q 0).f1 - (pt P 0).f1) p < lin ((pt Q 0).f0 - (pt P 0).f0) ((pt Q 0).f1 - (pt P 0).f1) q
      omega
  · by_cases hneg : ∃ i, i < H.length ∧ crs (pt H i) (pt H (nxt i H.length)) z31 < 0
    · obtain ⟨i, hi, hni⟩ := hneg
      left
      exact sep_normal hP hQ (hm i hi) (hm _ (nxt_lt hD.pos)) (hull_ne hD hi (nxt_lt hD.pos) (by unfold nxt; split <;> omega)) (fun x hx => (hD.ed i hi x hx).nn) hni
    · have hnn : ∀ i, i < H.length → 0 ≤ crs (pt H i) (pt H (nxt i H.length)) z31 := by
        intro i hi
        rcases Int.lt_or_le (crs (pt H i) (pt H (nxt i H.length)) z31) 0 with h | h
        · exact absurd ⟨i, hi, h⟩ hneg
        · exact h
      by_cases h2 : H.length = 2
      · have n0 := hnn 0 (by omega)
        have n1 := hnn 1 (by omega)
        rw [show nxt 0 H.length = 1 by unfold nxt; rw [if_pos (by omega)]] at n0
        rw [show nxt 1 H.length = 0 by unfold nxt; rw [if_neg (by omega)]] at n1
        have hsw : crs (pt H 1) (pt H 0) z31 = - crs (pt H 0) (pt H 1) z31 := by unfold crs; grind
        have hc0 : crs (pt H 0) (pt H 1) z31 = 0 := by omega
        have hon : ∀ x ∈ diffs P Q, onB (pt H 0) (pt H 1) x = true := by
          intro x hx
          have := hull_two hD (by omega) hx
          rwa [h2] at this
        have hm0 := hm 0 (by omega)
        have hm1 := hm 1 (by omega)
        have hne := hD.ner 0 (by omega)
        rw [Nat.zero_add] at hne
        generalize pt H 0 = d0 at *
        generalize pt H 1 = d1 at *
        by_cases hz : onB d0 d1 z31 = true
        · right
          obtain ⟨s, t, k1, k2, k3, k4, k5⟩ := on_of_onB hz
          refine common3 hP hQ hm0 hm1 hm1 (s := s) (t := t) (r := 0) k1 k2 (by omega) (by omega) ?_ ?_
          · have : (s + t) * z31.f0 = 0 := by unfold z31; simp
            grind
          · have : (s + t) * z31.f1 = 0 := by unfold z31; simp
            grind
        · left
          have hE := ne_coord hne
          have hL := sq_pos hE
          have lx := line_x hc0
          have ly := line_y hc0
          have hz0 : z31.f0 = 0 := rfl
          have hz1 : z31.f1 = 0 := rfl
          rw [hz0, hz1] at lx ly
          -- the two ends lie on one side of the origin
          have key : 0 < lin (d1.f0 - d0.f0) (d1.f1 - d0.f1) d0 ∨ lin (d1.f0 - d0.f0) (d1.f1 - d0.f1) d1 < 0 := by
            rcases Int.lt_or_le 0 (lin (d1.f0 - d0.f0) (d1.f1 - d0.f1) d0) with h | h
            · exact Or.inl h
            · rcases Int.lt_or_le (lin (d1.f0 - d0.f0) (d1.f1 - d0.f1) d1) 0 with h' | h'
              · exact Or.inr h'
              · exfalso
                refine hz (on_onB ⟨lin (d1.f0 - d0.f0) (d1.f1 - d0.f1) d1, -lin (d1.f0 - d0.f0) (d1.f1 - d0.f1) d0, h', by omega, ?_, ?_, ?_⟩)
                · have := lin_diff (d1.f0 - d0.f0) (d1.f1 - d0.f1) d0 d1; omega
                · rw [hz0, Int.mul_zero, Int.one_mul]
                  refine Int.eq_of_mul_eq_mul_left (show ((d1.f0 - d0.f0) * (d1.f0 - d0.f0) + (d1.f1 - d0.f1) * (d1.f1 - d0.f1)) ≠ 0 by omega) ?_
                  unfold lin; grind
                · rw [hz1, Int.mul_zero, Int.one_mul]
                  refine Int.eq_of_mul_eq_mul_left (show ((d1.f0 - d0.f0) * (d1.f0 - d0.f0) + (d1.f1 - d0.f1) * (d1.f1 - d0.f1)) ≠ 0 by omega) ?_
                  unfold lin; grind
          have hcx : ∀ x ∈ diffs P Q, crs d0 d1 x = 0 := fun x hx => ((onB_iff _ _ _).1 (hon x hx)).1
          have hgap := lin_diff (d1.f0 - d0.f0) (d1.f1 - d0.f1) d0 d1
          -- an edge of that direction
          have hedge : (∃ i, i < P.length ∧ (edgeD P i).f0 * (d1.f1 - d0.f1) - (edgeD P i).f1 * (d1.f0 - d0.f0) = 0 ∧ ((edgeD P i).f0 ≠ 0 ∨ (edgeD P i).f1 ≠ 0)) ∨ (∃ i, i < Q.length ∧ (edgeD Q i).f0 * (d1.f1 - d0.f1) - (edgeD Q i).f1 * (d1.f0 - d0.f0) = 0 ∧ ((edgeD Q i).f0 ≠ 0 ∨ (edgeD Q i).f1 ≠ 0)) := by
            by_cases hp1 : 1 < P.length
            · left
              refine ⟨0, by omega, ?_, ?_⟩
              · rw [edgeD_is (by omega), show nxt 0 P.length = 1 by unfold nxt; rw [if_pos (by omega)]]
                have c0 := hcx _ (mem_diffs.2 ⟨_, pt_mem P 0 hP.pos, _, pt_mem Q 0 hQ.pos, rfl⟩)
                have c1 := hcx _ (mem_diffs.2 ⟨_, pt_mem P 1 (by omega), _, pt_mem Q 0 hQ.pos, rfl⟩)
                unfold crs sub at c0 c1
                simp only at c0 c1 ⊢
                grind
              · rw [edgeD_is (by omega), show nxt 0 P.length = 1 by unfold nxt; rw [if_pos (by omega)]]
                exact ne_coord (hP.ner 0 (by omega))
            · by_cases hq1 : 1 < Q.length
              · right
                refine ⟨0, by omega, ?_, ?_⟩
                · rw [edgeD_is (by omega), show nxt 0 Q.length = 1 by unfold nxt; rw [if_pos (by omega)]]
                  have c0 := hcx _ (mem_diffs.2 ⟨_, pt_mem P 0 hP.pos, _, pt_mem Q 0 hQ.pos, rfl⟩)
                  have c1 := hcx _ (mem_diffs.2 ⟨_, pt_mem P 0 hP.pos, _, pt_mem Q 1 (by omega), rfl⟩)
                  unfold crs sub at c0 c1
                  simp only at c0 c1 ⊢
                  grind
                · rw [edgeD_is (by omega), show nxt 0 Q.length = 1 by unfold nxt; rw [if_pos (by omega)]]
                  exact ne_coord (hQ.ner 0 (by omega))
              · exfalso
                obtain ⟨p, hp, q, hq, rfl⟩ := mem_diffs.1 hm0
                obtain ⟨p', hp', q', hq', rfl⟩ := mem_diffs.1 hm1
                obtain ⟨a, ha, rfl⟩ := mem_pt hp
                obtain ⟨b, hb, rfl⟩ := mem_pt hp'
                obtain ⟨c, hc, rfl⟩ := mem_pt hq
                obtain ⟨d, hd, rfl⟩ := mem_pt hq'
                obtain rfl : a = b := by omega
                obtain rfl : c = d := by omega
                exact hne rfl
          have hApt : Apt (d1.f0 - d0.f0) (d1.f1 - d0.f1) P Q ∨ Apt (-(d1.f0 - d0.f0)) (-(d1.f1 - d0.f1)) P Q := by
            rcases key with h | h
            · right
              intro p hp q hq
              have hx := hon _ (mem_diffs.2 ⟨p, hp, q, hq, rfl⟩)
              have h3 := lin_on (-(d1.f0 - d0.f0)) (-(d1.f1 - d0.f1)) hx
              have hneg : ∀ r, lin (-(d1.f0 - d0.f0)) (-(d1.f1 - d0.f1)) r = - lin (d1.f0 - d0.f0) (d1.f1 - d0.f1) r := by intro r; unfold lin; grind
              have hs := lin_sub (-(d1.f0 - d0.f0)) (-(d1.f1 - d0.f1)) p q
              rw [hneg d0, hneg d1] at h3
              omega
            · left
              intro p hp q hq
              have hx := hon _ (mem_diffs.2 ⟨p, hp, q, hq, rfl⟩)
              have h3 := lin_on (d1.f0 - d0.f0) (d1.f1 - d0.f1) hx
              have hs := lin_sub (d1.f0 - d0.f0) (d1.f1 - d0.f1) p q
              omega
          rcases hedge with ⟨i, hi, hp, hn⟩ | ⟨i, hi, hp, hn⟩
          · rcases hApt with hA | hA
            · obtain ⟨w, hw, hwA⟩ := dir_along hn hE (by grind) hA
              exact ⟨w, dir_in (i := i) (Or.inl ⟨hi, hw⟩), hwA⟩
            · obtain ⟨w, hw, hwA⟩ := dir_along hn (by omega) (by grind) hA
              exact ⟨w, dir_in (i := i) (Or.inl ⟨hi, hw⟩), hwA⟩
          · rcases hApt with hA | hA
            · obtain ⟨w, hw, hwA⟩ := dir_along hn hE (by grind) hA
              exact ⟨w, dir_in (i := i) (Or.inr ⟨hi, hw⟩), hwA⟩
            · obtain ⟨w, hw, hwA⟩ := dir_along hn (by omega) (by grind) hA
              exact ⟨w, dir_in (i := i) (Or.inr ⟨hi, hw⟩), hwA⟩
      · right
        have h3 : 3 ≤ H.length := by have := hD.pos; omega
        have n0 := hnn 0 (by omega)
        have n1 := hnn (H.length - 1) (by omega)
        rw [show nxt 0 H.length = 1 by unfold nxt; rw [if_pos (by omega)]] at n0
        rw [show nxt (H.length - 1) H.length = 0 by unfold nxt; rw [if_neg (by omega)]] at n1
        have hsw : ∀ a b : S31, crs b a z31 = - crs a b z31 := by intro a b; unfold crs; grind
        rw [hsw] at n1
        obtain ⟨i, hi, f1, f2⟩ := turns_at (fun i => crs (pt H 0) (pt H (i + 1)) z31) (H.length - 2) n0 (by show crs (pt H 0) (pt H (H.length - 2 + 1)) z31 ≤ 0; rw [show H.length - 2 + 1 = H.length - 1 by omega]; omega) (by omega)
        have ne := hnn (i + 1) (by omega)
        rw [show nxt (i + 1) H.length = i + 1 + 1 by unfold nxt; rw [if_pos (by omega)]] at ne
        have e0 := hD.ed (i + 1) (by omega) _ (hm 0 (by omega))
        rw [show nxt (i + 1) H.length = i + 1 + 1 by unfold nxt; rw [if_pos (by omega)]] at e0
        have l1 := hD.least _ (hm (i + 1) (by omega))
        have l2 := hD.least _ (hm (i + 1 + 1) (by omega))
        have d1 := hD.ne (i + 1) (by omega) (by omega)
        have d2 := hD.ne (i + 1 + 1) (by omega) (by omega)
        have m0 := hm 0 (by omega)
        have m1 := hm (i + 1) (by omega)
        have m2 := hm (i + 1 + 1) (by omega)
        generalize pt H 0 = a at *
        generalize pt H (i + 1) = b at *
        generalize pt H (i + 1 + 1) = c at *
        obtain ⟨b0, b1, b2⟩ := bary a b c
        have hpos : 0 < crs a b c := by
          rcases e0 with e0 | e0
          · rw [← crs_rot a b c]; exact e0
          · exfalso
            obtain ⟨k1, k2, k3⟩ := (onB_iff' _ _ _).1 e0
            have g1 : ltP a b = true := by
              rcases ltP_tot a b with h | h | h
              · exact h
              · exact absurd h.symm d1
              · exact absurd h l1
            have g2 : ltP a c = true := by
              rcases ltP_tot a c with h | h | h
              · exact h
              · exact absurd h.symm d2
              · exact absurd h l2
            unfold ltP at g1 g2
            rw [decide_eq_true_eq] at g1 g2
            unfold crs at k1
            by_cases hbc : b.f0 = c.f0
            · omega
            · rcases Int.lt_or_gt_of_ne hbc with h | h
              · have hx : a.f0 = b.f0 := by omega
                rw [hx, Int.sub_self, Int.mul_zero, Int.sub_zero] at k1
                rcases Int.mul_eq_zero.1 k1 with h4 | h4 <;> omega
              · have hx : a.f0 = c.f0 := by omega
                rw [hx] at k1
                have k1' : (c.f0 - b.f0) * (a.f1 - c.f1) = 0 := by grind
                rcases Int.mul_eq_zero.1 k1' with h4 | h4 <;> omega
        have hca := hsw a c
        exact common3 hP hQ m0 m1 m2 (s := crs b c z31) (t := crs c a z31) (r := crs a b z31) ne (by omega) f1 (by omega) b1 b2
/-- a linear function is nowhere in a hull greater than at its corners -/
theorem inH_lin {P : List S31} (h : IsHull P P) {X Y D : Int} (hin : InH P X Y D) (u v m : Int) (hm : ∀ p ∈ P, lin u v p ≤ m) : u * X + v * Y ≤ m * D := by
  have hD := hin.1
  by_cases h3 : P.length < 3
  · have hbox := (fmB_v (a := pt P 0) (b := pt P (P.length - 1)) (X := X) (Y := Y) (D := D)).1 (fun g hg => hin.2 g (List.mem_append_right _ (by rw [if_pos h3]; exact hg)))
    have hsd : sd (pt P 0) (pt P (P.length - 1)) X Y D = 0 := by
      by_cases h1 : P.length = 1
      · rw [h1]; unfold sd; grind
      · have h2 : P.length = 2 := by have := h.pos; omega
        have e0 := hin.2 _ (fm_edge (H := P) (i := 0) (by omega))
        have e1 := hin.2 _ (fm_edge (H := P) (i := 1) (by omega))
        rw [show nxt 0 P.length = 1 by unfold nxt; rw [if_pos (by omega)], fmE_v] at e0
        rw [show nxt 1 P.length = 0 by unfold nxt; rw [if_neg (by omega)], fmE_v] at e1
        have e : sd (pt P 1) (pt P 0) X Y D = - sd (pt P 0) (pt P 1) X Y D := by unfold sd; grind
        rw [h2]; show sd (pt P 0) (pt P 1) X Y D = 0; omega
    obtain ⟨s, t, k1, k2, k3, k4, k5⟩ := on_box hD hsd hbox.1 hbox.2
    have m0 := hm _ (pt_mem P 0 h.pos)
    have m1 := hm _ (pt_mem P (P.length - 1) (by have := h.pos; omega))
    generalize pt P 0 = a at *
    generalize pt P (P.length - 1) = b at *
    have e : (s + t) * (m * D - (u * X + v * Y)) = D * (s * (m - lin u v a) + t * (m - lin u v b)) := by
      have : (s + t) * (m * D - (u * X + v * Y)) = (s + t) * m * D - (u * ((s + t) * X) + v * ((s + t) * Y)) := by grind
      rw [this, k4, k5]; unfold lin; grind
    have n1 := nn_mul k1 (show 0 ≤ m - lin u v a by omega)
    have n2 := nn_mul k2 (show 0 ≤ m - lin u v b by omega)
    have n3 := nn_mul (Int.le_of_lt hD) (show 0 ≤ s * (m - lin u v a) + t * (m - lin u v b) by omega)
    have := nn_of k3 (by rw [e]; exact n3)
    omega
  · obtain ⟨i, hi, hmax⟩ := max_at (lin u v) P h.pos
    obtain ⟨k, hk, hki⟩ := nxt_prev h.pos hi
    have ht := hull_left h (by omega) k hk
    have e1 := hin.2 _ (fm_edge hk)
    have e2 := hin.2 _ (fm_edge hi)
    rw [fmE_v] at e1 e2
    rw [hki] at ht e1
    have f1 := hmax k hk
    have f2 := hmax _ (nxt_lt (i := i) h.pos)
    have mb := hm _ (pt_mem P i hi)
    generalize pt P (nxt i P.length) = c at *
    generalize pt P i = b at *
    generalize pt P k = a at *
    have key : crs a b c * ((u * X + v * Y) - lin u v b * D) = sd a b X Y D * (lin u v c - lin u v b) + sd b c X Y D * (lin u v a - lin u v b) := by unfold crs sd lin; grind
    have m2 := nn_mul (a := sd a b X Y D) (b := lin u v b - lin u v c) e1 (by omega)
    have m3 := nn_mul (a := sd b c X Y D) (b := lin u v b - lin u v a) e2 (by omega)
    have n1 : 0 ≤ lin u v b * D - (u * X + v * Y) := by
      refine nn_of ht ?_
      have e : crs a b c * (lin u v b * D - (u * X + v * Y)) = -(crs a b c * ((u * X + v * Y) - lin u v b * D)) := by grind
      rw [e, key]; grind
    have n2 := nn_mul (a := m - lin u v b) (b := D) (by omega) (by omega)
    have : m * D - (u * X + v * Y) = (m - lin u v b) * D + (lin u v b * D - (u * X + v * Y)) := by grind
    omega
theorem lin_neg (u v : Int) (q : S31) : lin (-u) (-v) q = -lin u v q := by unfold lin; grind
/-- what a line separates has no point in common -/
theorem apt_not {P Q : List S31} (hP : IsHull P P) (hQ : IsHull Q Q) {u v w : Int} (h1 : ∀ p ∈ P, lin u v p < w) (h2 : ∀ q ∈ Q, w < lin u v q) : ¬ Common P Q := by
  rintro ⟨X, Y, D, i1, i2⟩
  have a1 := inH_lin hP i1 u v (w - 1) (fun p hp => by have := h1 p hp; omega)
  have a2 := inH_lin hQ i2 (-u) (-v) (-(w + 1)) (fun q hq => by have := h2 q hq; rw [lin_neg]; omega)
  have := i1.1
  grind
theorem apt_common {P Q : List S31} (hP : IsHull P P) (hQ : IsHull Q Q) {u v : Int} (h : Apt u v P Q) : ¬ Common P Q := by
  obtain ⟨i, hi, hm⟩ := max_at (lin u v) P hP.pos
  rintro ⟨X, Y, D, i1, i2⟩
  have a1 := inH_lin hP i1 u v (lin u v (pt P i)) (fun p hp => by obtain ⟨j, hj, rfl⟩ := mem_pt hp; exact hm j hj)
  have a2 := inH_lin hQ i2 (-u) (-v) (-(lin u v (pt P i) + 1)) (fun q hq => by have := h _ (pt_mem P i hi) q hq; rw [lin_neg]; omega)
  have := i1.1
  grind
theorem common_of_found {P Q : List S31} (hP : IsHull P P) (hQ : IsHull Q Q) (i : Nat) (hi : i < P.length) (h : InH Q (pt P i).f0 (pt P i).f1 1) : Common P Q := ⟨_, _, _, hull_in hP (pt_mem P i hi), h⟩
/-- two numbers of different signs, or zero -/
def Opp (a b : Int) : Prop := 0 ≤ a ∧ b ≤ 0 ∨ a ≤ 0 ∧ 0 ≤ b
theorem opp_of {s t a b : Int} (hs : 0 ≤ s) (ht : 0 ≤ t) (hst : 0 < s + t) (h : s * a + t * b = 0) : Opp a b := by
  unfold Opp
  rcases Int.lt_trichotomy a 0 with h1 | h1 | h1
  · right
    refine ⟨by omega, ?_⟩
    by_cases ht0 : t = 0
    · subst ht0
      have : s * a = 0 := by omega
      rcases Int.mul_eq_zero.1 this with h2 | h2 <;> omega
    · have := nn_mul (a := s) (b := -a) hs (by omega)
      exact nn_of (b := t) (by omega) (by grind)
  · omega
  · left
    refine ⟨by omega, ?_⟩
    by_cases ht0 : t = 0
    · subst ht0
      have : s * a = 0 := by omega
      rcases Int.mul_eq_zero.1 this with h2 | h2 <;> omega
    · have := nn_mul (a := s) (b := a) hs (by omega)
      have := nn_of (b := t) (t := -b) (by omega) (by grind)
      omega
theorem opp_on {a b c d : S31} (h : onB a b c = true) : Opp (crs c d a) (crs c d b) := by
  obtain ⟨s, t, k1, k2, k3, k4, k5⟩ := on_of_onB h
  refine opp_of k1 k2 k3 ?_
  have e : s * crs c d a + t * crs c d b = (d.f0 - c.f0) * ((s * a.f1 + t * b.f1) - (s + t) * c.f1) - (d.f1 - c.f1) * ((s * a.f0 + t * b.f0) - (s + t) * c.f0) := by unfold crs; grind
  rw [e, k4, k5]; grind
theorem opp_sgn {a b : Int} (h : sgn a * sgn b < 0) : Opp a b := by
  unfold Opp
  rcases Int.lt_trichotomy a 0 with h1 | h1 | h1
  · right
    refine ⟨by omega, ?_⟩
    rcases Int.lt_or_le b 0 with h2 | h2
    · have a1 := sgn_neg.2 h1; have a2 := sgn_neg.2 h2
      have := ps_mul (a := -sgn a) (b := -sgn b) (by omega) (by omega); grind
    · exact h2
  · omega
  · left
    refine ⟨by omega, ?_⟩
    rcases Int.lt_or_le 0 b with h2 | h2
    · have a1 := sgn_pos.2 h1; have a2 := sgn_pos.2 h2
      have := ps_mul a1 a2; omega
    · exact h2
theorem opp_flip (a b c d : S31) : crs d c a = - crs c d a := by unfold crs; grind
theorem opp_neg {a b : Int} (h : Opp (-a) (-b)) : Opp a b := by unfold Opp at *; omega
theorem meet_opp {a b c d : S31} (h : meetB a b c d = true) : Opp (crs c d a) (crs c d b) ∧ Opp (crs a b c) (crs a b d) := by
  have zero : ∀ x y : Int, x = 0 → Opp x y := by intro x y hx; unfold Opp; omega
  have zero' : ∀ x y : Int, y = 0 → Opp x y := by intro x y hx; unfold Opp; omega
  unfold meetB at h
  simp only [Bool.or_eq_true, Bool.and_eq_true, decide_eq_true_eq] at h
  rcases h with h | h | h | h | ⟨h, h'⟩
  · exact ⟨opp_on h, zero _ _ ((onB_iff _ _ _).1 h).1⟩
  · have := opp_on (d := c) h
    rw [opp_flip a b c d, opp_flip b b c d] at this
    exact ⟨opp_neg this, zero' _ _ ((onB_iff _ _ _).1 h).1⟩
  · exact ⟨zero _ _ ((onB_iff _ _ _).1 h).1, opp_on h⟩
  · have := opp_on (d := a) h
    rw [opp_flip c c a b, opp_flip d d a b] at this
    exact ⟨zero' _ _ ((onB_iff _ _ _).1 h).1, opp_neg this⟩
  · exact ⟨opp_sgn h', opp_sgn h⟩
/-- where two edges cross -/
theorem cross_on {a b c d : S31} (h1 : Opp (crs c d a) (crs c d b)) (h2 : Opp (crs a b c) (crs a b d)) (hp : 0 < par a b c d) :
    OnS a b (a.f0 * par a b c d + crs c d a * (b.f0 - a.f0)) (a.f1 * par a b c d + crs c d a * (b.f1 - a.f1)) (par a b c d) ∧ OnS c d (a.f0 * par a b c d + crs c d a * (b.f0 - a.f0)) (a.f1 * par a b c d + crs c d a * (b.f1 - a.f1)) (par a b c d) := by
  have e1 : crs c d b = crs c d a - par a b c d := by unfold crs par; grind
  have e2 := par_crs a b c d
  have ix : a.f0 * par a b c d + crs c d a * (b.f0 - a.f0) = crs a b d * c.f0 + -crs a b c * d.f0 := by unfold crs par; grind
  have iy : a.f1 * par a b c d + crs c d a * (b.f1 - a.f1) = crs a b d * c.f1 + -crs a b c * d.f1 := by unfold crs par; grind
  refine ⟨⟨par a b c d - crs c d a, crs c d a, ?_, ?_, by omega, by grind, by grind⟩, ⟨crs a b d, -crs a b c, ?_, ?_, by omega, ?_, ?_⟩⟩
  · unfold Opp at h1; omega
  · unfold Opp at h1; omega
  · unfold Opp at h2; omega
  · unfold Opp at h2; omega
  · rw [ix, show crs a b d + -crs a b c = par a b c d by omega]
  · rw [iy, show crs a b d + -crs a b c = par a b c d by omega]
theorem opp_neg' {a b : Int} (h : Opp a b) : Opp (-a) (-b) := by unfold Opp at *; omega
theorem opp_comm {a b : Int} (h : Opp a b) : Opp b a := by unfold Opp at *; omega
theorem cross_on' {a b c d : S31} (h : meetB a b c d = true) (hp : par a b c d ≠ 0) : ∃ s : Int, (s = 1 ∧ 0 < par a b c d ∨ s = -1 ∧ par a b c d < 0) ∧
    OnS a b (a.f0 * (s * par a b c d) + s * crs c d a * (b.f0 - a.f0)) (a.f1 * (s * par a b c d) + s * crs c d a * (b.f1 - a.f1)) (s * par a b c d) ∧ OnS c d (a.f0 * (s * par a b c d) + s * crs c d a * (b.f0 - a.f0)) (a.f1 * (s * par a b c d) + s * crs c d a * (b.f1 - a.f1)) (s * par a b c d) := by
  obtain ⟨h1, h2⟩ := meet_opp h
  rcases Int.lt_or_gt_of_ne hp with h3 | h3
  · refine ⟨-1, Or.inr ⟨rfl, h3⟩, ?_⟩
    have e : par a b d c = -1 * par a b c d := by unfold par; grind
    have e2 : crs d c a = -1 * crs c d a := by unfold crs; grind
    have e3 : crs d c b = -1 * crs c d b := by unfold crs; grind
    have := cross_on (a := a) (b := b) (c := d) (d := c) (by rw [e2, e3]; have := opp_neg' h1; simpa using this) (opp_comm h2) (by rw [e]; omega)
    rw [e, e2] at this
    exact ⟨this.1, this.2.swap⟩
  · refine ⟨1, Or.inl ⟨rfl, h3⟩, ?_⟩
    have := cross_on h1 h2 h3
    simp only [Int.one_mul]
    exact this
end Go.Proofs.Ythaklbjcjoolcaa.P
namespace Go.Proofs.Ythaklbjcjoolcaa.P
open Go.RowKit Go.Proofs.YthaklbjcjoolcaaW.PrintWords Go.Proofs.YthaklbjcjoolcaaW.PrintLast Go.Proofs.YthaklbjcjoolcaaW.PrintMore
/-- numbers of a common point that may be told -/
structure Bd (X Y D : Int) : Prop where
  x : -4398046511104 ≤ X ∧ X ≤ 4398046511104
  y : -4398046511104 ≤ Y ∧ Y ≤ 4398046511104
  d : 1 ≤ D ∧ D ≤ 1073741824
theorem side_is {a b : S31} (ha : okPt a = true) (hb : okPt b = true) {X Y D : Int} (h : Bd X Y D) : sideW a b X Y D = sd a b X Y D := by
  obtain ⟨hx, hy, hd⟩ := h
  rw [okPt_iff] at ha hb
  have h1 := mul_bd (a := a.f1) (b := D) (m := 4096) (n := 1073741824) (by omega) (by omega)
  have h2 := mul_bd (a := a.f0) (b := D) (m := 4096) (n := 1073741824) (by omega) (by omega)
  have h3 := mul_bd (a := b.f0 - a.f0) (b := Y - a.f1 * D) (m := 8192) (n := 8796093022208) (by omega) (by omega)
  have h4 := mul_bd (a := b.f1 - a.f1) (b := X - a.f0 * D) (m := 8192) (n := 8796093022208) (by omega) (by omega)
  unfold sideW sd
  rw [w64i (x := a.f1 * D) (by omega) (by omega), w64i (x := a.f0 * D) (by omega) (by omega), w64i (x := b.f0 - a.f0) (by omega) (by omega), w64i (x := b.f1 - a.f1) (by omega) (by omega), w64i (x := Y - a.f1 * D) (by omega) (by omega), w64i (x := X - a.f0 * D) (by omega) (by omega),
    w64i (x := (b.f0 - a.f0) * (Y - a.f1 * D)) (by omega) (by omega), w64i (x := (b.f1 - a.f1) * (X - a.f0 * D)) (by omega) (by omega), w64i (by omega) (by omega)]
theorem cor_w64 {c D : Int} (hc : -4096 ≤ c ∧ c ≤ 4096) (hd : 1 ≤ D ∧ D ≤ 1073741824) : wrap64 (c * D) = c * D := by
  have h1 := mul_bd (a := c) (b := D) (m := 4096) (n := 1073741824) (by omega) (by omega)
  exact w64i (by omega) (by omega)
theorem mn_bd {a b lo hi : Int} (ha : lo ≤ a ∧ a ≤ hi) (hb : lo ≤ b ∧ b ≤ hi) : (lo ≤ mn a b ∧ mn a b ≤ hi) ∧ lo ≤ mx a b ∧ mx a b ≤ hi := by
  unfold mn mx
  split <;> split <;> omega
/-- the program's test is the test of the forms -/
theorem holds_iff {H : List S31} (hH : IsHull H H) (hok : allOk H = true) {X Y D : Int} (h : Bd X Y D) : holdsB H X Y D = true ↔ InH H X Y D := by
  have okH : ∀ i, i < H.length → okPt (pt H i) = true := fun i hi => List.all_eq_true.1 hok _ (pt_mem H i hi)
  have hD : 0 < D := by have := h.d; omega
  have bits : InH H X Y D ↔ (∀ i, i < H.length → 0 ≤ sd (pt H i) (pt H (nxt i H.length)) X Y D) ∧ (H.length < 3 → (mn (pt H 0).f0 (pt H (H.length - 1)).f0 * D ≤ X ∧ X ≤ mx (pt H 0).f0 (pt H (H.length - 1)).f0 * D) ∧ (mn (pt H 0).f1 (pt H (H.length - 1)).f1 * D ≤ Y ∧ Y ≤ mx (pt H 0).f1 (pt H (H.length - 1)).f1 * D)) := by
    constructor
    · intro hi
      refine ⟨fun i hlt => by have := hi.2 _ (fm_edge hlt); rwa [fmE_v] at this, fun h3 => fmB_v.1 (fun g hg => hi.2 g (List.mem_append_right _ (by rw [if_pos h3]; exact hg)))⟩
    · rintro ⟨h1, h2⟩
      refine ⟨hD, fun g hg => ?_⟩
      unfold fms at hg
      rw [List.mem_append] at hg
      rcases hg with hg | hg
      · obtain ⟨i, hi, rfl⟩ := List.mem_map.1 hg
        rw [fmE_v]; exact h1 i (List.mem_range.1 hi)
      · split at hg
        · rename_i h3; exact fmB_v.2 (h2 h3) g hg
        · simp at hg
  rw [bits]
  unfold holdsB
  by_cases h1 : H.length = 1
  · rw [if_pos h1, decide_eq_true_eq]
    have o0 := (okPt_iff _).1 (okH 0 (by omega))
    rw [cor_w64 o0.1 h.d, cor_w64 o0.2 h.d, h1]
    have e0 : nxt 0 1 = 0 := rfl
    have em : ∀ c : Int, mn c c = c ∧ mx c c = c := fun c => by unfold mn mx; split <;> exact ⟨rfl, rfl⟩
    simp only [Nat.sub_self]
    rw [(em _).1, (em _).2, (em _).1, (em _).2]
    constructor
    · rintro ⟨rfl, rfl⟩
      refine ⟨fun i hi => ?_, fun _ => ⟨⟨by omega, by omega⟩, by omega, by omega⟩⟩
      obtain rfl : i = 0 := by omega
      rw [e0]; unfold sd; grind
    · rintro ⟨_, h2⟩
      have := h2 (by omega)
      exact ⟨by omega, by omega⟩
  · rw [if_neg h1]
    by_cases h2 : H.length = 2
    · rw [if_pos h2, decide_eq_true_eq]
      have o0 := (okPt_iff _).1 (okH 0 (by omega))
      have o1 := (okPt_iff _).1 (okH 1 (by omega))
      have b0 := mn_bd o0.1 o1.1
      have b1 := mn_bd o0.2 o1.2
      rw [cor_w64 b0.1 h.d, cor_w64 b0.2 h.d, cor_w64 b1.1 h.d, cor_w64 b1.2 h.d, side_is (okH 0 (by omega)) (okH 1 (by omega)) h, h2]
      have e0 : nxt 0 2 = 1 := rfl
      have e1 : nxt 1 2 = 0 := rfl
      have es : sd (pt H 1) (pt H 0) X Y D = - sd (pt H 0) (pt H 1) X Y D := by unfold sd; grind
      constructor
      · rintro ⟨h3, h4⟩
        refine ⟨fun i hi => ?_, fun _ => h4⟩
        have : i = 0 ∨ i = 1 := by omega
        rcases this with rfl | rfl
        · rw [e0]; omega
        · rw [e1]; omega
      · rintro ⟨h3, h4⟩
        have a0 := h3 0 (by omega)
        have a1 := h3 1 (by omega)
        rw [e0] at a0; rw [e1] at a1
        exact ⟨by omega, h4 (by omega)⟩
    · rw [if_neg h2, List.all_eq_true]
      have hp := hH.pos
      constructor
      · intro h3
        refine ⟨fun i hi => ?_, fun h4 => by omega⟩
        have := h3 i (List.mem_range.2 hi)
        rw [decide_eq_true_eq, ← nxt_mod hi, side_is (okH i hi) (okH _ (nxt_lt hp)) h] at this
        exact this
      · rintro ⟨h3, _⟩ i hi
        have hi := List.mem_range.1 hi
        rw [decide_eq_true_eq, ← nxt_mod hi, side_is (okH i hi) (okH _ (nxt_lt hp)) h]
        exact h3 i hi
/-! ### extremes, lines -/
theorem lin_bd {u v : Int} (hu : -8192 ≤ u ∧ u ≤ 8192) (hv : -8192 ≤ v ∧ v ≤ 8192) {p : S31} (hp : okPt p = true) : -67108864 ≤ lin u v p ∧ lin u v p ≤ 67108864 := by
  rw [okPt_iff] at hp
  have h1 := mul_bd (a := u) (b := p.f0) (m := 8192) (n := 4096) (by omega) (by omega)
  have h2 := mul_bd (a := v) (b := p.f1) (m := 8192) (n := 4096) (by omega) (by omega)
  unfold lin; omega
/-- no number overflows -/
theorem fine_of {u v : Int} (hu : -8192 ≤ u ∧ u ≤ 8192) (hv : -8192 ≤ v ∧ v ≤ 8192) {l : List S31} (hl : allOk l = true) : Fine u v l := by
  intro p hp
  have ho := List.all_eq_true.1 hl p hp
  have hb := lin_bd hu hv ho
  rw [okPt_iff] at ho
  have h1 := mul_bd (a := u) (b := p.f0) (m := 8192) (n := 4096) (by omega) (by omega)
  have h2 := mul_bd (a := v) (b := p.f1) (m := 8192) (n := 4096) (by omega) (by omega)
  exact value_is (w64i (by omega) (by omega)) (w64i (by omega) (by omega)) (w64i (by omega) (by omega))
/-- the verdict that is a line -/
def lineV (u v w : Int) : Bool × Int × Int × Int × Int × Int × Int × Bool := (false, 0, 0, 0, 2 * u, 2 * v, w, true)
theorem line_ev {u v : Int} (hu : -8192 ≤ u ∧ u ≤ 8192) (hv : -8192 ≤ v ∧ v ≤ 8192) {P Q : List S31} (hP : allOk P = true) (hQ : allOk Q = true) (p0 : 0 < P.length) (q0 : 0 < Q.length) (pl : P.length < 9223372036854775807) (ql : Q.length < 9223372036854775807) :
    ∃ t, Ev (fun k => plane_line.f k u v P Q) t ∧ ((Apt u v P Q ∧ ∃ w, t = lineV u v w ∧ (-134217728 ≤ w ∧ w ≤ 134217728) ∧ (∀ p ∈ P, 2 * lin u v p < w) ∧ ∀ q ∈ Q, w < 2 * lin u v q) ∨ (¬ Apt u v P Q ∧ t = (false, 0, 0, 0, 0, 0, 0, false))) := by
  obtain ⟨lo, hi, e1, x1⟩ := ext_ev u v P (fine_of hu hv hP) p0 pl
  obtain ⟨lo', hi', e2, x2⟩ := ext_ev u v Q (fine_of hu hv hQ) q0 ql
  obtain ⟨a, ha, ea⟩ := x1.athi
  obtain ⟨b, hb, eb⟩ := x2.atlo
  have ba := lin_bd hu hv (List.all_eq_true.1 hP _ ha)
  have bb := lin_bd hu hv (List.all_eq_true.1 hQ _ hb)
  by_cases h : hi ≥ lo'
  · refine ⟨(false, 0, 0, 0, 0, 0, 0, false), ?_, Or.inr ⟨fun hA => ?_, rfl⟩⟩
    · unfold plane_line.f
      exact Ev.bind e1 (Ev.bind e2 (ev_pos h (Ev.now _)))
    · have := hA a ha b hb; omega
  · refine ⟨lineV u v (hi + lo'), ?_, Or.inl ⟨fun p hp q hq => ?_, hi + lo', rfl, by omega, fun p hp => ?_, fun q hq => ?_⟩⟩
    · unfold plane_line.f lineV
      refine Ev.bind e1 (Ev.bind e2 (ev_neg h ?_))
      simp only
      rw [w64i (x := 2 * u) (by omega) (by omega), w64i (x := 2 * v) (by omega) (by omega), w64i (x := hi + lo') (by omega) (by omega)]
      exact Ev.now _
    · have := x1.le p hp; have := x2.ge q hq; omega
    · have := x1.le p hp; omega
    · have := x2.ge q hq; omega
/-! ### crossings, common points -/
theorem par_w {a b c d : S31} (ha : okPt a = true) (hb : okPt b = true) (hc : okPt c = true) (hd : okPt d = true) :
    wrap64 (wrap64 (wrap64 (b.f0 - a.f0) * wrap64 (d.f1 - c.f1)) - wrap64 (wrap64 (b.f1 - a.f1) * wrap64 (d.f0 - c.f0))) = par a b c d ∧ (-134217728 ≤ par a b c d ∧ par a b c d ≤ 134217728) := by
  rw [okPt_iff] at ha hb hc hd
  have h1 := mul_bd (a := b.f0 - a.f0) (b := d.f1 - c.f1) (m := 8192) (n := 8192) (by omega) (by omega)
  have h2 := mul_bd (a := b.f1 - a.f1) (b := d.f0 - c.f0) (m := 8192) (n := 8192) (by omega) (by omega)
  unfold par
  rw [w64i (x := b.f0 - a.f0) (by omega) (by omega), w64i (x := d.f1 - c.f1) (by omega) (by omega), w64i (x := b.f1 - a.f1) (by omega) (by omega), w64i (x := d.f0 - c.f0) (by omega) (by omega),
    w64i (x := (b.f0 - a.f0) * (d.f1 - c.f1)) (by omega) (by omega), w64i (x := (b.f1 - a.f1) * (d.f0 - c.f0)) (by omega) (by omega)]
  exact ⟨w64i (by omega) (by omega), by omega⟩
theorem at_w {a c d : S31} (ha : okPt a = true) (hc : okPt c = true) (hd : okPt d = true) :
    wrap64 (wrap64 (wrap64 (c.f0 - a.f0) * wrap64 (d.f1 - c.f1)) - wrap64 (wrap64 (c.f1 - a.f1) * wrap64 (d.f0 - c.f0))) = crs c d a := by
  have hb := crs_bd hc hd ha
  rw [okPt_iff] at ha hc hd
  have h1 := mul_bd (a := c.f0 - a.f0) (b := d.f1 - c.f1) (m := 8192) (n := 8192) (by omega) (by omega)
  have h2 := mul_bd (a := c.f1 - a.f1) (b := d.f0 - c.f0) (m := 8192) (n := 8192) (by omega) (by omega)
  rw [w64i (x := c.f0 - a.f0) (by omega) (by omega), w64i (x := d.f1 - c.f1) (by omega) (by omega), w64i (x := c.f1 - a.f1) (by omega) (by omega), w64i (x := d.f0 - c.f0) (by omega) (by omega),
    w64i (x := (c.f0 - a.f0) * (d.f1 - c.f1)) (by omega) (by omega), w64i (x := (c.f1 - a.f1) * (d.f0 - c.f0)) (by omega) (by omega)]
  have e : (c.f0 - a.f0) * (d.f1 - c.f1) - (c.f1 - a.f1) * (d.f0 - c.f0) = crs c d a := by unfold crs; grind
  rw [e]; exact w64i (by omega) (by omega)
theorem comb_w {a b D t : Int} (ha : -4096 ≤ a ∧ a ≤ 4096) (hb : -8192 ≤ b ∧ b ≤ 8192) (hD : -134217728 ≤ D ∧ D ≤ 134217728) (ht : -134217728 ≤ t ∧ t ≤ 134217728) :
    wrap64 (wrap64 (a * D) + wrap64 (t * wrap64 b)) = a * D + t * b ∧ (-4398046511104 ≤ a * D + t * b ∧ a * D + t * b ≤ 4398046511104) := by
  have h1 := mul_bd (a := a) (b := D) (m := 4096) (n := 134217728) (by omega) (by omega)
  have h2 := mul_bd (a := t) (b := b) (m := 134217728) (n := 8192) (by omega) (by omega)
  rw [w64i (x := b) (by omega) (by omega), w64i (x := a * D) (by omega) (by omega), w64i (x := t * b) (by omega) (by omega)]
  exact ⟨w64i (by omega) (by omega), by omega⟩
/-- two edges cross -/
def Crs (a b c d : S31) : Prop := par a b c d ≠ 0 ∧ meetB a b c d = true
theorem crossing_ev {a b c d : S31} (ha : okPt a = true) (hb : okPt b = true) (hc : okPt c = true) (hd : okPt d = true) :
    ∃ t, Ev (fun k => plane_crossing.f k a.f0 a.f1 b.f0 b.f1 c.f0 c.f1 d.f0 d.f1) t ∧ ((¬ Crs a b c d ∧ t = (false, 0, 0, 0, 0, 0, 0, false)) ∨ ∃ X Y D, t = (true, X, Y, D, 0, 0, 0, true) ∧ Bd X Y D ∧ OnS a b X Y D ∧ OnS c d X Y D) := by
  obtain ⟨pw, pb⟩ := par_w ha hb hc hd
  have aw := at_w ha hc hd
  have ab := crs_bd hc hd ha
  have oa := (okPt_iff a).1 ha
  have ob := (okPt_iff b).1 hb
  have no : ∀ j : Bool, j = true → Ev (fun k => plane_crossing.j0 k (wrap64 (b.f0 - a.f0)) (wrap64 (b.f1 - a.f1)) (wrap64 (d.f0 - c.f0)) (wrap64 (d.f1 - c.f1)) (par a b c d) j a.f0 a.f1 b.f0 b.f1 c.f0 c.f1 d.f0 d.f1) (false, 0, 0, 0, 0, 0, 0, false) := by
    intro j hj
    refine Ev.step (f := fun _ => some (false, 0, 0, 0, 0, 0, 0, false)) (fun k => ?_) (Ev.now _)
    rw [plane_crossing.j0, if_pos hj]
  by_cases h0 : par a b c d = 0
  · refine ⟨(false, 0, 0, 0, 0, 0, 0, false), ?_, Or.inl ⟨fun h => h.1 h0, rfl⟩⟩
    unfold plane_crossing.f
    rw [pw]
    exact ev_pos h0 (no true rfl)
  · by_cases hm : meetB a b c d = true
    · obtain ⟨s, hs, on1, on2⟩ := cross_on' hm h0
      have hx := comb_w (a := a.f0) (b := b.f0 - a.f0) (D := s * par a b c d) (t := s * crs c d a) (by omega) (by omega) (by rcases hs with ⟨rfl, _⟩ | ⟨rfl, _⟩ <;> omega) (by rcases hs with ⟨rfl, _⟩ | ⟨rfl, _⟩ <;> omega)
      have hy := comb_w (a := a.f1) (b := b.f1 - a.f1) (D := s * par a b c d) (t := s * crs c d a) (by omega) (by omega) (by rcases hs with ⟨rfl, _⟩ | ⟨rfl, _⟩ <;> omega) (by rcases hs with ⟨rfl, _⟩ | ⟨rfl, _⟩ <;> omega)
      refine ⟨(true, a.f0 * (s * par a b c d) + s * crs c d a * (b.f0 - a.f0), a.f1 * (s * par a b c d) + s * crs c d a * (b.f1 - a.f1), s * par a b c d, 0, 0, 0, true), ?_, Or.inr ⟨_, _, _, rfl, ⟨hx.2, hy.2, by rcases hs with ⟨rfl, _⟩ | ⟨rfl, _⟩ <;> omega⟩, on1, on2⟩⟩
      unfold plane_crossing.f
      rw [pw]
      refine ev_neg h0 ?_
      have hme : Ev (fun k => plane_segment_meets.f k a.f0 a.f1 b.f0 b.f1 c.f0 c.f1 d.f0 d.f1) true := Ev.step (f := fun _ => some true) (fun k => by rw [meets_is ha hb hc hd, hm]) (Ev.now _)
      refine Ev.bind hme ?_
      refine Ev.step (f := fun _ => some (true, a.f0 * (s * par a b c d) + s * crs c d a * (b.f0 - a.f0), a.f1 * (s * par a b c d) + s * crs c d a * (b.f1 - a.f1), s * par a b c d, 0, 0, 0, true)) (fun k => ?_) (Ev.now _)
      rw [plane_crossing.j0, if_neg (by decide), aw]
      rcases hs with ⟨rfl, hp⟩ | ⟨rfl, hp⟩
      · rw [if_neg (by omega)]
        rw [Int.one_mul, Int.one_mul] at hx hy
        rw [hx.1, hy.1, Int.one_mul, Int.one_mul]
      · rw [if_pos hp]
        rw [show -1 * par a b c d = - par a b c d by omega, show -1 * crs c d a = - crs c d a by omega] at hx hy
        rw [w64i (x := -par a b c d) (by omega) (by omega), w64i (x := -crs c d a) (by omega) (by omega), hx.1, hy.1, show -1 * par a b c d = - par a b c d by omega, show -1 * crs c d a = - crs c d a by omega]
    · refine ⟨(false, 0, 0, 0, 0, 0, 0, false), ?_, Or.inl ⟨fun h => hm h.2, rfl⟩⟩
      unfold plane_crossing.f
      rw [pw]
      refine ev_neg h0 ?_
      rw [Bool.not_eq_true] at hm
      have hme : Ev (fun k => plane_segment_meets.f k a.f0 a.f1 b.f0 b.f1 c.f0 c.f1 d.f0 d.f1) false := Ev.step (f := fun _ => some false) (fun k => by rw [meets_is ha hb hc hd, hm]) (Ev.now _)
      refine Ev.bind hme ?_
      exact no _ rfl
/-- what the look for a common point tells -/
def ComV (P Q : List S31) (t : Bool × Int × Int × Int × Int × Int × Int) (N : Prop) : Prop :=
  (t = (false, 0, 0, 0, 0, 0, 0) ∧ N) ∨ ∃ X Y D, t = (true, X, Y, D, 0, 0, 0) ∧ Bd X Y D ∧ InH P X Y D ∧ InH Q X Y D
section
variable {P Q : List S31} (hP : IsHull P P) (hQ : IsHull Q Q) (okP : allOk P = true) (okQ : allOk Q = true) (lP : P.length ≤ 4096) (lQ : Q.length ≤ 4096)
include hP hQ okP okQ lP lQ
theorem com_l3 (i : Nat) (hi : i < P.length) (N : Prop) (next : ∃ t, Ev (fun k => plane_common.l2 k P Q (P.length : Int) ((i + 1 : Nat) : Int)) t ∧ ComV P Q t N) : ∀ (m j : Nat), Q.length - j = m → j ≤ Q.length →
    ∃ t, Ev (fun k => plane_common.l3 k P Q (i : Int) (P.length : Int) (i : Int) (Q.length : Int) (j : Int)) t ∧ ComV P Q t ((∀ k, j ≤ k → k < Q.length → ¬ Crs (pt P i) (pt P (nxt i P.length)) (pt Q k) (pt Q (nxt k Q.length))) ∧ N)
  | 0, j, hm, hj => by
    obtain ⟨t, ht, hc⟩ := next
    refine ⟨t, Ev.step (fun k => ?_) ht, ?_⟩
    · conv => lhs; unfold plane_common.l3
      rw [if_neg (by omega), w64i (x := (i : Int) + 1) (by omega) (by omega)]
      rfl
    · rcases hc with ⟨h1, h2⟩ | h
      · exact Or.inl ⟨h1, fun k h3 h4 => by omega, h2⟩
      · exact Or.inr h
  | m + 1, j, hm, hj => by
    have hlt : j < Q.length := by omega
    have ni := nxt_lt (i := i) hP.pos
    have nj := nxt_lt (i := j) hQ.pos
    have okp : ∀ n, n < P.length → okPt (pt P n) = true := fun n hn => List.all_eq_true.1 okP _ (pt_mem P n hn)
    have okq : ∀ n, n < Q.length → okPt (pt Q n) = true := fun n hn => List.all_eq_true.1 okQ _ (pt_mem Q n hn)
    obtain ⟨t, ht, hc⟩ := com_l3 i hi N next m (j + 1) (by omega) (by omega)
    obtain ⟨v, hv, hvc⟩ := crossing_ev (okp i hi) (okp _ ni) (okq j hlt) (okq _ nj)
    have e1 := edge_is P i hi lP
    have e2 := edge_is Q j hlt lQ
    rw [← nxt_mod hi] at e1
    rw [← nxt_mod hlt] at e2
    have go : ∀ (r : Bool × Int × Int × Int × Int × Int × Int), Ev (fun k => if v.2.2.2.2.2.2.2 = true then (some (v.1, v.2.1, v.2.2.1, v.2.2.2.1, v.2.2.2.2.1, v.2.2.2.2.2.1, v.2.2.2.2.2.2.1)) else (plane_common.l3 k P Q (i : Int) (P.length : Int) (i : Int) (Q.length : Int) (wrap64 ((j : Int) + 1)))) r → Ev (fun k => plane_common.l3 k P Q (i : Int) (P.length : Int) (i : Int) (Q.length : Int) (j : Int)) r := by
      intro r hr
      refine Ev.step (f := fun k => (plane_crossing.f k (pt P i).f0 (pt P i).f1 (pt P (nxt i P.length)).f0 (pt P (nxt i P.length)).f1 (pt Q j).f0 (pt Q j).f1 (pt Q (nxt j Q.length)).f0 (pt Q (nxt j Q.length)).f1).bind fun bt656 => (if bt656.2.2.2.2.2.2.2 = true then (some (bt656.1, bt656.2.1, bt656.2.2.1, bt656.2.2.2.1, bt656.2.2.2.2.1, bt656.2.2.2.2.2.1, bt656.2.2.2.2.2.2.1)) else (plane_common.l3 k P Q (i : Int) (P.length : Int) (i : Int) (Q.length : Int) (wrap64 ((j : Int) + 1))))) (fun k => ?_) (Ev.bind hv hr)
      conv => lhs; unfold plane_common.l3
      rw [if_pos (by omega), e1, e2, Option.bind_some, Option.bind_some]
    rcases hvc with ⟨hn, rfl⟩ | ⟨X, Y, D, rfl, hb, o1, o2⟩
    · refine ⟨t, go t (ev_neg (by decide) ?_), ?_⟩
      · rw [w64i (x := (j : Int) + 1) (by omega) (by omega)]; exact ht
      · rcases hc with ⟨h1, h2, h3⟩ | h
        · refine Or.inl ⟨h1, fun k h4 h5 => ?_, h3⟩
          rcases Nat.lt_or_ge j k with h6 | h6
          · exact h2 k (by omega) h5
          · obtain rfl : k = j := by omega
            exact hn
        · exact Or.inr h
    · have hD : 0 < D := by have := hb.d; omega
      refine ⟨_, go _ (ev_pos rfl (Ev.now _)), Or.inr ⟨X, Y, D, rfl, hb, OnS.inH hP (pt_mem _ _ hi) (pt_mem _ _ ni) hD o1, OnS.inH hQ (pt_mem _ _ hlt) (pt_mem _ _ nj) hD o2⟩⟩
theorem com_l2 : ∀ (m i : Nat), P.length - i = m → i ≤ P.length →
    ∃ t, Ev (fun k => plane_common.l2 k P Q (P.length : Int) (i : Int)) t ∧ ComV P Q t (∀ n, i ≤ n → n < P.length → ∀ k, k < Q.length → ¬ Crs (pt P n) (pt P (nxt n P.length)) (pt Q k) (pt Q (nxt k Q.length)))
  | 0, i, hm, hi => by
    refine ⟨(false, 0, 0, 0, 0, 0, 0), Ev.step (f := fun _ => some (false, 0, 0, 0, 0, 0, 0)) (fun k => ?_) (Ev.now _), Or.inl ⟨rfl, fun n h1 h2 => by omega⟩⟩
    unfold plane_common.l2
    rw [if_neg (by omega)]
  | m + 1, i, hm, hi => by
    have hlt : i < P.length := by omega
    obtain ⟨t, ht, hc⟩ := com_l3 hP hQ okP okQ lP lQ i hlt _ (com_l2 m (i + 1) (by omega) (by omega)) Q.length 0 (by omega) (by omega)
    refine ⟨t, Ev.step (fun k => ?_) ht, ?_⟩
    · conv => lhs; unfold plane_common.l2
      rw [if_pos (by omega)]
      rfl
    · rcases hc with ⟨h1, h2, h3⟩ | h
      · refine Or.inl ⟨h1, fun n h4 h5 k h6 => ?_⟩
        rcases Nat.lt_or_ge i n with h7 | h7
        · exact h3 n (by omega) h5 k h6
        · obtain rfl : n = i := by omega
          exact h2 k (by omega) h6
      · exact Or.inr h
theorem com_l1 (N : Prop) (next : ∃ t, Ev (fun k => plane_common.l2 k P Q (P.length : Int) ((0 : Nat) : Int)) t ∧ ComV P Q t N) : ∀ (m j : Nat), Q.length - j = m → j ≤ Q.length →
    ∃ t, Ev (fun k => plane_common.l1 k P Q Q (Q.length : Int) (j : Int)) t ∧ ComV P Q t ((∀ k, j ≤ k → k < Q.length → ¬ InH P (pt Q k).f0 (pt Q k).f1 1) ∧ N)
  | 0, j, hm, hj => by
    obtain ⟨t, ht, hc⟩ := next
    refine ⟨t, Ev.step (fun k => ?_) ht, ?_⟩
    · conv => lhs; unfold plane_common.l1
      rw [if_neg (by omega)]
      rfl
    · rcases hc with ⟨h1, h2⟩ | h
      · exact Or.inl ⟨h1, fun k h3 h4 => by omega, h2⟩
      · exact Or.inr h
  | m + 1, j, hm, hj => by
    have hlt : j < Q.length := by omega
    have hb : Bd (pt Q j).f0 (pt Q j).f1 1 := by
      have := (okPt_iff _).1 (List.all_eq_true.1 okQ _ (pt_mem Q j hlt))
      exact ⟨by omega, by omega, by omega⟩
    have hf : plane_holds.f P (pt Q j).f0 (pt Q j).f1 1 = some (holdsB P (pt Q j).f0 (pt Q j).f1 1) := by unfold plane_holds.f; rw [if_pos lP]
    have hiff := holds_iff hP okP hb
    by_cases hh : holdsB P (pt Q j).f0 (pt Q j).f1 1 = true
    · refine ⟨(true, (pt Q j).f0, (pt Q j).f1, 1, 0, 0, 0), Ev.step (f := fun _ => some (true, (pt Q j).f0, (pt Q j).f1, 1, 0, 0, 0)) (fun k => ?_) (Ev.now _), Or.inr ⟨_, _, _, rfl, hb, hiff.1 hh, hull_in hQ (pt_mem Q j hlt)⟩⟩
      unfold plane_common.l1
      rw [if_pos (by omega), if_pos (by omega), if_pos (by omega), rd_pt, hf, Option.bind_some, if_pos hh]
    · obtain ⟨t, ht, hc⟩ := com_l1 N next m (j + 1) (by omega) (by omega)
      refine ⟨t, Ev.step (fun k => ?_) ht, ?_⟩
      · conv => lhs; unfold plane_common.l1
        rw [if_pos (by omega), if_pos (by omega), if_pos (by omega), rd_pt, hf, Option.bind_some, if_neg hh, w64i (x := (j : Int) + 1) (by omega) (by omega)]
        rfl
      · rcases hc with ⟨h1, h2, h3⟩ | h
        · refine Or.inl ⟨h1, fun k h4 h5 => ?_, h3⟩
          rcases Nat.lt_or_ge j k with h6 | h6
          · exact h2 k (by omega) h5
          · obtain rfl : k = j := by omega
            exact fun hi => hh (hiff.2 hi)
        · exact Or.inr h
theorem com_l0 (N : Prop) (next : ∃ t, Ev (fun k => plane_common.l1 k P Q Q (Q.length : Int) ((0 : Nat) : Int)) t ∧ ComV P Q t N) : ∀ (m j : Nat), P.length - j = m → j ≤ P.length →
    ∃ t, Ev (fun k => plane_common.l0 k P Q P (P.length : Int) (j : Int)) t ∧ ComV P Q t ((∀ k, j ≤ k → k < P.length → ¬ InH Q (pt P k).f0 (pt P k).f1 1) ∧ N)
  | 0, j, hm, hj => by
    obtain ⟨t, ht, hc⟩ := next
    refine ⟨t, Ev.step (fun k => ?_) ht, ?_⟩
    · conv => lhs; unfold plane_common.l0
      rw [if_neg (by omega)]
      rfl
    · rcases hc with ⟨h1, h2⟩ | h
      · exact Or.inl ⟨h1, fun k h3 h4 => by omega, h2⟩
      · exact Or.inr h
  | m + 1, j, hm, hj => by
    have hlt : j < P.length := by omega
    have hb : Bd (pt P j).f0 (pt P j).f1 1 := by
      have := (okPt_iff _).1 (List.all_eq_true.1 okP _ (pt_mem P j hlt))
      exact ⟨by omega, by omega, by omega⟩
    have hf : plane_holds.f Q (pt P j).f0 (pt P j).f1 1 = some (holdsB Q (pt P j).f0 (pt P j).f1 1) := by unfold plane_holds.f; rw [if_pos lQ]
    have hiff := holds_iff hQ okQ hb
    by_cases hh : holdsB Q (pt P j).f0 (pt P j).f1 1 = true
    · refine ⟨(true, (pt P j).f0, (pt P j).f1, 1, 0, 0, 0), Ev.step (f := fun _ => some (true, (pt P j).f0, (pt P j).f1, 1, 0, 0, 0)) (fun k => ?_) (Ev.now _), Or.inr ⟨_, _, _, rfl, hb, hull_in hP (pt_mem P j hlt), hiff.1 hh⟩⟩
      unfold plane_common.l0
      rw [if_pos (by omega), if_pos (by omega), if_pos (by omega), rd_pt, hf, Option.bind_some, if_pos hh]
    · obtain ⟨t, ht, hc⟩ := com_l0 N next m (j + 1) (by omega) (by omega)
      refine ⟨t, Ev.step (fun k => ?_) ht, ?_⟩
      · conv => lhs; unfold plane_common.l0
        rw [if_pos (by omega), if_pos (by omega), if_pos (by omega), rd_pt, hf, Option.bind_some, if_neg hh, w64i (x := (j : Int) + 1) (by omega) (by omega)]
        rfl
      · rcases hc with ⟨h1, h2, h3⟩ | h
        · refine Or.inl ⟨h1, fun k h4 h5 => ?_, h3⟩
          rcases Nat.lt_or_ge j k with h6 | h6
          · exact h2 k (by omega) h5
          · obtain rfl : k = j := by omega
            exact fun hi => hh (hiff.2 hi)
        · exact Or.inr h
/-- the look for a common point finds one if there is one -/
theorem common_ev : ∃ t, Ev (fun k => plane_common.f k P Q) t ∧ ComV P Q t (¬ Common P Q) := by
  obtain ⟨t, ht, hc⟩ := com_l0 hP hQ okP okQ lP lQ _ (com_l1 hP hQ okP okQ lP lQ _ (com_l2 hP hQ okP okQ lP lQ P.length 0 (by omega) (by omega)) Q.length 0 (by omega) (by omega)) P.length 0 (by omega) (by omega)
  refine ⟨t, ht, ?_⟩
  rcases hc with ⟨h1, h2, h3, h4⟩ | h
  · refine Or.inl ⟨h1, ?_⟩
    rintro ⟨X, Y, D, i1, i2⟩
    rcases found_of hP hQ i1 i2 with ⟨i, hi, h⟩ | ⟨k, hk, h⟩ | ⟨i, k, hi, hk, h5, h6⟩
    · exact h2 i (by omega) hi h
    · exact h3 k (by omega) hk h
    · exact h4 i (by omega) hi k hk ⟨h5, h6⟩
  · exact Or.inr h
/-- what the verdict says -/
def SepV (P Q : List S31) (t : Bool × Int × Int × Int × Int × Int × Int × Int) : Prop :=
  (∃ u v w, t = (false, 0, 0, 0, 2 * u, 2 * v, w, 0) ∧ (-8192 ≤ u ∧ u ≤ 8192) ∧ (-8192 ≤ v ∧ v ≤ 8192) ∧ (-134217728 ≤ w ∧ w ≤ 134217728) ∧ (∀ p ∈ P, 2 * lin u v p < w) ∧ ∀ q ∈ Q, w < 2 * lin u v q) ∨
  ∃ X Y D, t = (true, X, Y, D, 0, 0, 0, 0) ∧ Bd X Y D ∧ InH P X Y D ∧ InH Q X Y D
theorem sepL_ev : ∀ ds : List S31, (∀ d ∈ ds, (-8192 ≤ d.f0 ∧ d.f0 ≤ 8192) ∧ -8192 ≤ d.f1 ∧ d.f1 ≤ 8192) → ((∃ d ∈ ds, Apt d.f0 d.f1 P Q) ∨ Common P Q) → ∃ t, Ev (fun k => sepL k P Q ds) t ∧ SepV P Q t
  | [], _, h => by
    obtain ⟨t, ht, hc⟩ := common_ev hP hQ okP okQ lP lQ
    have hC : Common P Q := by
      rcases h with ⟨d, hd, _⟩ | h
      · simp at hd
      · exact h
    rcases hc with ⟨_, hn⟩ | ⟨X, Y, D, rfl, hb, i1, i2⟩
    · exact absurd hC hn
    · exact ⟨_, Ev.bind ht (Ev.now _), Or.inr ⟨X, Y, D, rfl, hb, i1, i2⟩⟩
  | d :: ds, hd, h => by
    have hb := hd d (by simp)
    obtain ⟨t, ht, hc⟩ := line_ev hb.1 hb.2 okP okQ hP.pos hQ.pos (by omega) (by omega)
    rcases hc with ⟨_, w, rfl, hw, h1, h2⟩ | ⟨hn, rfl⟩
    · exact ⟨_, Ev.bind ht (ev_pos rfl (Ev.now _)), Or.inl ⟨d.f0, d.f1, w, rfl, hb.1, hb.2, hw, h1, h2⟩⟩
    · have h' : (∃ d ∈ ds, Apt d.f0 d.f1 P Q) ∨ Common P Q := by
        rcases h with ⟨e, he, hA⟩ | h
        · rw [List.mem_cons] at he
          rcases he with rfl | he
          · exact absurd hA hn
          · exact Or.inl ⟨e, he, hA⟩
        · exact Or.inr h
      obtain ⟨t, ht2, hc2⟩ := sepL_ev ds (fun e he => hd e (by simp [he])) h'
      exact ⟨t, Ev.bind ht (ev_neg (by decide) ht2), hc2⟩
end
theorem dirs_bd {P Q : List S31} (okP : allOk P = true) (okQ : allOk Q = true) (p0 : 0 < P.length) (q0 : 0 < Q.length) : ∀ d ∈ dirM P Q 2, (-8192 ≤ d.f0 ∧ d.f0 ≤ 8192) ∧ -8192 ≤ d.f1 ∧ d.f1 ≤ 8192 := by
  have hE : ∀ l : List S31, allOk l = true → 0 < l.length → ∀ d ∈ dirE l l.length, (-8192 ≤ d.f0 ∧ d.f0 ≤ 8192) ∧ -8192 ≤ d.f1 ∧ d.f1 ≤ 8192 := by
    intro l hl h0 d hd
    unfold dirE at hd
    obtain ⟨i, hi, h⟩ := List.mem_flatMap.1 hd
    have hi := List.mem_range.1 hi
    have o1 := (okPt_iff _).1 (List.all_eq_true.1 hl _ (pt_mem l i hi))
    have o2 := (okPt_iff _).1 (List.all_eq_true.1 hl _ (pt_mem l ((i + 1) % l.length) (Nat.mod_lt _ h0)))
    have e0 : (edgeD l i).f0 = (pt l ((i + 1) % l.length)).f0 - (pt l i).f0 := rfl
    have e1 : (edgeD l i).f1 = (pt l ((i + 1) % l.length)).f1 - (pt l i).f1 := rfl
    unfold four at h
    simp only [List.mem_cons, List.not_mem_nil, or_false] at h
    rcases h with rfl | rfl | rfl | rfl <;> (simp only; omega)
  intro d hd
  unfold dirM at hd
  rw [if_pos (by omega), if_pos (by omega), List.mem_append, List.mem_append, List.mem_singleton] at hd
  rcases hd with (rfl | hd) | hd
  · have o1 := (okPt_iff _).1 (List.all_eq_true.1 okP _ (pt_mem P 0 p0))
    have o2 := (okPt_iff _).1 (List.all_eq_true.1 okQ _ (pt_mem Q 0 q0))
    simp only; omega
  · exact hE P okP p0 d hd
  · exact hE Q okQ q0 d hd
/-- the verdict about two sets is right -/
theorem separate_ev {a b : List S31} (ha : isSetB a = true) (hb : isSetB b = true) : ∃ t, Ev (fun k => plane_Separate.f k a b) t ∧ SepV (cornersS a) (cornersS b) t := by
  obtain ⟨⟨a1, a2⟩, a3⟩ := (isSetB_iff a).1 ha
  obtain ⟨⟨b1, b2⟩, b3⟩ := (isSetB_iff b).1 hb
  have hP := hull_self (corners_hull a a1)
  have hQ := hull_self (corners_hull b b1)
  have lP := cornersS_len a
  have lQ := cornersS_len b
  have okP := cornersS_ok a3
  have okQ := cornersS_ok b3
  obtain ⟨t, ht, hc⟩ := sepL_ev hP hQ okP okQ (by omega) (by omega) (dirM (cornersS a) (cornersS b) 2) (dirs_bd okP okQ hP.pos hQ.pos) (sep_or hP hQ)
  exact ⟨t, by unfold plane_Separate.f; exact ev_pos ⟨ha, hb⟩ ht, hc⟩
/-- it says that they meet if they have a common point -/
theorem sepV_meet {P Q : List S31} (hP : IsHull P P) (hQ : IsHull Q Q) {t : Bool × Int × Int × Int × Int × Int × Int × Int} (h : SepV P Q t) : t.2.2.2.2.2.2.2 = 0 ∧ (t.1 = true ↔ Common P Q) := by
  rcases h with ⟨u, v, w, rfl, _, _, _, h1, h2⟩ | ⟨X, Y, D, rfl, _, i1, i2⟩
  · refine ⟨rfl, fun h => by simp at h, fun hC => ?_⟩
    refine absurd hC (apt_common hP hQ (u := u) (v := v) (fun p hp q hq => ?_))
    have := h1 p hp; have := h2 q hq; omega
  · exact ⟨rfl, fun _ => ⟨X, Y, D, i1, i2⟩, fun _ => rfl⟩
end Go.Proofs.Ythaklbjcjoolcaa.P
namespace Go.Proofs.Ythaklbjcjoolcaa.P
open Go.RowKit Go.Proofs.YthaklbjcjoolcaaW.PrintWords Go.Proofs.YthaklbjcjoolcaaW.PrintLast
/-- Check's answer -/
def checkV (a b : List S31) (m : Bool) (x y d u v t : Int) : Int := if isSetB a = true ∧ isSetB b = true then (if rightB a b m x y d u v t = true then 0 else 10) else 2
theorem check_ev (a b : List S31) (m : Bool) (x y d u v t : Int) : Ev (fun k => plane_Check.f k a b m x y d u v t) (checkV a b m x y d u v t) := by
  unfold plane_Check.f checkV
  refine Ev.bind (ev_is (isSet_is a)) ?_
  by_cases ha : isSetB a = true
  · refine ev_pos ha (Ev.bind (ev_is (isSet_is b)) ?_)
    by_cases hb : isSetB b = true
    · rw [if_pos ⟨ha, hb⟩, hb]
      refine Ev.step (f := fun _ => (plane_right.f a b m x y d u v t).bind fun t451 => (if t451 = true then some 0 else some 10)) (fun k => by rw [plane_Check.j0, if_neg (by decide)]) ?_
      have hr : plane_right.f a b m x y d u v t = some (rightB a b m x y d u v t) := if_pos ⟨ha, hb⟩
      refine Ev.bind (ev_is hr) ?_
      by_cases h : rightB a b m x y d u v t = true
      · simp only [if_pos h]; exact Ev.now _
      · simp only [if_neg h]; exact Ev.now _
    · rw [if_neg (fun h => hb h.2)]
      rw [Bool.not_eq_true] at hb
      rw [hb]
      exact Ev.step (f := fun _ => some 2) (fun k => by rw [plane_Check.j0, if_pos (by decide)]) (Ev.now _)
  · rw [if_neg (fun h => ha h.1)]
    exact ev_neg ha (Ev.step (f := fun _ => some 2) (fun k => by rw [plane_Check.j0, if_pos (by decide)]) (Ev.now _))
end Go.Proofs.Ythaklbjcjoolcaa.P
namespace Go.Proofs.Ythaklbjcjoolcaa.P
open Go.RowKit Go.Proofs.YthaklbjcjoolcaaW.PrintWords Go.Proofs.YthaklbjcjoolcaaW.PrintLast Go.Proofs.YthaklbjcjoolcaaW.PrintMore
attribute [local go_sem] max2_int min2_int max_two min_two max_three min_three max_four min_four   -- for this text's walks alone

/-! ### plane_Hull: function 32 -/
def plane_Hull.f (l0 : List (S31)) : Option ((List (S31)) × Int) := (plane_isSet.f l0).bind fun t302 => (if t302 = true then ((plane_corners.f l0).bind fun t303 => (some (t303, 0))) else (some (([] : List (S31)), 2)))
set_option maxHeartbeats 8000000 in
set_option maxRecDepth 100000 in
theorem plane_Hull.calls (A0 : Option Addr) (c0 : Nat) (l0 : List (S31)) (r1 : List (S31)) (r2 : Int) (w : World) (hr0 : Kd.C k31 w A0 l0.length l0) (hc0 : l0.length ≤ c0) (h : plane_Hull.f l0 = some (r1, r2)) :
  Calls Try.prog 32 #[.slice A0 l0.length c0] w fun e w' => ∃ v0_ : Value, e = .returned (.tuple #[v0_, .int .i64 r2]) ∧ Kd.R k31 31 w' w.heap.size (fun _ => True) v0_ r1 ∧ Below w.heap.size w w' := by
 have HR0 := Aside0.mk hr0
 have HC0 := Aside0.mk hc0
 clear hr0 hc0
 have HB := Aside0.mk (Below.refl w.heap.size w)
 have H : ((plane_isSet.f l0).bind fun t302 => (if t302 = true then ((plane_corners.f l0).bind fun t303 => (some (t303, 0))) else (some (([] : List (S31)), 2)))) = some (r1, r2) := h
 clear h
 replace H := Option.bind_eq_some_iff.mp H
 obtain ⟨t302, A20, H⟩ := H
 replace H : (if t302 = true then ((plane_corners.f l0).bind fun t303 => (some (t303, 0))) else (some (([] : List (S31)), 2))) = some (r1, r2) := H
 have A2 := Aside0.mk A20
 clear A20
 by_cases c3 : t302 = true
 ·subst c3
  have H1 : ((plane_corners.f l0).bind fun t303 => (some (t303, 0))) = some (r1, r2) := by rw [if_pos rfl] at H; exact H
  clear H
  have H := H1
  clear H1
  replace H := Option.bind_eq_some_iff.mp H
  obtain ⟨t303, A40, H⟩ := H
  replace H : (some (t303, 0)) = some (r1, r2) := H
  have A4 := Aside0.mk A40
  clear A40
  simp only [Option.some.injEq, Prod.mk.injEq] at H
  obtain ⟨rfl, rfl⟩ := H
  go_enter Try.func32, Try.ntmps32
  go_wp2_with (first | ((with_reducible refine gate_callee (f := 55) rfl ?_); refine goesL_ (some 5) rfl rfl Try.func55 (by kernel_rfl) rfl #[.slice A0 l0.length c0] rfl (by (try simp only [List.map_toArray, List.map_cons, List.map_nil]); first | done | rfl | (simp only [List.length_drop, List.length_take]; rfl)) ?_; (with_reducible refine (plane_isSet.calls _ _ l0 true _ ?side1 ?side2 A2.out).mono ?_); (case side1 => repeat (first | exact HR0.out | (with_reducible refine Kd.C_alloc ?_ _) | (with_reducible refine Kd.C_drewN ?_ _) | (with_reducible refine Kd.C_drew ?_))); (case side2 => exact HC0.out); rintro e w5 ⟨rfl, hb⟩; refine ⟨_, rfl, ?_⟩; have n0_ := Aside0.mk (below_step lB hb); clear HB; have HB := n0_; clear n0_; (try clear hb); (try clear hb2); (try clear hk); (try clear hi)) | ((with_reducible refine gate_callee (f := 64) rfl ?_); refine goesL_ (some 8) rfl rfl Try.func64 (by kernel_rfl) rfl #[.slice A0 l0.length c0] rfl (by (try simp only [List.map_toArray, List.map_cons, List.map_nil]); first | done | rfl | (simp only [List.length_drop, List.length_take]; rfl)) ?_; (with_reducible refine (plane_corners.calls _ _ l0 t303 _ ?side1 ?side2 A4.out).mono ?_); (case side1 => repeat (first | exact (Kd.C_below HR0.out HB.out) | (with_reducible refine Kd.C_alloc ?_ _) | (with_reducible refine Kd.C_drewN ?_ _) | (with_reducible refine Kd.C_drew ?_))); (case side2 => exact HC0.out); rintro e w6 ⟨v304, rfl, ho0, hb⟩; refine ⟨_, rfl, ?_⟩; have n0_ := Aside0.mk (Kd.R_lower ho0 (below_size lB)); have n1_ := Aside0.mk (below_step lB hb); clear HB; have HO305 := n0_; have HB := n1_; clear n0_ n1_; (try clear hb); (try clear hb2); (try clear hk); (try clear hi); (try clear ho0)))
  go_ret2
  exact ⟨_, by first | rfl | (simp [errW_none, errW_some] <;> rfl) | (simp [*, errW_none, errW_some] <;> rfl), by (with_reducible repeat (first | apply Kd.R_alloc | apply Kd.R_drewN | apply Kd.R_drew)); exact HO305.out, lB⟩
 replace c3 := Bool.eq_false_iff.mpr c3
 subst c3
 have H1 : (some (([] : List (S31)), 2)) = some (r1, r2) := by rw [if_neg (show ¬ (false = true) by decide)] at H; exact H
 clear H
 have H := H1
 clear H1
 simp only [Option.some.injEq, Prod.mk.injEq] at H
 obtain ⟨rfl, rfl⟩ := H
 go_enter Try.func32, Try.ntmps32
 go_wp2_with (first | ((with_reducible refine gate_callee (f := 55) rfl ?_); refine goesL_ (some 5) rfl rfl Try.func55 (by kernel_rfl) rfl #[.slice A0 l0.length c0] rfl (by (try simp only [List.map_toArray, List.map_cons, List.map_nil]); first | done | rfl | (simp only [List.length_drop, List.length_take]; rfl)) ?_; (with_reducible refine (plane_isSet.calls _ _ l0 false _ ?side1 ?side2 A2.out).mono ?_); (case side1 => repeat (first | exact HR0.out | (with_reducible refine Kd.C_alloc ?_ _) | (with_reducible refine Kd.C_drewN ?_ _) | (with_reducible refine Kd.C_drew ?_))); (case side2 => exact HC0.out); rintro e w7 ⟨rfl, hb⟩; refine ⟨_, rfl, ?_⟩; have n0_ := Aside0.mk (below_step lB hb); clear HB; have HB := n0_; clear n0_; (try clear hb); (try clear hb2); (try clear hk); (try clear hi)))
 go_ret2
 exact ⟨_, by first | rfl | (simp [errW_none, errW_some] <;> rfl) | (simp [*, errW_none, errW_some] <;> rfl), by first | exact Kd.R_nil _ _ _ _ _ | exact Kd.N_nil _ _ _ _ _ | exact Kd.V_nil _ _ _ _ _ | exact Kd.Q_nil _ _ _ _ _ | exact Kd.S_nil _ _ _ _ _, lB⟩

end Go.Proofs.Ythaklbjcjoolcaa.P
