/- Proved here: what functions that the law reaches compute, and plain laws of that. -/
import Derived.Test.YtmnhcbaocoofoaaDoorBQ13
import Derived.Deep.Cut
import Derived.Test.YtmnhcbaocoofoaaDoorBQ11
import Derived.Deep.DeepMust
import Derived.IntWalk
import Derived.BigQuiet
import Derived.Test.YtmnhcbaocoofoaaDoorBQ12
set_option linter.unusedVariables false
set_option linter.unusedSimpArgs false
namespace Go.Proofs.YtmnhcbaocoofoaaDoor.P
variable {z : Nat}
open Go.RowKit YtmnhcbaocoofoaaDoorW.PrintWords YtmnhcbaocoofoaaDoorW.PrintLast YtmnhcbaocoofoaaDoorW.PrintMore
open Go.Sort (swp SWO PermIn SortedIn Ins)
def symR.T5 : Bool × List (List Nat × List Nat) := (true, [([], []), ([], []), ([], []), ([1, 2], [1, 2]), ([3], [3]), ([], []), ([], []), ([5, 6], [5, 6]), ([7], [7]), ([0, 4, 8], [0, 4, 8]), ([9], [9])])
def symR.B5 : List Nat := [0, 0, 0, 6, 14, 0, 0, 96, 224, 511, 1023]
theorem symR.tab5 : rtab .any (opsOf Tryd.f91 5) = symR.T5 := by kernel_rfl
theorem symR.bits5 : waitsOk symR.T5.2 symR.B5 = true := by kernel_rfl
def symR.T11 : Bool × List (List Nat × List Nat) := (true, [([], []), ([], []), ([], []), ([], []), ([3], [3]), ([], []), ([], []), ([6], [6]), ([5, 7], [5, 7]), ([8], [8]), ([], []), ([], []), ([10, 11], [10, 11]), ([12], [12]), ([0, 1, 0, 1, 5, 6, 7, 8, 9, 13], [0, 1]), ([14, 9, 0, 1, 5, 6, 7, 8, 9, 13], [9, 14]), ([2, 4, 0, 1, 2, 3, 4, 5, 6, 7, 8, 9, 10, 11, 12, 13, 14, 15], [2, 4]), ([16, 13, 15, 0, 1, 2, 3, 4, 5, 6, 7, 8, 9, 10, 11, 12, 13, 14, 15], [13, 16])])
def symR.B11 : List Nat := [0, 0, 0, 0, 8, 0, 0, 64, 224, 480, 0, 0, 3072, 7168, 16355, 32739, 65535, 131071]
theorem symR.tab11 : rtab .any (opsOf Tryd.f91 11) = symR.T11 := by kernel_rfl
theorem symR.bits11 : waitsOk symR.T11.2 symR.B11 = true := by kernel_rfl
set_option maxHeartbeats 4000000 in
set_option maxRecDepth 100000 in
theorem sym_one (B g n c a m b : Nat) (cv : Value) (lt : S50 → S50 → Bool) (hS : SWO lt) (d : Array S50) (w0 w : World) (hcv : CmpOk B w0 cv lt) (hd : SlA z w g d) (hn : d.size = n) (hnc : n ≤ c) (hB : Below B w0 w) (hBw : B ≤ w0.heap.size) (hg : B ≤ g) (hm : m = a + 1) (hmb : m < b) (hbn : b ≤ n) (hN : n ≤ 1000000)
    (hs : SortedIn lt m b d) :
    Calls Tryd.prog 91 #[.slice (some ⟨g, 0, none⟩) n c, .int .i64 (a : Int), .int .i64 (m : Int), .int .i64 (b : Int), cv] w fun e w' => e = .returned (.tuple #[]) ∧
      (∃ d', SlA z w' g d' ∧ PermIn a b d d' ∧ SortedIn lt a b d') ∧ Below B w0 w' := by
  have HF := Aside0.mk (show m = a + 1 ∧ m < b ∧ b ≤ n ∧ n ≤ 1000000 ∧ d.size = n ∧ n ≤ c from ⟨hm, hmb, hbn, hN, hn, hnc⟩)
  have HG := Aside0.mk hg
  have HCV := Aside0.mk hcv
  have HS := Aside0.mk hS
  have HBW := Aside0.mk hBw
  have HSO := Aside0.mk (show SortedIn lt (a + 1) b d from by rw [← hm]; exact hs)
  have HD0 := Aside0.mk hd
  have HB0 := Aside0.mk hB
  have HU0 : Aside0 (Ben.Up1 lt d a b m b) := ⟨⟨fun p h1 h2 => by omega, fun p h1 h2 => by omega⟩⟩
  have ha1 : ((a : Nat) : Int) ≤ 1000000 := by omega
  have hb1 : ((b : Nat) : Int) ≤ 1000000 := by omega
  have hm1 : ((m : Nat) : Int) ≤ 1000000 := by omega
  have hma : ((m : Nat) : Int) - ((a : Nat) : Int) = 1 := by omega
  clear hd hn hB hg hm hmb hbn hN hnc hcv hS hBw hs
  go_enter Tryd.func91, Tryd.ntmps91
  go_wp2
  clear hma hb1 hm1
  go_loopg [10, 11] b (fun f v10 v11 wr => ∃ i j : Nat, v10 = .int .i64 ((i : Nat) : Int) ∧ v11 = .int .i64 ((j : Nat) : Int) ∧ Aside0 (m ≤ i ∧ i ≤ j ∧ j ≤ b ∧ j ≤ i + f) ∧ Aside0 (Ben.Up1 lt d a b i j) ∧ Aside0 (SlA z wr g d) ∧ Aside0 (Below B w0 wr))
  case atStart => exact ⟨m, b, rfl, rfl, ⟨by have := HF.out; omega⟩, HU0, HD0, HB0⟩
  case round =>
    obtain ⟨i, j, rfl, rfl, HI, HU, HD, HB⟩ := hrel
    clear HU0 HD0 HB0
    have hi1 : ((i : Nat) : Int) ≤ 1000000 := by have := HI.out; have := HF.out; omega
    have hj1 : ((j : Nat) : Int) ≤ 1000000 := by have := HI.out; have := HF.out; omega
    by_cases hij : i < j
    · obtain ⟨f, rfl⟩ : ∃ q, gk = q + 1 := ⟨gk - 1, by have := HI.out; omega⟩
      have hijI : ((i : Nat) : Int) < ((j : Nat) : Int) := by omega
      obtain ⟨x, hx⟩ : ∃ x, x = (i + j) / 2 := ⟨_, rfl⟩
      have hh : (((i : Nat) : Int) + ((j : Nat) : Int)) / 2 = ((x : Nat) : Int) := by omega
      have HXI := Aside0.mk (show i ≤ x ∧ x < j from by omega)
      obtain ⟨y, hy⟩ : ∃ y, y = a := ⟨_, rfl⟩
      have HYA := Aside0.mk hy
      have HX := Aside0.mk (show x < d.size ∧ y < d.size from by have := HXI.out; have := HI.out; have := HF.out; omega)
      have hx1 : ((x : Nat) : Int) ≤ 1000000 := by have := HX.out; have := HF.out; omega
      have hxI : ((x : Nat) : Int) < ((n : Nat) : Int) := by have := HX.out; have := HF.out; omega
      have hyI : ((a : Nat) : Int) < ((n : Nat) : Int) := by have := HX.out; have := HF.out; omega
      have HDD := Aside0.mk (show SlA z wr.drew g d from HD.out)
      have HBD := Aside0.mk (below_drew HB.out)
      obtain ⟨x0, x1, x2, x3, xf⟩ := HDD.out.at HX.out.1
      obtain ⟨y0, y1, y2, y3, _⟩ := HDD.out.at HX.out.2
      obtain ⟨px, hpx⟩ : ∃ p, p = d[x]! := ⟨_, rfl⟩
      obtain ⟨py, hpy⟩ : ∃ p, p = d[y]! := ⟨_, rfl⟩
      rw [← hpx] at x0 x1 x2 x3
      rw [← hpy] at y0 y1 y2 y3
      rw [hy] at y0 y1 y2 y3
      have HPX := Aside0.mk hpx
      have HPY := Aside0.mk hpy
      have HIJ := Aside0.mk hij
      clear hx hy hpx hpy hij xf HD HB
      cases hl : lt px py with
      | true =>
        have HL := Aside0.mk hl
        have HU2 : Aside0 (Ben.Up1 lt d a b (x + 1) j) := ⟨HU.out.yes HS.out HSO.out (by have := HXI.out; have := HI.out; omega) (by have := HXI.out; have := HI.out; have := HF.out; omega) (by rw [← HPX.out, ← HYA.out, ← HPY.out]; exact HL.out)⟩
        clear hl
        go_wp2
        refine start_ (n := 11) (S := fun w' => w'.cell? ⟨g, x * 4, none⟩ = some (.int .i64 px.f0) ∧ w'.cell? ⟨g, x * 4 + 1, none⟩ = some (.int .i64 px.f1) ∧ w'.cell? ⟨g, x * 4 + 2, none⟩ = some (.int .i64 px.f2) ∧ w'.cell? ⟨g, x * 4 + 3, none⟩ = some (.int .i64 px.f3) ∧ w'.cell? ⟨g, a * 4, none⟩ = some (.int .i64 py.f0) ∧ w'.cell? ⟨g, a * 4 + 1, none⟩ = some (.int .i64 py.f1) ∧ w'.cell? ⟨g, a * 4 + 2, none⟩ = some (.int .i64 py.f2) ∧ w'.cell? ⟨g, a * 4 + 3, none⟩ = some (.int .i64 py.f3)) (ds := [9]) (Bs 0 11) (by kernel_rfl) rfl rfl ⟨x0, x1, x2, x3, y0, y1, y2, y3⟩ (fun hHeld => ?_)
        generalize wr.drew = w4 at HDD HBD x0 x1 x2 x3 y0 y1 y2 y3 hHeld ⊢
        refine with_tabW symR.tab5 symR.bits5 (fun HT_ HW_ => ?_)
        refine pu 0 40 (Bs 1 11) HT_ ?_
        refine pu 1 41 (Bs 2 11) HT_ ?_
        refine pu 2 42 (Bs 3 11) HT_ ?_
        refine pu 3 43 (Bs 4 11) HT_ ?_
        refine pu 5 45 (Br [4,1,1,5]) HT_ ?_
        refine pu 6 46 (Br [4,1,2,4]) HT_ ?_
        refine pu 7 47 (Br [4,1,3,3]) HT_ ?_
        refine ta 4 44 (Bs 8 11) HT_ HW_ hHeld ?_
        refine ta 8 48 (Bs 9 11) HT_ HW_ hHeld ?_
        refine last_ (i := 9) (N := some 49) (Bs 10 11) rfl rfl (one_of HT_.out (by kernel_rfl)) (by decide) (fun K hK => ?_)
        refine cmp_step HCV.out HBD.out px py ?_
        intro r w5 hr hb5
        rw [HL.out] at hr
        have HD5 := Aside0.mk (HDD.out.below hb5)
        have HB5 := Aside0.mk (HBD.out.trans (hb5.mono (Nat.le_trans HBW.out HBD.out.size)))
        clear hb5
        refine hK.out _ _ ?_
        clear hK K
        refine nm 49 ?_
        refine pu 10 50 (Bs 11 11) HT_ ?_
        refine done_ (done_of HT_.out (by kernel_rfl)) ?_
        clear x0 x1 x2 x3 y0 y1 y2 y3 hHeld HDD HBD hh
        go_wp2
        go_roundg f
        case measure => exact Nat.lt_succ_self _
        case rel => exact ⟨x + 1, j, by go_num, rfl, ⟨by have := HXI.out; have := HI.out; omega⟩, HU2, HD5, HB5⟩
      | false =>
        have HL := Aside0.mk hl
        have HU2 : Aside0 (Ben.Up1 lt d a b i x) := ⟨HU.out.no HS.out HSO.out (by have := HXI.out; have := HI.out; omega) (by have := HXI.out; have := HI.out; have := HF.out; omega) (by rw [← HPX.out, ← HYA.out, ← HPY.out]; exact HL.out)⟩
        clear hl
        go_wp2
        refine start_ (n := 11) (S := fun w' => w'.cell? ⟨g, x * 4, none⟩ = some (.int .i64 px.f0) ∧ w'.cell? ⟨g, x * 4 + 1, none⟩ = some (.int .i64 px.f1) ∧ w'.cell? ⟨g, x * 4 + 2, none⟩ = some (.int .i64 px.f2) ∧ w'.cell? ⟨g, x * 4 + 3, none⟩ = some (.int .i64 px.f3) ∧ w'.cell? ⟨g, a * 4, none⟩ = some (.int .i64 py.f0) ∧ w'.cell? ⟨g, a * 4 + 1, none⟩ = some (.int .i64 py.f1) ∧ w'.cell? ⟨g, a * 4 + 2, none⟩ = some (.int .i64 py.f2) ∧ w'.cell? ⟨g, a * 4 + 3, none⟩ = some (.int .i64 py.f3)) (ds := [9]) (Bs 0 11) (by kernel_rfl) rfl rfl ⟨x0, x1, x2, x3, y0, y1, y2, y3⟩ (fun hHeld => ?_)
        generalize wr.drew = w4 at HDD HBD x0 x1 x2 x3 y0 y1 y2 y3 hHeld ⊢
        refine with_tabW symR.tab5 symR.bits5 (fun HT_ HW_ => ?_)
        refine pu 0 40 (Bs 1 11) HT_ ?_
        refine pu 1 41 (Bs 2 11) HT_ ?_
        refine pu 2 42 (Bs 3 11) HT_ ?_
        refine pu 3 43 (Bs 4 11) HT_ ?_
        refine pu 5 45 (Br [4,1,1,5]) HT_ ?_
        refine pu 6 46 (Br [4,1,2,4]) HT_ ?_
        refine pu 7 47 (Br [4,1,3,3]) HT_ ?_
        refine ta 4 44 (Bs 8 11) HT_ HW_ hHeld ?_
        refine ta 8 48 (Bs 9 11) HT_ HW_ hHeld ?_
        refine last_ (i := 9) (N := some 49) (Bs 10 11) rfl rfl (one_of HT_.out (by kernel_rfl)) (by decide) (fun K hK => ?_)
        refine cmp_step HCV.out HBD.out px py ?_
        intro r w5 hr hb5
        rw [HL.out] at hr
        have HD5 := Aside0.mk (HDD.out.below hb5)
        have HB5 := Aside0.mk (HBD.out.trans (hb5.mono (Nat.le_trans HBW.out HBD.out.size)))
        clear hb5
        refine hK.out _ _ ?_
        clear hK K
        refine nm 49 ?_
        refine pu 10 50 (Bs 11 11) HT_ ?_
        refine done_ (done_of HT_.out (by kernel_rfl)) ?_
        clear x0 x1 x2 x3 y0 y1 y2 y3 hHeld HDD HBD hh
        go_wp2
        go_roundg f
        case measure => exact Nat.lt_succ_self _
        case rel => exact ⟨i, x, rfl, rfl, ⟨by have := HXI.out; have := HI.out; omega⟩, HU2, HD5, HB5⟩
    · have hje : j = i := by have := HI.out; omega
      have hijI : ¬ ((i : Nat) : Int) < ((j : Nat) : Int) := by omega
      have HUE : Aside0 (Ben.Up1 lt d a b i i) := ⟨by have h := HU.out; rw [hje] at h; exact h⟩
      have HK0 : Aside0 (∃ d', SlA z wr g d' ∧ PermIn a b d d' ∧ Ben.Moved (Ben.upI a a) d d') := ⟨d, HD.out, Go.Sort.permIn_refl d a b, Ben.up_start a d⟩
      have HIE := Aside0.mk (show m ≤ i ∧ i ≤ b from by have := HI.out; omega)
      clear hij hje HU HD
      go_wp2
      clear hijI hj1
      go_loopg [13] b (fun f v13 wx => ∃ k : Nat, v13 = .int .i64 ((k : Nat) : Int) ∧ Aside0 (a ≤ k ∧ k ≤ i - 1 ∧ i ≤ k + 1 + f) ∧ Aside0 (∃ d', SlA z wx g d' ∧ PermIn a b d d' ∧ Ben.Moved (Ben.upI a k) d d') ∧ Aside0 (Below B w0 wx))
      case atStart => exact ⟨a, rfl, ⟨by have := HIE.out; have := HF.out; omega⟩, HK0, HB⟩
      case round =>
        obtain ⟨k, rfl, HK, HDK, HBK⟩ := hrel
        clear HK0
        have hk1 : ((k : Nat) : Int) ≤ 1000000 := by have := HK.out; have := HIE.out; have := HF.out; omega
        obtain ⟨dk, hdk, hpm, hmv⟩ := HDK.out
        have hsz : dk.size = n := hpm.1.trans HF.out.2.2.2.2.1
        by_cases hki : k < i - 1
        · obtain ⟨f, rfl⟩ : ∃ q, gk = q + 1 := ⟨gk - 1, by have := HK.out; omega⟩
          have hkI : ((k : Nat) : Int) < ((i : Nat) : Int) - 1 := by omega
          obtain ⟨x, hx⟩ : ∃ x, x = k := ⟨_, rfl⟩
          obtain ⟨y, hy⟩ : ∃ y, y = k + 1 := ⟨_, rfl⟩
          rw [← hx]
          rw [← hx] at hkI
          have HXK := Aside0.mk (show x = k ∧ y = x + 1 from by omega)
          have HX := Aside0.mk (show x < dk.size ∧ y < dk.size from by have := HIE.out; have := HF.out; omega)
          have hs1 : IntKind.i64.wrap (((x : Nat) : Int) + 1) = ((y : Nat) : Int) := by have := HX.out; have := HF.out; rw [IntWalk.i64_in _ (by omega)]; omega
          have HSX := Aside0.mk (show ((x : Nat) : Int) + 1 = ((y : Nat) : Int) from by omega)
          have hxI : ((x : Nat) : Int) < ((n : Nat) : Int) := by have := HX.out; omega
          have hx1 : ((x : Nat) : Int) ≤ 1000000 := by omega
          have hyI : ((y : Nat) : Int) < ((n : Nat) : Int) := by have := HX.out; omega
          have HDD := Aside0.mk (show SlA z wr.drew g dk from hdk)
          have HBD := Aside0.mk (below_drew HBK.out)
          obtain ⟨x0, x1, x2, x3, xf⟩ := HDD.out.at HX.out.1
          obtain ⟨y0, y1, y2, y3, _⟩ := HDD.out.at HX.out.2
          obtain ⟨px, hpx⟩ : ∃ p, p = dk[x]! := ⟨_, rfl⟩
          obtain ⟨py, hpy⟩ : ∃ p, p = dk[y]! := ⟨_, rfl⟩
          rw [← hpx] at x0 x1 x2 x3
          rw [← hpy] at y0 y1 y2 y3
          have HPX := Aside0.mk hpx
          have HPY := Aside0.mk hpy
          have HM1 : Aside0 (Ben.Moved (Ben.upI a (x + 1)) d (swp dk x y)) := ⟨by rw [HXK.out.2, HXK.out.1]; exact Ben.up_step (by have := HK.out; omega) (by have := HX.out; omega) hmv⟩
          have HP1 : Aside0 (PermIn a b d (swp dk x y)) := ⟨Go.Sort.permIn_trans _ _ _ _ _ hpm (Go.Sort.swp_permIn _ _ _ _ _ (by have := HK.out; omega) (by have := HIE.out; have := HF.out; omega) (by have := HK.out; omega) (by have := HIE.out; have := HF.out; omega) (by have := HF.out; omega))⟩
          have HKN : Aside0 (a ≤ y ∧ y ≤ i - 1 ∧ i ≤ y + 1 + f) := ⟨by have := HK.out; omega⟩
          clear hdk hpm hmv hsz hki hx hy hpx hpy xf HDK HBK
          go_wp2
          refine start_ (n := 18) (S := fun w' => w'.cell? ⟨g, x * 4, none⟩ = some (.int .i64 px.f0) ∧ w'.cell? ⟨g, x * 4 + 1, none⟩ = some (.int .i64 px.f1) ∧ w'.cell? ⟨g, x * 4 + 2, none⟩ = some (.int .i64 px.f2) ∧ w'.cell? ⟨g, x * 4 + 3, none⟩ = some (.int .i64 px.f3) ∧ w'.cell? ⟨g, y * 4, none⟩ = some (.int .i64 py.f0) ∧ w'.cell? ⟨g, y * 4 + 1, none⟩ = some (.int .i64 py.f1) ∧ w'.cell? ⟨g, y * 4 + 2, none⟩ = some (.int .i64 py.f2) ∧ w'.cell? ⟨g, y * 4 + 3, none⟩ = some (.int .i64 py.f3)) (ds := [15, 17]) (Bs 0 18) (by kernel_rfl) rfl rfl ⟨x0, x1, x2, x3, y0, y1, y2, y3⟩ (fun hHeld => ?_)
          generalize wr.drew = w4 at HDD HBD x0 x1 x2 x3 y0 y1 y2 y3 hHeld ⊢
          refine with_tabW symR.tab11 symR.bits11 (fun HT_ HW_ => ?_)
          refine pu 0 61 (Bs 1 18) HT_ ?_
          refine pu 1 62 (Bs 2 18) HT_ ?_
          refine pu 2 63 (Bs 3 18) HT_ ?_
          refine pu 3 64 (Bs 4 18) HT_ ?_
          refine pu 4 65 (Bs 5 18) HT_ ?_
          refine pu 5 66 (Bs 6 18) HT_ ?_
          refine pu 6 67 (Bs 7 18) HT_ ?_
          refine pu 7 68 (Bs 8 18) HT_ ?_
          refine pu 8 69 (Bs 9 18) HT_ ?_
          refine pu 10 71 (Br [9,1,1,7]) HT_ ?_
          refine pu 11 72 (Br [9,1,2,6]) HT_ ?_
          refine pu 12 73 (Br [9,1,3,5]) HT_ ?_
          refine ta 9 70 (Bs 13 18) HT_ HW_ hHeld ?_
          refine ta 13 74 (Bs 14 18) HT_ HW_ hHeld ?_
          refine pu 14 75 (Bs 15 18) HT_ ?_
          refine last_ (i := 15) (N := none) (Bs 16 18) rfl rfl (one_of HT_.out (by kernel_rfl)) (by decide) (fun K hK => ?_)
          have HS1 := Aside0.mk (HDD.out.put HX.out.1 py)
          refine skip_ (by rfl) rfl (st50_run (g := g) (k := x) (s := py) rfl rfl rfl HDD.out HX.out.1) ?_
          refine hK.out _ _ ?_
          clear hK K
          refine pu 16 76 (Bs 17 18) HT_ ?_
          refine last_ (i := 17) (N := none) (Bs 18 18) rfl rfl (one_of HT_.out (by kernel_rfl)) (by decide) (fun K hK => ?_)
          have HS2 := Aside0.mk (HS1.out.put (k := y) (by rw [Array.size_setIfInBounds]; exact HX.out.2) px)
          refine skip_ (by rfl) rfl (st50_run (g := g) (k := y) (s := px) rfl rfl rfl HS1.out (by rw [Array.size_setIfInBounds]; exact HX.out.2)) ?_
          have HB5 := Aside0.mk (put4_below (put4_below HBD.out HG.out x py) HG.out y px)
          generalize put4 (put4 w4 g x py) g y px = w5 at HS2 HB5 ⊢
          refine hK.out _ _ ?_
          clear hK K
          refine done_ (done_of HT_.out (by kernel_rfl)) ?_
          have HD5 : Aside0 (SlA z w5 g (swp dk x y)) := ⟨by have h := HS2.out; rw [HPX.out, HPY.out] at h; exact h⟩
          clear x0 x1 x2 x3 y0 y1 y2 y3 hHeld HDD HBD hs1
          go_wp2
          go_roundg f
          case measure => exact Nat.lt_succ_self _
          case rel => exact ⟨y, by first | rfl | rw [HSX.out], HKN, ⟨_, HD5.out, HP1.out, by have h := HM1.out; rw [← HXK.out.2] at h; exact h⟩, HB5⟩
        · have hkI : ¬ ((k : Nat) : Int) < ((i : Nat) : Int) - 1 := by have := HIE.out; have := HF.out; omega
          have hke : k = i - 1 := by have := HK.out; omega
          have HE : Aside0 (PermIn a b d dk ∧ SortedIn lt a b dk) := ⟨hpm, Ben.sorted_up HS.out HSO.out (by have := HIE.out; have := HF.out; omega) HIE.out.2 HUE.out.lo HUE.out.hi (by rw [← hke]; exact hmv)⟩
          have HDE := Aside0.mk hdk
          clear hdk hpm hmv hsz hki hke
          go_wp2
          (try simp only [Exit.inBlock, Exit.then]); refine bodyPost_ret (results_none rfl _ _ _) rfl ?_
          exact ⟨rfl, ⟨_, HDE.out, HE.out⟩, HBK.out⟩
variable {z : Nat}
open Go.RowKit YtmnhcbaocoofoaaDoorW.PrintWords YtmnhcbaocoofoaaDoorW.PrintLast YtmnhcbaocoofoaaDoorW.PrintMore
open Go.Sort (swp SWO PermIn SortedIn Ins)
def symQ.T17 : Bool × List (List Nat × List Nat) := (true, [([], []), ([], []), ([], []), ([1, 2], [1, 2]), ([3], [3]), ([], []), ([], []), ([5, 6], [5, 6]), ([7], [7]), ([0, 4, 8], [0, 4, 8]), ([9], [9]), ([10], [10])])
def symQ.B17 : List Nat := [0, 0, 0, 6, 14, 0, 0, 96, 224, 511, 1023, 2047]
theorem symQ.tab17 : rtab .any (opsOf Tryd.f91 17) = symQ.T17 := by kernel_rfl
theorem symQ.bits17 : waitsOk symQ.T17.2 symQ.B17 = true := by kernel_rfl
def symQ.T23 : Bool × List (List Nat × List Nat) := (true, [([], []), ([], []), ([], []), ([], []), ([3], [3]), ([], []), ([], []), ([6], [6]), ([5, 7], [5, 7]), ([8], [8]), ([], []), ([], []), ([10, 11], [10, 11]), ([12], [12]), ([0, 1, 0, 1, 5, 6, 7, 8, 9, 13], [0, 1]), ([14, 9, 0, 1, 5, 6, 7, 8, 9, 13], [9, 14]), ([2, 4, 0, 1, 2, 3, 4, 5, 6, 7, 8, 9, 10, 11, 12, 13, 14, 15], [2, 4]), ([16, 13, 15, 0, 1, 2, 3, 4, 5, 6, 7, 8, 9, 10, 11, 12, 13, 14, 15], [13, 16])])
def symQ.B23 : List Nat := [0, 0, 0, 0, 8, 0, 0, 64, 224, 480, 0, 0, 3072, 7168, 16355, 32739, 65535, 131071]
theorem symQ.tab23 : rtab .any (opsOf Tryd.f91 23) = symQ.T23 := by kernel_rfl
theorem symQ.bits23 : waitsOk symQ.T23.2 symQ.B23 = true := by kernel_rfl
set_option maxHeartbeats 4000000 in
set_option maxRecDepth 100000 in
theorem sym_two (B g n c a m b : Nat) (cv : Value) (lt : S50 → S50 → Bool) (hS : SWO lt) (d : Array S50) (w0 w : World) (hcv : CmpOk B w0 cv lt) (hd : SlA z w g d) (hn : d.size = n) (hnc : n ≤ c) (hB : Below B w0 w) (hBw : B ≤ w0.heap.size) (hg : B ≤ g) (hm : b = m + 1) (ham : a + 1 < m) (hbn : b ≤ n) (hN : n ≤ 1000000)
    (hs : SortedIn lt a m d) :
    Calls Tryd.prog 91 #[.slice (some ⟨g, 0, none⟩) n c, .int .i64 (a : Int), .int .i64 (m : Int), .int .i64 (b : Int), cv] w fun e w' => e = .returned (.tuple #[]) ∧
      (∃ d', SlA z w' g d' ∧ PermIn a b d d' ∧ SortedIn lt a b d') ∧ Below B w0 w' := by
  have HF := Aside0.mk (show b = m + 1 ∧ a + 1 < m ∧ b ≤ n ∧ n ≤ 1000000 ∧ d.size = n ∧ n ≤ c from ⟨hm, ham, hbn, hN, hn, hnc⟩)
  have HG := Aside0.mk hg
  have HCV := Aside0.mk hcv
  have HS := Aside0.mk hS
  have HBW := Aside0.mk hBw
  have HSO := Aside0.mk hs
  have HD0 := Aside0.mk hd
  have HB0 := Aside0.mk hB
  have HU0 : Aside0 (Ben.Dn1 lt d a m a m) := ⟨⟨fun p h1 h2 => by omega, fun p h1 h2 => by omega⟩⟩
  have ha1 : ((a : Nat) : Int) ≤ 1000000 := by omega
  have hb1 : ((b : Nat) : Int) ≤ 1000000 := by omega
  have hm1 : ((m : Nat) : Int) ≤ 1000000 := by omega
  have hma : (((m : Nat) : Int) - ((a : Nat) : Int) == 1) = false := by rw [beq_eq_false_iff_ne]; omega
  have hbm : ((b : Nat) : Int) - ((m : Nat) : Int) = 1 := by omega
  clear hd hn hB hg hm ham hbn hN hnc hcv hS hBw hs
  go_enter Tryd.func91, Tryd.ntmps91
  go_wp2
  clear hma hbm ha1 hb1 hm1
  go_loopg [14, 15] m (fun f v10 v11 wr => ∃ i j : Nat, v10 = .int .i64 ((i : Nat) : Int) ∧ v11 = .int .i64 ((j : Nat) : Int) ∧ Aside0 (a ≤ i ∧ i ≤ j ∧ j ≤ m ∧ j ≤ i + f) ∧ Aside0 (Ben.Dn1 lt d a m i j) ∧ Aside0 (SlA z wr g d) ∧ Aside0 (Below B w0 wr))
  case atStart => exact ⟨a, m, rfl, rfl, ⟨by have := HF.out; omega⟩, HU0, HD0, HB0⟩
  case round =>
    obtain ⟨i, j, rfl, rfl, HI, HU, HD, HB⟩ := hrel
    clear HU0 HD0 HB0
    have hi1 : ((i : Nat) : Int) ≤ 1000000 := by have := HI.out; have := HF.out; omega
    have hj1 : ((j : Nat) : Int) ≤ 1000000 := by have := HI.out; have := HF.out; omega
    by_cases hij : i < j
    · obtain ⟨f, rfl⟩ : ∃ q, gk = q + 1 := ⟨gk - 1, by have := HI.out; omega⟩
      have hijI : ((i : Nat) : Int) < ((j : Nat) : Int) := by omega
      obtain ⟨x, hx⟩ : ∃ x, x = (i + j) / 2 := ⟨_, rfl⟩
      have hh : (((i : Nat) : Int) + ((j : Nat) : Int)) / 2 = ((x : Nat) : Int) := by omega
      have HXI := Aside0.mk (show i ≤ x ∧ x < j from by omega)
      obtain ⟨y, hy⟩ : ∃ y, y = m := ⟨_, rfl⟩
      have HYA := Aside0.mk hy
      have HX := Aside0.mk (show x < d.size ∧ y < d.size from by have := HXI.out; have := HI.out; have := HF.out; omega)
      have hx1 : ((x : Nat) : Int) ≤ 1000000 := by have := HX.out; have := HF.out; omega
      have hxI : ((x : Nat) : Int) < ((n : Nat) : Int) := by have := HX.out; have := HF.out; omega
      have hyI : ((m : Nat) : Int) < ((n : Nat) : Int) := by have := HX.out; have := HF.out; omega
      have HDD := Aside0.mk (show SlA z wr.drew g d from HD.out)
      have HBD := Aside0.mk (below_drew HB.out)
      obtain ⟨x0, x1, x2, x3, xf⟩ := HDD.out.at HX.out.1
      obtain ⟨y0, y1, y2, y3, _⟩ := HDD.out.at HX.out.2
      obtain ⟨px, hpx⟩ : ∃ p, p = d[x]! := ⟨_, rfl⟩
      obtain ⟨py, hpy⟩ : ∃ p, p = d[y]! := ⟨_, rfl⟩
      rw [← hpx] at x0 x1 x2 x3
      rw [← hpy] at y0 y1 y2 y3
      rw [hy] at y0 y1 y2 y3
      have HPX := Aside0.mk hpx
      have HPY := Aside0.mk hpy
      clear hx hy hpx hpy hij xf HD HB
      cases hl : lt py px with
      | true =>
        have HL := Aside0.mk hl
        have HU2 : Aside0 (Ben.Dn1 lt d a m i x) := ⟨HU.out.no HS.out HSO.out (by have := HXI.out; have := HI.out; omega) (by rw [← HPX.out, ← HYA.out, ← HPY.out]; exact HL.out)⟩
        clear hl
        go_wp2
        refine start_ (n := 12) (S := fun w' => w'.cell? ⟨g, x * 4, none⟩ = some (.int .i64 px.f0) ∧ w'.cell? ⟨g, x * 4 + 1, none⟩ = some (.int .i64 px.f1) ∧ w'.cell? ⟨g, x * 4 + 2, none⟩ = some (.int .i64 px.f2) ∧ w'.cell? ⟨g, x * 4 + 3, none⟩ = some (.int .i64 px.f3) ∧ w'.cell? ⟨g, m * 4, none⟩ = some (.int .i64 py.f0) ∧ w'.cell? ⟨g, m * 4 + 1, none⟩ = some (.int .i64 py.f1) ∧ w'.cell? ⟨g, m * 4 + 2, none⟩ = some (.int .i64 py.f2) ∧ w'.cell? ⟨g, m * 4 + 3, none⟩ = some (.int .i64 py.f3)) (ds := [9]) (Bs 0 12) (by kernel_rfl) rfl rfl ⟨x0, x1, x2, x3, y0, y1, y2, y3⟩ (fun hHeld => ?_)
        generalize wr.drew = w4 at HDD HBD x0 x1 x2 x3 y0 y1 y2 y3 hHeld ⊢
        refine with_tabW symQ.tab17 symQ.bits17 (fun HT_ HW_ => ?_)
        refine pu 0 92 (Bs 1 12) HT_ ?_
        refine pu 1 93 (Bs 2 12) HT_ ?_
        refine pu 2 94 (Bs 3 12) HT_ ?_
        refine pu 3 95 (Bs 4 12) HT_ ?_
        refine pu 5 97 (Br [4,1,1,6]) HT_ ?_
        refine pu 6 98 (Br [4,1,2,5]) HT_ ?_
        refine pu 7 99 (Br [4,1,3,4]) HT_ ?_
        refine ta 4 96 (Bs 8 12) HT_ HW_ hHeld ?_
        refine ta 8 100 (Bs 9 12) HT_ HW_ hHeld ?_
        refine last_ (i := 9) (N := some 101) (Bs 10 12) rfl rfl (one_of HT_.out (by kernel_rfl)) (by decide) (fun K hK => ?_)
        refine cmp_step HCV.out HBD.out py px ?_
        intro r w5 hr hb5
        rw [HL.out] at hr
        have HD5 := Aside0.mk (HDD.out.below hb5)
        have HB5 := Aside0.mk (HBD.out.trans (hb5.mono (Nat.le_trans HBW.out HBD.out.size)))
        clear hb5
        refine hK.out _ _ ?_
        clear hK K
        refine nm 101 ?_
        refine pu 10 102 (Bs 11 12) HT_ ?_
        refine pu 11 103 (Bs 12 12) HT_ ?_
        refine done_ (done_of HT_.out (by kernel_rfl)) ?_
        clear x0 x1 x2 x3 y0 y1 y2 y3 hHeld HDD HBD hh
        go_wp2
        go_roundg f
        case measure => exact Nat.lt_succ_self _
        case rel => exact ⟨i, x, rfl, rfl, ⟨by have := HXI.out; have := HI.out; omega⟩, HU2, HD5, HB5⟩
      | false =>
        have HL := Aside0.mk hl
        have HU2 : Aside0 (Ben.Dn1 lt d a m (x + 1) j) := ⟨HU.out.yes HS.out HSO.out (by have := HXI.out; have := HI.out; omega) (by rw [← HPX.out, ← HYA.out, ← HPY.out]; exact HL.out)⟩
        clear hl
        go_wp2
        refine start_ (n := 12) (S := fun w' => w'.cell? ⟨g, x * 4, none⟩ = some (.int .i64 px.f0) ∧ w'.cell? ⟨g, x * 4 + 1, none⟩ = some (.int .i64 px.f1) ∧ w'.cell? ⟨g, x * 4 + 2, none⟩ = some (.int .i64 px.f2) ∧ w'.cell? ⟨g, x * 4 + 3, none⟩ = some (.int .i64 px.f3) ∧ w'.cell? ⟨g, m * 4, none⟩ = some (.int .i64 py.f0) ∧ w'.cell? ⟨g, m * 4 + 1, none⟩ = some (.int .i64 py.f1) ∧ w'.cell? ⟨g, m * 4 + 2, none⟩ = some (.int .i64 py.f2) ∧ w'.cell? ⟨g, m * 4 + 3, none⟩ = some (.int .i64 py.f3)) (ds := [9]) (Bs 0 12) (by kernel_rfl) rfl rfl ⟨x0, x1, x2, x3, y0, y1, y2, y3⟩ (fun hHeld => ?_)
        generalize wr.drew = w4 at HDD HBD x0 x1 x2 x3 y0 y1 y2 y3 hHeld ⊢
        refine with_tabW symQ.tab17 symQ.bits17 (fun HT_ HW_ => ?_)
        refine pu 0 92 (Bs 1 12) HT_ ?_
        refine pu 1 93 (Bs 2 12) HT_ ?_
        refine pu 2 94 (Bs 3 12) HT_ ?_
        refine pu 3 95 (Bs 4 12) HT_ ?_
        refine pu 5 97 (Br [4,1,1,6]) HT_ ?_
        refine pu 6 98 (Br [4,1,2,5]) HT_ ?_
        refine pu 7 99 (Br [4,1,3,4]) HT_ ?_
        refine ta 4 96 (Bs 8 12) HT_ HW_ hHeld ?_
        refine ta 8 100 (Bs 9 12) HT_ HW_ hHeld ?_
        refine last_ (i := 9) (N := some 101) (Bs 10 12) rfl rfl (one_of HT_.out (by kernel_rfl)) (by decide) (fun K hK => ?_)
        refine cmp_step HCV.out HBD.out py px ?_
        intro r w5 hr hb5
        rw [HL.out] at hr
        have HD5 := Aside0.mk (HDD.out.below hb5)
        have HB5 := Aside0.mk (HBD.out.trans (hb5.mono (Nat.le_trans HBW.out HBD.out.size)))
        clear hb5
        refine hK.out _ _ ?_
        clear hK K
        refine nm 101 ?_
        refine pu 10 102 (Bs 11 12) HT_ ?_
        refine pu 11 103 (Bs 12 12) HT_ ?_
        refine done_ (done_of HT_.out (by kernel_rfl)) ?_
        clear x0 x1 x2 x3 y0 y1 y2 y3 hHeld HDD HBD hh
        go_wp2
        go_roundg f
        case measure => exact Nat.lt_succ_self _
        case rel => exact ⟨x + 1, j, by go_num, rfl, ⟨by have := HXI.out; have := HI.out; omega⟩, HU2, HD5, HB5⟩
    · have hje : j = i := by have := HI.out; omega
      have hijI : ¬ ((i : Nat) : Int) < ((j : Nat) : Int) := by omega
      have HUE : Aside0 (Ben.Dn1 lt d a m i i) := ⟨by have h := HU.out; rw [hje] at h; exact h⟩
      have HK0 : Aside0 (∃ d', SlA z wr g d' ∧ PermIn a b d d' ∧ Ben.Moved (Ben.dnI m m) d d') := ⟨d, HD.out, Go.Sort.permIn_refl d a b, Ben.dn_start m d⟩
      have HIE := Aside0.mk (show a ≤ i ∧ i ≤ m from by have := HI.out; omega)
      clear hij hje HU HD
      go_wp2
      clear hijI hj1
      go_loopg [17] m (fun f v13 wx => ∃ k : Nat, v13 = .int .i64 ((k : Nat) : Int) ∧ Aside0 (i ≤ k ∧ k ≤ m ∧ k ≤ i + f) ∧ Aside0 (∃ d', SlA z wx g d' ∧ PermIn a b d d' ∧ Ben.Moved (Ben.dnI k m) d d') ∧ Aside0 (Below B w0 wx))
      case atStart => exact ⟨m, rfl, ⟨by have := HIE.out; have := HF.out; omega⟩, HK0, HB⟩
      case round =>
        obtain ⟨k, rfl, HK, HDK, HBK⟩ := hrel
        clear HK0
        have hk1 : ((k : Nat) : Int) ≤ 1000000 := by have := HK.out; have := HIE.out; have := HF.out; omega
        obtain ⟨dk, hdk, hpm, hmv⟩ := HDK.out
        have hsz : dk.size = n := hpm.1.trans HF.out.2.2.2.2.1
        by_cases hki : i < k
        · obtain ⟨f, rfl⟩ : ∃ q, gk = q + 1 := ⟨gk - 1, by have := HK.out; omega⟩
          have hkI : ((i : Nat) : Int) < ((k : Nat) : Int) := by omega
          obtain ⟨x, hx⟩ : ∃ x, x = k := ⟨_, rfl⟩
          obtain ⟨y, hy⟩ : ∃ y, x = y + 1 := ⟨x - 1, by omega⟩
          rw [← hx]
          rw [← hx] at hkI
          have HXK := Aside0.mk (show x = k ∧ x = y + 1 from by omega)
          have HX := Aside0.mk (show x < dk.size ∧ y < dk.size from by have := HK.out; have := HIE.out; have := HF.out; omega)
          have hs1 : IntKind.i64.wrap (((x : Nat) : Int) - 1) = ((y : Nat) : Int) := by have := HX.out; have := HF.out; rw [IntWalk.i64_in _ (by omega)]; omega
          have HSX := Aside0.mk (show ((x : Nat) : Int) - 1 = ((y : Nat) : Int) from by omega)
          have hxI : ((x : Nat) : Int) < ((n : Nat) : Int) := by have := HX.out; omega
          have hx1 : ((x : Nat) : Int) ≤ 1000000 := by omega
          have hyI : ((y : Nat) : Int) < ((n : Nat) : Int) := by have := HX.out; omega
          have HDD := Aside0.mk (show SlA z wr.drew g dk from hdk)
          have HBD := Aside0.mk (below_drew HBK.out)
          obtain ⟨x0, x1, x2, x3, xf⟩ := HDD.out.at HX.out.1
          obtain ⟨y0, y1, y2, y3, _⟩ := HDD.out.at HX.out.2
          obtain ⟨px, hpx⟩ : ∃ p, p = dk[x]! := ⟨_, rfl⟩
          obtain ⟨py, hpy⟩ : ∃ p, p = dk[y]! := ⟨_, rfl⟩
          rw [← hpx] at x0 x1 x2 x3
          rw [← hpy] at y0 y1 y2 y3
          have HPX := Aside0.mk hpx
          have HPY := Aside0.mk hpy
          have HM1 : Aside0 (Ben.Moved (Ben.dnI y m) d (swp dk x y)) := ⟨by rw [HXK.out.2]; exact Ben.dn_step (by have := HK.out; omega) (by have := HX.out; omega) (by rw [← HXK.out.2, HXK.out.1]; exact hmv)⟩
          have HP1 : Aside0 (PermIn a b d (swp dk x y)) := ⟨Go.Sort.permIn_trans _ _ _ _ _ hpm (Go.Sort.swp_permIn _ _ _ _ _ (by have := HK.out; have := HIE.out; omega) (by have := HK.out; have := HIE.out; have := HF.out; omega) (by have := HK.out; have := HIE.out; omega) (by have := HK.out; have := HIE.out; have := HF.out; omega) (by have := HF.out; omega))⟩
          have HKN : Aside0 (i ≤ y ∧ y ≤ m ∧ y ≤ i + f) := ⟨by have := HK.out; omega⟩
          clear hdk hpm hmv hsz hki hx hy hpx hpy xf HDK HBK
          go_wp2
          refine start_ (n := 18) (S := fun w' => w'.cell? ⟨g, x * 4, none⟩ = some (.int .i64 px.f0) ∧ w'.cell? ⟨g, x * 4 + 1, none⟩ = some (.int .i64 px.f1) ∧ w'.cell? ⟨g, x * 4 + 2, none⟩ = some (.int .i64 px.f2) ∧ w'.cell? ⟨g, x * 4 + 3, none⟩ = some (.int .i64 px.f3) ∧ w'.cell? ⟨g, y * 4, none⟩ = some (.int .i64 py.f0) ∧ w'.cell? ⟨g, y * 4 + 1, none⟩ = some (.int .i64 py.f1) ∧ w'.cell? ⟨g, y * 4 + 2, none⟩ = some (.int .i64 py.f2) ∧ w'.cell? ⟨g, y * 4 + 3, none⟩ = some (.int .i64 py.f3)) (ds := [15, 17]) (Bs 0 18) (by kernel_rfl) rfl rfl ⟨x0, x1, x2, x3, y0, y1, y2, y3⟩ (fun hHeld => ?_)
          generalize wr.drew = w4 at HDD HBD x0 x1 x2 x3 y0 y1 y2 y3 hHeld ⊢
          refine with_tabW symQ.tab23 symQ.bits23 (fun HT_ HW_ => ?_)
          refine pu 0 113 (Bs 1 18) HT_ ?_
          refine pu 1 114 (Bs 2 18) HT_ ?_
          refine pu 2 115 (Bs 3 18) HT_ ?_
          refine pu 3 116 (Bs 4 18) HT_ ?_
          refine pu 4 117 (Bs 5 18) HT_ ?_
          refine pu 5 118 (Bs 6 18) HT_ ?_
          refine pu 6 119 (Bs 7 18) HT_ ?_
          refine pu 7 120 (Bs 8 18) HT_ ?_
          refine pu 8 121 (Bs 9 18) HT_ ?_
          refine pu 10 123 (Br [9,1,1,7]) HT_ ?_
          refine pu 11 124 (Br [9,1,2,6]) HT_ ?_
          refine pu 12 125 (Br [9,1,3,5]) HT_ ?_
          refine ta 9 122 (Bs 13 18) HT_ HW_ hHeld ?_
          refine ta 13 126 (Bs 14 18) HT_ HW_ hHeld ?_
          refine pu 14 127 (Bs 15 18) HT_ ?_
          refine last_ (i := 15) (N := none) (Bs 16 18) rfl rfl (one_of HT_.out (by kernel_rfl)) (by decide) (fun K hK => ?_)
          have HS1 := Aside0.mk (HDD.out.put HX.out.1 py)
          refine skip_ (by rfl) rfl (st50_run (g := g) (k := x) (s := py) rfl rfl rfl HDD.out HX.out.1) ?_
          refine hK.out _ _ ?_
          clear hK K
          refine pu 16 128 (Bs 17 18) HT_ ?_
          refine last_ (i := 17) (N := none) (Bs 18 18) rfl rfl (one_of HT_.out (by kernel_rfl)) (by decide) (fun K hK => ?_)
          have HS2 := Aside0.mk (HS1.out.put (k := y) (by rw [Array.size_setIfInBounds]; exact HX.out.2) px)
          refine skip_ (by rfl) rfl (st50_run (g := g) (k := y) (s := px) rfl rfl rfl HS1.out (by rw [Array.size_setIfInBounds]; exact HX.out.2)) ?_
          have HB5 := Aside0.mk (put4_below (put4_below HBD.out HG.out x py) HG.out y px)
          generalize put4 (put4 w4 g x py) g y px = w5 at HS2 HB5 ⊢
          refine hK.out _ _ ?_
          clear hK K
          refine done_ (done_of HT_.out (by kernel_rfl)) ?_
          have HD5 : Aside0 (SlA z w5 g (swp dk x y)) := ⟨by have h := HS2.out; rw [HPX.out, HPY.out] at h; exact h⟩
          clear x0 x1 x2 x3 y0 y1 y2 y3 hHeld HDD HBD hs1
          go_wp2
          go_roundg f
          case measure => exact Nat.lt_succ_self _
          case rel => exact ⟨y, by first | rfl | rw [HSX.out], HKN, ⟨_, HD5.out, HP1.out, HM1.out⟩, HB5⟩
        · have hkI : ¬ ((i : Nat) : Int) < ((k : Nat) : Int) := by omega
          have hke : k = i := by have := HK.out; omega
          have HE : Aside0 (PermIn a b d dk ∧ SortedIn lt a b dk) := ⟨hpm, by rw [HF.out.1]; exact Ben.sorted_dn HS.out HSO.out HIE.out.1 HIE.out.2 HUE.out.lo HUE.out.hi (by rw [← hke]; exact hmv)⟩
          have HDE := Aside0.mk hdk
          clear hdk hpm hmv hsz hki hke
          go_wp2
          (try simp only [Exit.inBlock, Exit.then]); refine bodyPost_ret (results_none rfl _ _ _) rfl ?_
          exact ⟨rfl, ⟨_, HDE.out, HE.out⟩, HBK.out⟩
variable {z : Nat}
open Go.RowKit YtmnhcbaocoofoaaDoorW.PrintWords YtmnhcbaocoofoaaDoorW.PrintLast YtmnhcbaocoofoaaDoorW.PrintMore
open Go.Sort (swp SWO PermIn SortedIn Ins)
theorem rot_id {s m e : Nat} (hs : s ≤ m) (he : m ≤ e) (h : s = m ∨ m = e) (q : Nat) : Ben.rotI s m e q = q := by
  unfold Ben.rotI
  split
  · omega
  · split <;> omega
def Mrg (z B g n c : Nat) (cv : Value) (lt : S50 → S50 → Bool) (w0 : World) (a m b : Nat) : Prop := ∀ (d : Array S50) (w : World), SlA z w g d → d.size = n → Below B w0 w → SortedIn lt a m d → SortedIn lt m b d →
  Calls Tryd.prog 91 #[.slice (some ⟨g, 0, none⟩) n c, .int .i64 (a : Int), .int .i64 (m : Int), .int .i64 (b : Int), cv] w fun e w' => e = .returned (.tuple #[]) ∧ (∃ d', SlA z w' g d' ∧ PermIn a b d d' ∧ SortedIn lt a b d') ∧ Below B w0 w'
def St2 (lt : S50 → S50 → Bool) (a mid e b : Nat) (d d2 : Array S50) : Prop := PermIn a b d d2 ∧ SortedIn lt a mid d2 ∧ SortedIn lt mid e d2 ∧ SortedIn lt e b d2 ∧ ∀ p q, a ≤ p → p < mid → mid ≤ q → q < b → lt d2[q]! d2[p]! = false
def St1 (lt : S50 → S50 → Bool) (a s mid e b : Nat) (d d1 : Array S50) : Prop := PermIn a b d d1 ∧ SortedIn lt a s d1 ∧ SortedIn lt s mid d1 ∧ SortedIn lt mid e d1 ∧ SortedIn lt e b d1 ∧ ∀ p q, a ≤ p → p < mid → mid ≤ q → q < b → lt d1[q]! d1[p]! = false
theorem st1_of {lt : S50 → S50 → Bool} (hS : SWO lt) {a m b mid s : Nat} {d d1 : Array S50} (hs1 : SortedIn lt a m d) (hs2 : SortedIn lt m b d) (ham : a < m) (hmb : m < b) (hmid : mid = (a + b) / 2)
    (hen : a ≤ s ∧ s ≤ m ∧ s ≤ mid ∧ m ≤ mid + m - s ∧ mid + m - s ≤ b ∧ (∀ p, a ≤ p → p < s → mid + m - s < b → lt d[mid + m - s]! d[p]! = false) ∧ (∀ p, m ≤ p → p < mid + m - s → s < m → lt d[p]! d[s]! = true))
    (hm : Ben.Moved (Ben.rotI s m (mid + m - s)) d d1) (hp : PermIn a b d d1) : St1 lt a s mid (mid + m - s) b d d1 := by
  obtain ⟨h1, h2, h3, h4, h5, h6, h7⟩ := hen
  obtain ⟨k1, k2, k3, k4, k5⟩ := Ben.halves hS hs1 hs2 ham hmb hmid h1 h2 h3 h4 h5 h6 h7 hm
  exact ⟨hp, k1, k2, k3, k4, k5⟩
theorem St1.same {lt : S50 → S50 → Bool} {a s mid e b : Nat} {d d1 : Array S50} (h : St1 lt a s mid e b d d1) (hc : ¬ (a < s ∧ s < mid)) (h1 : a ≤ s) (h2 : s ≤ mid) : St2 lt a mid e b d d1 := by
  obtain ⟨k0, k1, k2, k3, k4, k5⟩ := h
  refine ⟨k0, ?_, k3, k4, k5⟩
  by_cases e1 : a = s
  · rw [e1]; exact k2
  · have e2 : s = mid := by omega
    rw [← e2]; exact k1
theorem St1.merged {lt : S50 → S50 → Bool} {a s mid e b : Nat} {d d1 d2 : Array S50} (h : St1 lt a s mid e b d d1) (hp : PermIn a mid d1 d2) (hs : SortedIn lt a mid d2) (hmb : mid ≤ b) (hme : mid ≤ e) (hsz : b ≤ d.size) (ham : a ≤ mid) : St2 lt a mid e b d d2 := by
  obtain ⟨k0, k1, k2, k3, k4, k5⟩ := h
  have hz : b ≤ d1.size := by rw [k0.1]; exact hsz
  exact ⟨Go.Sort.permIn_trans _ _ _ _ _ k0 (perm_in (Nat.le_refl _) hmb hz hp), hs, Ben.sorted_out hp (Or.inr (Nat.le_refl _)) k3, Ben.sorted_out hp (Or.inr hme) k4,
    Ben.below_perm hz hp (Go.Sort.permIn_refl d2 mid b) hmb k5⟩
theorem St2.same {lt : S50 → S50 → Bool} {a mid e b : Nat} {d d2 : Array S50} (h : St2 lt a mid e b d d2) (hc : ¬ (mid < e ∧ e < b)) (h1 : mid ≤ e) (h2 : e ≤ b) : PermIn a b d d2 ∧ SortedIn lt a b d2 := by
  obtain ⟨k0, k1, k3, k4, k5⟩ := h
  refine ⟨k0, Ben.joined k1 ?_ k5⟩
  by_cases e1 : mid = e
  · rw [e1]; exact k4
  · have e2 : e = b := by omega
    rw [← e2]; exact k3
theorem St2.merged {lt : S50 → S50 → Bool} {a mid e b : Nat} {d d2 d3 : Array S50} (h : St2 lt a mid e b d d2) (hp : PermIn mid b d2 d3) (hs : SortedIn lt mid b d3) (hmb : mid ≤ b) (ham : a ≤ mid) (hsz : b ≤ d.size) : PermIn a b d d3 ∧ SortedIn lt a b d3 := by
  obtain ⟨k0, k1, k3, k4, k5⟩ := h
  have hz : b ≤ d2.size := by rw [k0.1]; exact hsz
  exact ⟨Go.Sort.permIn_trans _ _ _ _ _ k0 (perm_in ham (Nat.le_refl _) hz hp), Ben.joined (Ben.sorted_out hp (Or.inl (Nat.le_refl _)) k1) hs (Ben.below_perm hz (Go.Sort.permIn_refl d2 a mid) hp hmb k5)⟩
def symP.T35 : Bool × List (List Nat × List Nat) := (true, [([], []), ([], []), ([], []), ([], []), ([2, 3], [2, 3]), ([1, 4], [1, 4]), ([5], [5]), ([], []), ([], []), ([7, 8], [7, 8]), ([9], [9]), ([0, 6, 10], [0, 6, 10]), ([11], [11]), ([12], [12])])
def symP.B35 : List Nat := [0, 0, 0, 0, 12, 30, 62, 0, 0, 384, 896, 2047, 4095, 8191]
theorem symP.tab35 : rtab .any (opsOf Tryd.f91 35) = symP.T35 := by kernel_rfl
theorem symP.bits35 : waitsOk symP.T35.2 symP.B35 = true := by kernel_rfl
set_option maxHeartbeats 8000000 in
set_option maxRecDepth 100000 in
theorem sym_more (B g n c a m b : Nat) (cv : Value) (lt : S50 → S50 → Bool) (hS : SWO lt) (d : Array S50) (w0 w : World) (hcv : CmpOk B w0 cv lt) (hd : SlA z w g d) (hn : d.size = n) (hnc : n ≤ c) (hB : Below B w0 w) (hBw : B ≤ w0.heap.size) (hg : B ≤ g) (ham : a + 1 < m) (hmb : m + 1 < b) (hbn : b ≤ n) (hN : n ≤ 1000000)
    (hs1 : SortedIn lt a m d) (hs2 : SortedIn lt m b d) (ih : ∀ a' m' b', b' - a' < b - a → a' < m' → m' < b' → b' ≤ n → Mrg z B g n c cv lt w0 a' m' b') :
    Calls Tryd.prog 91 #[.slice (some ⟨g, 0, none⟩) n c, .int .i64 (a : Int), .int .i64 (m : Int), .int .i64 (b : Int), cv] w fun e w' => e = .returned (.tuple #[]) ∧
      (∃ d', SlA z w' g d' ∧ PermIn a b d d' ∧ SortedIn lt a b d') ∧ Below B w0 w' := by
  obtain ⟨mid, hmid⟩ : ∃ mid, mid = (a + b) / 2 := ⟨_, rfl⟩
  have HF := Aside0.mk (show a + 1 < m ∧ m + 1 < b ∧ b ≤ n ∧ n ≤ 1000000 ∧ d.size = n ∧ n ≤ c ∧ mid = (a + b) / 2 from ⟨ham, hmb, hbn, hN, hn, hnc, hmid⟩)
  have HG := Aside0.mk hg
  have HCV := Aside0.mk hcv
  have HS := Aside0.mk hS
  have HBW := Aside0.mk hBw
  have HS1 := Aside0.mk hs1
  have HS2 := Aside0.mk hs2
  have HD0 := Aside0.mk hd
  have HB0 := Aside0.mk hB
  have HIH := Aside0.mk ih
  have ha1 : ((a : Nat) : Int) ≤ 1000000 := by omega
  have hb1 : ((b : Nat) : Int) ≤ 1000000 := by omega
  have hm1 : ((m : Nat) : Int) ≤ 1000000 := by omega
  have hd1 : ((mid : Nat) : Int) ≤ 1000000 := by omega
  have hma : (((m : Nat) : Int) - ((a : Nat) : Int) == 1) = false := by rw [beq_eq_false_iff_ne]; omega
  have hbm : (((b : Nat) : Int) - ((m : Nat) : Int) == 1) = false := by rw [beq_eq_false_iff_ne]; omega
  have hmd : (((a : Nat) : Int) + ((b : Nat) : Int)) / 2 = ((mid : Nat) : Int) := by omega
  clear hd hn hB hg ham hmb hbn hN hnc hcv hS hBw hs1 hs2 ih hmid
  go_enter Tryd.func91, Tryd.ntmps91
  go_upto_if 140 with (fail)
  clear hma hbm hmd
  go_cut [20, 21] from 25 (fun v20 v21 wc => ∃ lo hi : Nat, v20 = .int .i64 ((lo : Nat) : Int) ∧ v21 = .int .i64 ((hi : Nat) : Int) ∧ Aside0 ((mid < m ∧ lo = mid + m - b ∧ hi = mid) ∨ (m ≤ mid ∧ lo = a ∧ hi = m)) ∧ wc = w)
  case first =>
    as_aux_lemma =>
    by_cases hmm : mid < m
    · have hmI : ((mid : Nat) : Int) < ((m : Nat) : Int) := by omega
      have hlo : ((mid : Nat) : Int) + ((m : Nat) : Int) - ((b : Nat) : Int) = ((mid + m - b : Nat) : Int) := by have := HF.out; omega
      have HH := Aside0.mk hmm
      clear hmm
      go_wp2
      go_meet
      case rel => exact ⟨mid + m - b, mid, by first | rfl | rw [hlo], rfl, ⟨Or.inl ⟨HH.out, rfl, rfl⟩⟩, rfl⟩
    · have hmI : ¬ ((mid : Nat) : Int) < ((m : Nat) : Int) := by omega
      have HH := Aside0.mk (show m ≤ mid from by omega)
      clear hmm
      go_wp2
      go_meet
      case rel => exact ⟨a, m, rfl, rfl, ⟨Or.inr ⟨HH.out, rfl, rfl⟩⟩, rfl⟩
  case rest =>
    as_aux_lemma =>
    obtain ⟨lo, hi, rfl, rfl, HLH, rfl⟩ := hcut
    have hlo1 : ((lo : Nat) : Int) ≤ 1000000 := by have := HLH.out; have := HF.out; omega
    have hhi1 : ((hi : Nat) : Int) ≤ 1000000 := by have := HLH.out; have := HF.out; omega
    have HC0 : Aside0 (Ben.Cut lt d lo hi (mid + m) lo hi) := ⟨⟨fun p h1 h2 => by omega, fun p h1 h2 => by omega⟩⟩
    obtain ⟨P, hP⟩ : ∃ P, P = mid + m - 1 := ⟨_, rfl⟩
    have HP := Aside0.mk hP
    have hPI : ((mid : Nat) : Int) + ((m : Nat) : Int) - 1 = ((P : Nat) : Int) := by have := HF.out; omega
    clear hP
    go_wp2
    clear hlo1 hhi1 hPI hm1 hd1 ha1 hb1
    go_loopg [20, 21] b (fun f v20 v21 wr => ∃ s rt : Nat, v20 = .int .i64 ((s : Nat) : Int) ∧ v21 = .int .i64 ((rt : Nat) : Int) ∧ Aside0 (lo ≤ s ∧ s ≤ rt ∧ rt ≤ hi ∧ rt ≤ s + f) ∧ Aside0 (Ben.Cut lt d lo hi (mid + m) s rt) ∧ Aside0 (SlA z wr g d) ∧ Aside0 (Below B w0 wr))
    case atStart => exact ⟨lo, hi, rfl, rfl, ⟨by have := HLH.out; have := HF.out; omega⟩, HC0, HD0, HB0⟩
    case round =>
      as_aux_lemma =>
      obtain ⟨s, rt, rfl, rfl, HI, HU, HD, HB⟩ := hrel
      clear HC0 HD0 HB0
      have hs1 : ((s : Nat) : Int) ≤ 1000000 := by have := HI.out; have := HLH.out; have := HF.out; omega
      have hr1 : ((rt : Nat) : Int) ≤ 1000000 := by have := HI.out; have := HLH.out; have := HF.out; omega
      by_cases hsr : s < rt
      · obtain ⟨f, rfl⟩ : ∃ q, gk = q + 1 := ⟨gk - 1, by have := HI.out; omega⟩
        have hsrI : ((s : Nat) : Int) < ((rt : Nat) : Int) := by omega
        obtain ⟨y, hy⟩ : ∃ y, y = (s + rt) / 2 := ⟨_, rfl⟩
        obtain ⟨x, hx⟩ : ∃ x, x = mid + m - 1 - y := ⟨_, rfl⟩
        have hh : (((s : Nat) : Int) + ((rt : Nat) : Int)) / 2 = ((y : Nat) : Int) := by omega
        have HYI := Aside0.mk (show s ≤ y ∧ y < rt from by omega)
        have HXP := Aside0.mk (show x + y = P ∧ P = mid + m - 1 ∧ x = mid + m - 1 - y from by have := HP.out; have := HYI.out; have := HI.out; have := HLH.out; have := HF.out; omega)
        have HX := Aside0.mk (show x < d.size ∧ y < d.size from by have := HXP.out; have := HYI.out; have := HI.out; have := HLH.out; have := HF.out; omega)
        have hs2 : IntKind.i64.wrap (((P : Nat) : Int) - ((y : Nat) : Int)) = ((x : Nat) : Int) := by have := HXP.out; have := HX.out; have := HF.out; rw [IntWalk.i64_in _ (by omega)]; omega
        have hx1 : ((x : Nat) : Int) ≤ 1000000 := by have := HX.out; have := HF.out; omega
        have hy1 : ((y : Nat) : Int) ≤ 1000000 := by have := HX.out; have := HF.out; omega
        have hxI : ((x : Nat) : Int) < ((n : Nat) : Int) := by have := HX.out; have := HF.out; omega
        have hyI : ((y : Nat) : Int) < ((n : Nat) : Int) := by have := HX.out; have := HF.out; omega
        have HDD := Aside0.mk (show SlA z wr.drew g d from HD.out)
        have HBD := Aside0.mk (below_drew HB.out)
        obtain ⟨x0, x1, x2, x3, xf⟩ := HDD.out.at HX.out.1
        obtain ⟨y0, y1, y2, y3, _⟩ := HDD.out.at HX.out.2
        obtain ⟨px, hpx⟩ : ∃ p, p = d[x]! := ⟨_, rfl⟩
        obtain ⟨py, hpy⟩ : ∃ p, p = d[y]! := ⟨_, rfl⟩
        rw [← hpx] at x0 x1 x2 x3
        rw [← hpy] at y0 y1 y2 y3
        have HPX := Aside0.mk hpx
        have HPY := Aside0.mk hpy
        clear hx hy hpx hpy hsr xf HD HB
        cases hl : lt px py with
        | true =>
          as_aux_lemma =>
          have HL := Aside0.mk hl
          have HU2 : Aside0 (Ben.Cut lt d lo hi (mid + m) s y) := ⟨HU.out.no HS.out HS1.out HS2.out (by have := HYI.out; have := HI.out; have := HLH.out; have := HF.out; omega) (by have := HLH.out; have := HF.out; omega) (fun p hp => by have := HLH.out; have := HF.out; omega) (by have := HYI.out; have := HI.out; have := HLH.out; have := HF.out; omega) (by rw [← HXP.out.2.2, ← HPX.out, ← HPY.out]; exact HL.out)⟩
          clear hl
          go_wp2
          refine start_ (n := 14) (S := fun w' => w'.cell? ⟨g, x * 4, none⟩ = some (.int .i64 px.f0) ∧ w'.cell? ⟨g, x * 4 + 1, none⟩ = some (.int .i64 px.f1) ∧ w'.cell? ⟨g, x * 4 + 2, none⟩ = some (.int .i64 px.f2) ∧ w'.cell? ⟨g, x * 4 + 3, none⟩ = some (.int .i64 px.f3) ∧ w'.cell? ⟨g, y * 4, none⟩ = some (.int .i64 py.f0) ∧ w'.cell? ⟨g, y * 4 + 1, none⟩ = some (.int .i64 py.f1) ∧ w'.cell? ⟨g, y * 4 + 2, none⟩ = some (.int .i64 py.f2) ∧ w'.cell? ⟨g, y * 4 + 3, none⟩ = some (.int .i64 py.f3)) (ds := [11]) (Bs 0 14) (by kernel_rfl) rfl rfl ⟨x0, x1, x2, x3, y0, y1, y2, y3⟩ (fun hHeld => ?_)
          generalize wr.drew = w4 at HDD HBD x0 x1 x2 x3 y0 y1 y2 y3 hHeld ⊢
          refine with_tabW symP.tab35 symP.bits35 (fun HT_ HW_ => ?_)
          refine pu 0 158 (Bs 1 14) HT_ ?_
          refine pu 1 159 (Bs 2 14) HT_ ?_
          refine pu 2 160 (Bs 3 14) HT_ ?_
          refine pu 3 161 (Bs 4 14) HT_ ?_
          refine pu 4 162 (Bs 5 14) HT_ ?_
          refine pu 5 163 (Bs 6 14) HT_ ?_
          refine pu 7 165 (Br [6,1,1,6]) HT_ ?_
          refine pu 8 166 (Br [6,1,2,5]) HT_ ?_
          refine pu 9 167 (Br [6,1,3,4]) HT_ ?_
          refine ta 6 164 (Bs 10 14) HT_ HW_ hHeld ?_
          refine ta 10 168 (Bs 11 14) HT_ HW_ hHeld ?_
          refine last_ (i := 11) (N := some 169) (Bs 12 14) rfl rfl (one_of HT_.out (by kernel_rfl)) (by decide) (fun K hK => ?_)
          refine cmp_step HCV.out HBD.out px py ?_
          intro r w5 hr hb5
          rw [HL.out] at hr
          have HD5 := Aside0.mk (HDD.out.below hb5)
          have HB5 := Aside0.mk (HBD.out.trans (hb5.mono (Nat.le_trans HBW.out HBD.out.size)))
          clear hb5
          refine hK.out _ _ ?_
          clear hK K
          refine nm 169 ?_
          refine pu 12 170 (Bs 13 14) HT_ ?_
          refine pu 13 171 (Bs 14 14) HT_ ?_
          refine done_ (done_of HT_.out (by kernel_rfl)) ?_
          clear x0 x1 x2 x3 y0 y1 y2 y3 hHeld HDD HBD hh hs2
          go_wp2
          go_roundg f
          case measure => exact Nat.lt_succ_self _
          case rel => exact ⟨s, y, rfl, rfl, ⟨by have := HYI.out; have := HI.out; omega⟩, HU2, HD5, HB5⟩
        | false =>
          as_aux_lemma =>
          have HL := Aside0.mk hl
          have HU2 : Aside0 (Ben.Cut lt d lo hi (mid + m) (y + 1) rt) := ⟨HU.out.yes HS.out HS1.out HS2.out (by have := HLH.out; have := HF.out; omega) (by have := HYI.out; have := HI.out; have := HLH.out; have := HF.out; omega) (by have := HYI.out; have := HI.out; have := HLH.out; have := HF.out; omega) (by have := HLH.out; have := HF.out; omega) (by have := HYI.out; have := HI.out; omega) (by have := HYI.out; have := HI.out; have := HLH.out; have := HF.out; omega) (by rw [← HXP.out.2.2, ← HPX.out, ← HPY.out]; exact HL.out)⟩
          clear hl
          go_wp2
          refine start_ (n := 14) (S := fun w' => w'.cell? ⟨g, x * 4, none⟩ = some (.int .i64 px.f0) ∧ w'.cell? ⟨g, x * 4 + 1, none⟩ = some (.int .i64 px.f1) ∧ w'.cell? ⟨g, x * 4 + 2, none⟩ = some (.int .i64 px.f2) ∧ w'.cell? ⟨g, x * 4 + 3, none⟩ = some (.int .i64 px.f3) ∧ w'.cell? ⟨g, y * 4, none⟩ = some (.int .i64 py.f0) ∧ w'.cell? ⟨g, y * 4 + 1, none⟩ = some (.int .i64 py.f1) ∧ w'.cell? ⟨g, y * 4 + 2, none⟩ = some (.int .i64 py.f2) ∧ w'.cell? ⟨g, y * 4 + 3, none⟩ = some (.int .i64 py.f3)) (ds := [11]) (Bs 0 14) (by kernel_rfl) rfl rfl ⟨x0, x1, x2, x3, y0, y1, y2, y3⟩ (fun hHeld => ?_)
          generalize wr.drew = w4 at HDD HBD x0 x1 x2 x3 y0 y1 y2 y3 hHeld ⊢
          refine with_tabW symP.tab35 symP.bits35 (fun HT_ HW_ => ?_)
          refine pu 0 158 (Bs 1 14) HT_ ?_
          refine pu 1 159 (Bs 2 14) HT_ ?_
          refine pu 2 160 (Bs 3 14) HT_ ?_
          refine pu 3 161 (Bs 4 14) HT_ ?_
          refine pu 4 162 (Bs 5 14) HT_ ?_
          refine pu 5 163 (Bs 6 14) HT_ ?_
          refine pu 7 165 (Br [6,1,1,6]) HT_ ?_
          refine pu 8 166 (Br [6,1,2,5]) HT_ ?_
          refine pu 9 167 (Br [6,1,3,4]) HT_ ?_
          refine ta 6 164 (Bs 10 14) HT_ HW_ hHeld ?_
          refine ta 10 168 (Bs 11 14) HT_ HW_ hHeld ?_
          refine last_ (i := 11) (N := some 169) (Bs 12 14) rfl rfl (one_of HT_.out (by kernel_rfl)) (by decide) (fun K hK => ?_)
          refine cmp_step HCV.out HBD.out px py ?_
          intro r w5 hr hb5
          rw [HL.out] at hr
          have HD5 := Aside0.mk (HDD.out.below hb5)
          have HB5 := Aside0.mk (HBD.out.trans (hb5.mono (Nat.le_trans HBW.out HBD.out.size)))
          clear hb5
          refine hK.out _ _ ?_
          clear hK K
          refine nm 169 ?_
          refine pu 12 170 (Bs 13 14) HT_ ?_
          refine pu 13 171 (Bs 14 14) HT_ ?_
          refine done_ (done_of HT_.out (by kernel_rfl)) ?_
          clear x0 x1 x2 x3 y0 y1 y2 y3 hHeld HDD HBD hh hs2
          go_wp2
          go_roundg f
          case measure => exact Nat.lt_succ_self _
          case rel => exact ⟨y + 1, rt, by go_num, rfl, ⟨by have := HYI.out; have := HI.out; omega⟩, HU2, HD5, HB5⟩
      · have hre : rt = s := by have := HI.out; omega
        have hsrI : ¬ ((s : Nat) : Int) < ((rt : Nat) : Int) := by omega
        have HUE : Aside0 (Ben.Cut lt d lo hi (mid + m) s s) := ⟨by have h := HU.out; rw [hre] at h; exact h⟩
        have HEN := Aside0.mk (Ben.Cut.ends (by have := HF.out; omega) (by have := HF.out; omega) HF.out.2.2.2.2.2.2 HLH.out HI.out.1 (by have := HI.out; omega) HUE.out HS.out HS1.out HS2.out)
        obtain ⟨e, he⟩ : ∃ e, e = mid + m - s := ⟨_, rfl⟩
        have HE := Aside0.mk he
        have heI : ((mid : Nat) : Int) + ((m : Nat) : Int) - ((s : Nat) : Int) = ((e : Nat) : Int) := by have := HEN.out.2.1; omega
        have HSE := Aside0.mk (show a ≤ s ∧ s ≤ m ∧ s ≤ mid ∧ m ≤ e ∧ e ≤ b ∧ e = mid + m - s from by have := HEN.out; omega)
        have hd1 : ((mid : Nat) : Int) ≤ 1000000 := by have := HF.out; omega
        have hm1 : ((m : Nat) : Int) ≤ 1000000 := by have := HF.out; omega
        clear hre hsr HU he
        go_upto_region 39 with (fail)
        go_cut [185] from 25 (fun vg wc => vg = .bool (decide (s < m ∧ m < e)) ∧ wc = wr)
        case first =>
          as_aux_lemma =>
          by_cases hA : s < m
          · have hAI : decide (((s : Nat) : Int) < ((m : Nat) : Int)) = true := decide_eq_true (by omega)
            have hAN : decide (s < m) = true := decide_eq_true hA
            by_cases hB : m < e
            · have hBI : decide (((m : Nat) : Int) < ((e : Nat) : Int)) = true := decide_eq_true (by omega)
              have hBN : decide (m < e) = true := decide_eq_true hB
              have HAB : Aside0 (Value.bool true = .bool (decide (s < m ∧ m < e))) := ⟨by rw [decide_eq_true (And.intro hA hB)]⟩
              go_wp2
              go_meet
              case rel => exact ⟨HAB.out, rfl⟩
            · have hBI : decide (((m : Nat) : Int) < ((e : Nat) : Int)) = false := decide_eq_false (by omega)
              have hBN : decide (m < e) = false := decide_eq_false hB
              have HAB : Aside0 (Value.bool false = .bool (decide (s < m ∧ m < e))) := ⟨by rw [decide_eq_false (fun h => hB h.2)]⟩
              go_wp2
              go_meet
              case rel => exact ⟨HAB.out, rfl⟩
          · have hAI : decide (((s : Nat) : Int) < ((m : Nat) : Int)) = false := decide_eq_false (by omega)
            have hAN : decide (s < m) = false := decide_eq_false hA
            have HAB : Aside0 (Value.bool false = .bool (decide (s < m ∧ m < e))) := ⟨by rw [decide_eq_false (fun h => hA h.1)]⟩
            go_wp2
            go_meet
            case rel => exact ⟨HAB.out, rfl⟩
        case rest =>
        as_aux_lemma =>
        obtain ⟨rfl, hwc⟩ := hcut
        have hwc := hwc.symm
        subst hwc
        go_upto_if 185 with (fail)
        go_cut [] from 25 (fun wc => Aside0 (∃ d1, SlA z wc g d1 ∧ Ben.Moved (Ben.rotI s m e) d d1 ∧ PermIn a b d d1) ∧ Aside0 (Below B w0 wc))
        case first =>
          as_aux_lemma =>
          by_cases hc : s < m ∧ m < e
          · have hcd : decide (s < m ∧ m < e) = true := decide_eq_true hc
            have HC := Aside0.mk (rot_calls B g n c s m e cv d w0 _ HD.out HF.out.2.2.2.2.1 HF.out.2.2.2.2.2.1 HB.out HG.out hc.1 hc.2 (by have := HSE.out; have := HF.out; omega) HF.out.2.2.2.1)
            clear hc
            rw [hcd]
            go_wp2_with (first | (go_at_call 97; go_must (refine HC.out.mono ?_); rintro e' w1 ⟨rfl, ⟨d1, hd1, hm1', hp1⟩, hb1⟩; have HD1 := Aside0.mk (show SlA z w1 g d1 ∧ Ben.Moved (Ben.rotI s m e) d d1 ∧ PermIn a b d d1 from ⟨hd1, hm1', perm_in HSE.out.1 HSE.out.2.2.2.2.1 (by have := HF.out; omega) hp1⟩); have HB1 := Aside0.mk hb1; clear hd1 hm1' hp1 hb1))
            go_meet
            case rel => exact ⟨⟨_, HD1.out⟩, HB1⟩
          · have hcd : decide (s < m ∧ m < e) = false := decide_eq_false hc
            have HM1 : Aside0 (∃ d1, SlA z wr g d1 ∧ Ben.Moved (Ben.rotI s m e) d d1 ∧ PermIn a b d d1) := ⟨d, HD.out, fun q => by rw [rot_id HSE.out.2.1 HSE.out.2.2.2.1 (by have := HSE.out; omega)], Go.Sort.permIn_refl d a b⟩
            clear hc
            rw [hcd]
            go_wp2
            go_meet
            case rel => exact ⟨HM1, HB⟩
        case rest =>
        as_aux_lemma =>
        obtain ⟨HD1, HB1⟩ := hcut
        clear HD HB
        obtain ⟨w1, hw1⟩ : ∃ w1, w1 = wc := ⟨_, rfl⟩
        rw [← hw1] at HD1 HB1 ⊢
        clear hw1 wc
        have HT1 : Aside0 (∃ d1, SlA z w1 g d1 ∧ St1 lt a s mid e b d d1) := ⟨by
          obtain ⟨d1, h1, h2, h3⟩ := HD1.out
          rw [HE.out] at h2 ⊢
          exact ⟨d1, h1, st1_of HS.out HS1.out HS2.out (by have := HF.out; omega) (by have := HF.out; omega) HF.out.2.2.2.2.2.2 HEN.out h2 h3⟩⟩
        clear HD1
        go_upto_region 41 with (fail)
        go_cut [199] from 25 (fun vg wc => vg = .bool (decide (a < s ∧ s < mid)) ∧ wc = w1)
        case first =>
          as_aux_lemma =>
          by_cases hA : a < s
          · have hAI : decide (((a : Nat) : Int) < ((s : Nat) : Int)) = true := decide_eq_true (by omega)
            have hAN : decide (a < s) = true := decide_eq_true hA
            by_cases hB : s < mid
            · have hBI : decide (((s : Nat) : Int) < ((mid : Nat) : Int)) = true := decide_eq_true (by omega)
              have hBN : decide (s < mid) = true := decide_eq_true hB
              have HAB : Aside0 (Value.bool true = .bool (decide (a < s ∧ s < mid))) := ⟨by rw [decide_eq_true (And.intro hA hB)]⟩
              go_wp2
              go_meet
              case rel => exact ⟨HAB.out, rfl⟩
            · have hBI : decide (((s : Nat) : Int) < ((mid : Nat) : Int)) = false := decide_eq_false (by omega)
              have hBN : decide (s < mid) = false := decide_eq_false hB
              have HAB : Aside0 (Value.bool false = .bool (decide (a < s ∧ s < mid))) := ⟨by rw [decide_eq_false (fun h => hB h.2)]⟩
              go_wp2
              go_meet
              case rel => exact ⟨HAB.out, rfl⟩
          · have hAI : decide (((a : Nat) : Int) < ((s : Nat) : Int)) = false := decide_eq_false (by omega)
            have hAN : decide (a < s) = false := decide_eq_false hA
            have HAB : Aside0 (Value.bool false = .bool (decide (a < s ∧ s < mid))) := ⟨by rw [decide_eq_false (fun h => hA h.1)]⟩
            go_wp2
            go_meet
            case rel => exact ⟨HAB.out, rfl⟩
        case rest =>
        as_aux_lemma =>
        obtain ⟨rfl, hwc⟩ := hcut
        have hwc := hwc.symm
        subst hwc
        go_upto_if 199 with (fail)
        go_cut [] from 25 (fun wc => Aside0 (∃ d2, SlA z wc g d2 ∧ St2 lt a mid e b d d2) ∧ Aside0 (Below B w0 wc))
        case first =>
          as_aux_lemma =>
          obtain ⟨d1, hd1, ht1⟩ := HT1.out
          have hz1 : d1.size = n := ht1.1.1.trans HF.out.2.2.2.2.1
          by_cases hc : a < s ∧ s < mid
          · have hcd : decide (a < s ∧ s < mid) = true := decide_eq_true hc
            have HC := Aside0.mk (HIH.out a s mid (by have := HF.out; omega) hc.1 hc.2 (by have := HF.out; omega) d1 _ hd1 hz1 HB1.out ht1.2.1 ht1.2.2.1)
            have HT := Aside0.mk ht1
            clear hc hd1 ht1 hz1
            rw [hcd]
            go_wp2_with (first | (go_at_call 91; go_must (refine HC.out.mono ?_); rintro e' w2 ⟨rfl, ⟨d2, hd2, hp2, hs2⟩, hb2⟩; have HD2 := Aside0.mk (show SlA z w2 g d2 ∧ St2 lt a mid e b d d2 from ⟨hd2, HT.out.merged hp2 hs2 (by have := HF.out; omega) (by have := HSE.out; omega) (by have := HF.out; omega) (by have := HF.out; omega)⟩); have HB2 := Aside0.mk hb2; clear hd2 hp2 hs2 hb2))
            go_meet
            case rel => exact ⟨⟨_, HD2.out⟩, HB2⟩
          · have hcd : decide (a < s ∧ s < mid) = false := decide_eq_false hc
            have HM1 : Aside0 (∃ d2, SlA z w1 g d2 ∧ St2 lt a mid e b d d2) := ⟨d1, hd1, ht1.same hc HSE.out.1 HSE.out.2.2.1⟩
            clear hc hd1 ht1 hz1
            rw [hcd]
            go_wp2
            go_meet
            case rel => exact ⟨HM1, HB1⟩
        case rest =>
        as_aux_lemma =>
        obtain ⟨HT2, HB2⟩ := hcut
        clear HT1 HB1
        obtain ⟨w2, hw2⟩ : ∃ w2, w2 = wc := ⟨_, rfl⟩
        rw [← hw2] at HT2 HB2 ⊢
        clear hw2 wc
        go_upto_region 43 with (fail)
        go_cut [213] from 25 (fun vg wc => vg = .bool (decide (mid < e ∧ e < b)) ∧ wc = w2)
        case first =>
          as_aux_lemma =>
          by_cases hA : mid < e
          · have hAI : decide (((mid : Nat) : Int) < ((e : Nat) : Int)) = true := decide_eq_true (by omega)
            have hAN : decide (mid < e) = true := decide_eq_true hA
            by_cases hB : e < b
            · have hBI : decide (((e : Nat) : Int) < ((b : Nat) : Int)) = true := decide_eq_true (by omega)
              have hBN : decide (e < b) = true := decide_eq_true hB
              have HAB : Aside0 (Value.bool true = .bool (decide (mid < e ∧ e < b))) := ⟨by rw [decide_eq_true (And.intro hA hB)]⟩
              go_wp2
              go_meet
              case rel => exact ⟨HAB.out, rfl⟩
            · have hBI : decide (((e : Nat) : Int) < ((b : Nat) : Int)) = false := decide_eq_false (by omega)
              have hBN : decide (e < b) = false := decide_eq_false hB
              have HAB : Aside0 (Value.bool false = .bool (decide (mid < e ∧ e < b))) := ⟨by rw [decide_eq_false (fun h => hB h.2)]⟩
              go_wp2
              go_meet
              case rel => exact ⟨HAB.out, rfl⟩
          · have hAI : decide (((mid : Nat) : Int) < ((e : Nat) : Int)) = false := decide_eq_false (by omega)
            have hAN : decide (mid < e) = false := decide_eq_false hA
            have HAB : Aside0 (Value.bool false = .bool (decide (mid < e ∧ e < b))) := ⟨by rw [decide_eq_false (fun h => hA h.1)]⟩
            go_wp2
            go_meet
            case rel => exact ⟨HAB.out, rfl⟩
        case rest =>
        as_aux_lemma =>
        obtain ⟨rfl, hwc⟩ := hcut
        have hwc := hwc.symm
        subst hwc
        obtain ⟨d2, hd2, ht2⟩ := HT2.out
        have hz2 : d2.size = n := ht2.1.1.trans HF.out.2.2.2.2.1
        by_cases hc : mid < e ∧ e < b
        · have hcd : decide (mid < e ∧ e < b) = true := decide_eq_true hc
          have HC := Aside0.mk (HIH.out mid e b (by have := HF.out; omega) hc.1 hc.2 HF.out.2.2.1 d2 _ hd2 hz2 HB2.out ht2.2.2.1 ht2.2.2.2.1)
          have HT := Aside0.mk ht2
          clear hc hd2 ht2 hz2
          rw [hcd]
          go_wp2_with (first | (go_at_call 91; go_must (refine HC.out.mono ?_); rintro e' w3 ⟨rfl, ⟨d3, hd3, hp3, hs3⟩, hb3⟩; have HD3 := Aside0.mk (show SlA z w3 g d3 ∧ PermIn a b d d3 ∧ SortedIn lt a b d3 from ⟨hd3, HT.out.merged hp3 hs3 (by have := HF.out; omega) (by have := HF.out; omega) (by have := HF.out; omega)⟩); have HB3 := Aside0.mk hb3; clear hd3 hp3 hs3 hb3))
          go_end0
          exact ⟨rfl, ⟨_, HD3.out⟩, HB3.out⟩
        · have hcd : decide (mid < e ∧ e < b) = false := decide_eq_false hc
          have HM2 := Aside0.mk (show SlA z w2 g d2 ∧ PermIn a b d d2 ∧ SortedIn lt a b d2 from ⟨hd2, ht2.same hc (by have := HSE.out; omega) HSE.out.2.2.2.2.1⟩)
          clear hc hd2 ht2 hz2
          rw [hcd]
          go_wp2
          go_end0
          exact ⟨rfl, ⟨_, HM2.out⟩, HB2.out⟩
theorem sym_calls (B g n c : Nat) (cv : Value) (lt : S50 → S50 → Bool) (hS : SWO lt) (w0 : World) (hcv : CmpOk B w0 cv lt) (hnc : n ≤ c) (hBw : B ≤ w0.heap.size) (hg : B ≤ g) (hN : n ≤ 1000000) :
    ∀ (k a m b : Nat), b - a ≤ k → a < m → m < b → b ≤ n → Mrg z B g n c cv lt w0 a m b
  | 0, a, m, b, hk, ham, hmb, hbn => by omega
  | k + 1, a, m, b, hk, ham, hmb, hbn => fun d w hd hn hB hs1 hs2 => by
    by_cases h1 : m = a + 1
    · exact sym_one B g n c a m b cv lt hS d w0 w hcv hd hn hnc hB hBw hg h1 hmb hbn hN hs2
    · by_cases h2 : b = m + 1
      · exact sym_two B g n c a m b cv lt hS d w0 w hcv hd hn hnc hB hBw hg h2 (by omega) hbn hN hs1
      · exact sym_more B g n c a m b cv lt hS d w0 w hcv hd hn hnc hB hBw hg (by omega) (by omega) hbn hN hs1 hs2
          (fun a' m' b' hlt h3 h4 h5 => sym_calls B g n c cv lt hS w0 hcv hnc hBw hg hN k a' m' b' (by omega) h3 h4 h5)
variable {z : Nat}
open Go.RowKit YtmnhcbaocoofoaaDoorW.PrintWords YtmnhcbaocoofoaaDoorW.PrintLast YtmnhcbaocoofoaaDoorW.PrintMore
open Go.Sort (swp SWO PermIn SortedIn Ins)
set_option maxHeartbeats 8000000 in
set_option maxRecDepth 100000 in
theorem stab_calls (B g n c : Nat) (cv : Value) (lt : S50 → S50 → Bool) (hS : SWO lt) (d : Array S50) (w0 w : World) (hcv : CmpOk B w0 cv lt) (hd : SlA z w g d) (hn : d.size = n) (hnc : n ≤ c) (hB : Below B w0 w) (hBw : B ≤ w0.heap.size) (hg : B ≤ g) (hN : n ≤ 1000000) :
    Calls Tryd.prog 78 #[.slice (some ⟨g, 0, none⟩) n c, .int .i64 (n : Int), cv] w fun e w' => e = .returned (.tuple #[]) ∧ (∃ d', SlA z w' g d' ∧ PermIn 0 n d d' ∧ SortedIn lt 0 n d') ∧ Below B w0 w' := by
  have HF := Aside0.mk (show n ≤ 1000000 ∧ d.size = n ∧ n ≤ c from ⟨hN, hn, hnc⟩)
  have HI := Aside0.mk (fun (a b : Nat) (hab : a ≤ b) (hbn : b ≤ n) (dk : Array S50) (W : World) (hk : SlA z W g dk) (hsz : dk.size = n) (hb : Below B w0 W) => ins_calls B g n c a b cv lt hS dk w0 W hcv hk hsz hnc hb hBw hg hab hbn hN)
  have HY := Aside0.mk (fun (a m b : Nat) (ham : a < m) (hmb : m < b) (hbn : b ≤ n) => sym_calls (z := z) B g n c cv lt hS w0 hcv hnc hBw hg hN (b - a) a m b (Nat.le_refl _) ham hmb hbn)
  have HD0 : Aside0 (∃ d', SlA z w g d' ∧ PermIn 0 n d d' ∧ Ben.BlkTo lt 20 0 d') := ⟨d, hd, Go.Sort.permIn_refl d 0 n, fun k hk => absurd hk (Nat.not_lt_zero k)⟩
  have HB0 := Aside0.mk hB
  have hn1 : ((n : Nat) : Int) ≤ 1000000 := by omega
  clear hd hn hB hg hN hnc hcv hS hBw
  go_enter Tryd.func78, Tryd.ntmps78
  go_wp2
  go_loopg [7, 8] n (fun f v7 v8 wr => ∃ r A : Nat, v7 = .int .i64 ((A : Nat) : Int) ∧ v8 = .int .i64 (((A : Nat) : Int) + 20) ∧ Aside0 (A = r * 20 ∧ A ≤ n ∧ n ≤ A + f) ∧ Aside0 (∃ d', SlA z wr g d' ∧ PermIn 0 n d d' ∧ Ben.BlkTo lt 20 r d') ∧ Aside0 (Below B w0 wr))
  case atStart => exact ⟨0, 0, rfl, rfl, ⟨by omega⟩, HD0, HB0⟩
  case round =>
    obtain ⟨r, A, rfl, rfl, HA, HD, HB⟩ := hrel
    clear HD0 HB0
    have hA1 : ((A : Nat) : Int) ≤ 1000000 := by have := HA.out; have := HF.out; omega
    obtain ⟨dk, hdk, hpm, hbl⟩ := HD.out
    have hsz : dk.size = n := hpm.1.trans HF.out.2.1
    by_cases hlt : A + 20 ≤ n
    · obtain ⟨f, rfl⟩ : ∃ q, gk = q + 1 := ⟨gk - 1, by have := HA.out; omega⟩
      have hltI : ((A : Nat) : Int) + 20 ≤ ((n : Nat) : Int) := by omega
      obtain ⟨A2, hA2⟩ : ∃ A2, A2 = A + 20 := ⟨_, rfl⟩
      have hAI : ((A : Nat) : Int) + 20 = ((A2 : Nat) : Int) := by omega
      have HA2 := Aside0.mk hA2
      have HC := Aside0.mk (HI.out A A2 (by omega) (by omega) dk wr hdk hsz HB.out)
      have HE : Aside0 (∀ d', PermIn A A2 dk d' → SortedIn lt A A2 d' → PermIn 0 n d d' ∧ Ben.BlkTo lt 20 (r + 1) d') := ⟨fun d' h1 h2 => ⟨Go.Sort.permIn_trans _ _ _ _ _ hpm (perm_in (Nat.zero_le _) (by have := HA2.out; omega) (by omega) h1), by
        have e := HA.out.1
        rw [HA2.out, e] at h1 h2
        exact hbl.step h1 h2⟩⟩
      have HLT := Aside0.mk hlt
      clear hdk hpm hbl hsz hlt HD hA2
      rw [hAI] at hltI
      go_wp2_with (first | (go_at_call 90; go_must (refine HC.out.mono ?_); rintro e w1 ⟨rfl, ⟨d1, hd1, hp1, hs1⟩, hb1⟩; have HD1 := Aside0.mk (show SlA z w1 g d1 ∧ PermIn 0 n d d1 ∧ Ben.BlkTo lt 20 (r + 1) d1 from ⟨hd1, HE.out d1 hp1 hs1⟩); have HB1 := Aside0.mk hb1; clear hd1 hp1 hs1 hb1))
      go_roundg f
      case measure => exact Nat.lt_succ_self _
      case rel => exact ⟨r + 1, A2, by first | rfl | rw [hAI], by first | rfl | (rw [← hAI]), ⟨by have := HA2.out; have := HA.out; have := HLT.out; omega⟩, ⟨_, HD1.out⟩, HB1⟩
    · have hltI : ¬ ((A : Nat) : Int) + 20 ≤ ((n : Nat) : Int) := by omega
      have HC := Aside0.mk (HI.out A n HA.out.2.1 (Nat.le_refl _) dk wr hdk hsz HB.out)
      have HE : Aside0 (∀ d', PermIn A n dk d' → SortedIn lt A n d' → PermIn 0 n d d' ∧ Ben.Blk lt 20 n d') := ⟨fun d' h1 h2 => ⟨Go.Sort.permIn_trans _ _ _ _ _ hpm (perm_in (Nat.zero_le _) (Nat.le_refl _) (by omega) h1), by
        have e := HA.out.1
        rw [e] at h1 h2
        exact hbl.all (by omega) (by have := HA.out; omega) h1 h2⟩⟩
      clear hdk hpm hbl hsz hlt HD
      go_wp2_with (first | (go_at_call 90; go_must (refine HC.out.mono ?_); rintro e w1 ⟨rfl, ⟨d1, hd1, hp1, hs1⟩, hb1⟩; have HD1 := Aside0.mk (show SlA z w1 g d1 ∧ PermIn 0 n d d1 ∧ Ben.Blk lt 20 n d1 from ⟨hd1, HE.out d1 hp1 hs1⟩); have HB1 := Aside0.mk hb1; clear hd1 hp1 hs1 hb1))
      have HD2 : Aside0 (∃ d', SlA z w1 g d' ∧ PermIn 0 n d d' ∧ Ben.Blk lt 20 n d') := ⟨_, HD1.out⟩
      clear HC HE HD1 hltI
      go_loopg [6] n (fun f v6 wr => ∃ bs : Nat, v6 = .int .i64 ((bs : Nat) : Int) ∧ Aside0 (20 ≤ bs ∧ bs ≤ 2000000 ∧ n ≤ bs + f) ∧ Aside0 (∃ d', SlA z wr g d' ∧ PermIn 0 n d d' ∧ Ben.Blk lt bs n d') ∧ Aside0 (Below B w0 wr))
      case atStart => exact ⟨20, rfl, ⟨by omega⟩, HD2, HB1⟩
      case round =>
        obtain ⟨bs, rfl, HS, HD, HB⟩ := hrel
        clear HD2 HB1
        have hbs : ((bs : Nat) : Int) ≤ 2000000 := by have := HS.out; omega
        by_cases hlt : bs < n
        · obtain ⟨f, rfl⟩ : ∃ q, gk = q + 1 := ⟨gk - 1, by have := HS.out; omega⟩
          have hltI : ((bs : Nat) : Int) < ((n : Nat) : Int) := by omega
          have HLT := Aside0.mk hlt
          have HM0 : Aside0 (∃ d', SlA z wr g d' ∧ PermIn 0 n d d' ∧ Ben.BlkM lt bs n 0 d') := ⟨by
            obtain ⟨d', h1, h2, h3⟩ := HD.out
            exact ⟨d', h1, h2, Ben.BlkM.start h3⟩⟩
          clear hlt HD
          go_wp2
          clear hltI hA1
          go_loopg [7, 8] n (fun f2 v7 v8 wx => ∃ r A : Nat, v7 = .int .i64 ((A : Nat) : Int) ∧ v8 = .int .i64 (((A : Nat) : Int) + 2 * ((bs : Nat) : Int)) ∧ Aside0 (A = r * (2 * bs) ∧ A ≤ n ∧ n ≤ A + f2) ∧ Aside0 (∃ d', SlA z wx g d' ∧ PermIn 0 n d d' ∧ Ben.BlkM lt bs n r d') ∧ Aside0 (Below B w0 wx))
          case atStart => exact ⟨0, 0, rfl, by go_num, ⟨by omega⟩, HM0, HB⟩
          case round =>
            obtain ⟨r, A, rfl, rfl, HA, HD, HB⟩ := hrel
            clear HM0
            have hA1 : ((A : Nat) : Int) ≤ 1000000 := by have := HA.out; have := HF.out; omega
            obtain ⟨dk, hdk, hpm, hbl⟩ := HD.out
            have hsz : dk.size = n := hpm.1.trans HF.out.2.1
            have hmul := Ben.succ_mul' r (2 * bs)
            by_cases hle : A + 2 * bs ≤ n
            · obtain ⟨f2, rfl⟩ : ∃ q, gk = q + 1 := ⟨gk - 1, by have := HA.out; have := HS.out; omega⟩
              obtain ⟨A2, hA2⟩ : ∃ A2, A2 = A + 2 * bs := ⟨_, rfl⟩
              obtain ⟨M, hM⟩ : ∃ M, M = A + bs := ⟨_, rfl⟩
              have hAI : ((A : Nat) : Int) + 2 * ((bs : Nat) : Int) = ((A2 : Nat) : Int) := by omega
              have hMI : ((A : Nat) : Int) + ((bs : Nat) : Int) = ((M : Nat) : Int) := by omega
              have hltI : ((A2 : Nat) : Int) ≤ ((n : Nat) : Int) := by omega
              have HA2 := Aside0.mk hA2
              have hrun := hbl.runs (b := r * (2 * bs) + 2 * bs) (by have := HA.out; omega) (Nat.le_refl _) (by have := HS.out; omega) (Or.inl rfl)
              rw [← HA.out.1, ← hM, ← hA2] at hrun
              have HC := Aside0.mk (HY.out A M A2 (by have := HS.out; omega) (by have := HS.out; omega) (by omega) dk wr hdk hsz HB.out hrun.1 hrun.2)
              have HE : Aside0 (∀ d', PermIn A A2 dk d' → SortedIn lt A A2 d' → PermIn 0 n d d' ∧ Ben.BlkM lt bs n (r + 1) d') := ⟨fun d' h1 h2 => ⟨Go.Sort.permIn_trans _ _ _ _ _ hpm (perm_in (Nat.zero_le _) (by have := HA2.out; omega) (by omega) h1), by
                have e := HA.out.1
                rw [HA2.out, e] at h1 h2
                exact hbl.step h1 h2⟩⟩
              have HN2 : Aside0 (A2 = (r + 1) * (2 * bs) ∧ A2 ≤ n ∧ n ≤ A2 + f2) := ⟨by have := HA.out; have := HS.out; omega⟩
              clear hdk hpm hbl hsz hle HD hA2 hM hrun hmul
              rw [hAI]
              have HAI := Aside0.mk hAI
              clear hAI
              have hA2' : ((A2 : Nat) : Int) ≤ 1000000 := by have := HN2.out; have := HF.out; omega
              go_wp2_with (first | (go_at_call 91; go_must (refine HC.out.mono ?_); rintro e w1 ⟨rfl, ⟨d1, hd1, hp1, hs1⟩, hb1⟩; have HD1 := Aside0.mk (show SlA z w1 g d1 ∧ PermIn 0 n d d1 ∧ Ben.BlkM lt bs n (r + 1) d1 from ⟨hd1, HE.out d1 hp1 hs1⟩); have HB1 := Aside0.mk hb1; clear hd1 hp1 hs1 hb1))
              go_roundg f2
              case measure => exact Nat.lt_succ_self _
              case rel => exact ⟨r + 1, A2, rfl, rfl, HN2, ⟨_, HD1.out⟩, HB1⟩
            · obtain ⟨M, hM⟩ : ∃ M, M = A + bs := ⟨_, rfl⟩
              have hMI : ((A : Nat) : Int) + ((bs : Nat) : Int) = ((M : Nat) : Int) := by omega
              have hltI : ¬ ((A : Nat) : Int) + 2 * ((bs : Nat) : Int) ≤ ((n : Nat) : Int) := by omega
              have HS2 : Aside0 (20 ≤ bs * 2 ∧ bs * 2 ≤ 2000000 ∧ n ≤ bs * 2 + f) := ⟨by have := HS.out; have := HLT.out; have := HF.out; omega⟩
              have hb2 : ((bs : Nat) : Int) * 2 ≤ 2000000 := by have := HS2.out; omega
              by_cases hMn : M < n
              · have hMnI : ((M : Nat) : Int) < ((n : Nat) : Int) := by omega
                have hrun := hbl.runs (b := n) (Nat.le_refl _) (by have := HA.out; omega) (by have := HA.out; omega) (Or.inr rfl)
                rw [← HA.out.1, ← hM] at hrun
                have HC := Aside0.mk (HY.out A M n (by have := HS.out; omega) hMn (Nat.le_refl _) dk wr hdk hsz HB.out hrun.1 hrun.2)
                have HE : Aside0 (∀ d', PermIn A n dk d' → SortedIn lt A n d' → PermIn 0 n d d' ∧ Ben.Blk lt (bs * 2) n d') := ⟨fun d' h1 h2 => ⟨Go.Sort.permIn_trans _ _ _ _ _ hpm (perm_in (Nat.zero_le _) (Nat.le_refl _) (by omega) h1), by
                  have e := HA.out.1
                  rw [e] at h1 h2
                  rw [Nat.mul_comm]
                  exact hbl.all (by omega) (Or.inr ⟨h1, h2⟩)⟩⟩
                clear hdk hpm hbl hsz hle HD hM hrun hmul hMn
                go_wp2_with (first | (go_at_call 91; go_must (refine HC.out.mono ?_); rintro e w1 ⟨rfl, ⟨d1, hd1, hp1, hs1⟩, hb1⟩; have HD1 := Aside0.mk (show SlA z w1 g d1 ∧ PermIn 0 n d d1 ∧ Ben.Blk lt (bs * 2) n d1 from ⟨hd1, HE.out d1 hp1 hs1⟩); have HB1 := Aside0.mk hb1; clear hd1 hp1 hs1 hb1))
                go_roundg f
                case measure => exact Nat.lt_succ_self _
                case rel => exact ⟨bs * 2, by go_num, HS2, ⟨_, HD1.out⟩, HB1⟩
              · have hMnI : ¬ ((M : Nat) : Int) < ((n : Nat) : Int) := by omega
                have HE : Aside0 (∃ d', SlA z wr g d' ∧ PermIn 0 n d d' ∧ Ben.Blk lt (bs * 2) n d') := ⟨dk, hdk, hpm, by rw [Nat.mul_comm]; exact hbl.all (by have := HA.out; omega) (Or.inl ⟨by have := HA.out; omega, rfl⟩)⟩
                clear hdk hpm hbl hsz hle HD hM hmul hMn
                go_wp2
                go_roundg f
                case measure => exact Nat.lt_succ_self _
                case rel => exact ⟨bs * 2, by go_num, HS2, HE, HB⟩
        · have hltI : ¬ ((bs : Nat) : Int) < ((n : Nat) : Int) := by omega
          have HE : Aside0 (∃ d', SlA z wr g d' ∧ PermIn 0 n d d' ∧ SortedIn lt 0 n d') := ⟨by
            obtain ⟨d', h1, h2, h3⟩ := HD.out
            exact ⟨d', h1, h2, Ben.Blk.done h3 (by omega)⟩⟩
          clear hlt HD
          go_wp2
          go_end0
          exact ⟨rfl, HE.out, HB.out⟩
theorem ins_empty (v cv : Value) (w : World) : Calls Tryd.prog 90 #[v, .int .i64 0, .int .i64 0, cv] w fun e w' => e = .returned (.tuple #[]) ∧ w = w' := by
  go_enter Tryd.func90, Tryd.ntmps90
  go_wp2
  go_loopg [8] 0 (fun f v8 wr => v8 = .int .i64 1 ∧ wr = w)
  case atStart => exact ⟨rfl, rfl⟩
  case round =>
    obtain ⟨rfl, rfl⟩ := hrel
    go_wp2
    go_end0
    exact ⟨rfl, rfl⟩
theorem stab_empty (v cv : Value) (w : World) : Calls Tryd.prog 78 #[v, .int .i64 0, cv] w fun e w' => e = .returned (.tuple #[]) ∧ w = w' := by
  go_enter Tryd.func78, Tryd.ntmps78
  go_wp2
  go_loopg [7, 8] 0 (fun f v7 v8 wr => v7 = .int .i64 0 ∧ v8 = .int .i64 20 ∧ wr = w)
  case atStart => exact ⟨rfl, rfl, rfl⟩
  case round =>
    obtain ⟨rfl, rfl, rfl⟩ := hrel
    go_wp2_with (first | (go_at_call 90; refine (ins_empty _ _ _).mono ?_; rintro e w' ⟨rfl, rfl⟩))
    go_loopg [6] 0 (fun f v6 wx => v6 = .int .i64 20 ∧ wx = wr)
    case atStart => exact ⟨rfl, rfl⟩
    case round =>
      obtain ⟨rfl, rfl⟩ := hrel
      go_wp2
      go_end0
      exact ⟨rfl, rfl⟩
end Go.Proofs.YtmnhcbaocoofoaaDoor.P
namespace Go.Proofs.YtmnhcbaocoofoaaDoor.P
open Go.RowKit YtmnhcbaocoofoaaDoorW.PrintWords YtmnhcbaocoofoaaDoorW.PrintLast YtmnhcbaocoofoaaDoorW.PrintMore
open Go.Sort (swp SWO PermIn SortedIn Ins)
def QCall (P : Program) (f : FuncId) (args : Array Value) (v : Value) : Prop := ∀ W, Calls P f args W fun e w' => e = .returned v ∧ W = w'
theorem cmp_q (x y : Int) : QCall Tryd.prog 68 #[.int .i64 x, .int .i64 y] (.int .i64 (Lib.compareInt x y)) := fun W => (Tryd.cmp_Compare_int x y W).mono fun e w' ⟨h1, h2⟩ => ⟨h1, h2.symm⟩
def or2 (x y : Int) : Int := if x = 0 then y else x
set_option maxHeartbeats 4000000 in
theorem or_calls (g : Nat) (x y : Int) (w : World) (hb : w.heap[g]? = some (.cells #[.int .i64 x, .int .i64 y] 3 (0, 0))) : Calls Tryd.prog 67 #[.slice (some ⟨g, 0, none⟩) 2 2] w fun e w' => e = .returned (.int .i64 (or2 x y)) ∧ w = w' := by
  have h0 : w.cell? ⟨g, 0, none⟩ = some (.int .i64 x) := (blk_cell hb 0).trans rfl
  have h1 : w.cell? ⟨g, 1, none⟩ = some (.int .i64 y) := (blk_cell hb 1).trans rfl
  clear hb
  go_enter Tryd.func67, Tryd.ntmps67
  go_wp2
  go_loopg [8] 3 (fun f v8 wr => ∃ k : Nat, k + f = 3 ∧ v8 = .int .i64 ((k : Nat) : Int) ∧ Aside0 ((0 < k → x = 0) ∧ (1 < k → y = 0) ∧ k ≤ 2) ∧ wr = w)
  case atStart => exact ⟨0, rfl, rfl, ⟨by omega⟩, rfl⟩
  case round =>
    obtain ⟨k, hk, rfl, HK, rfl⟩ := hrel
    by_cases k0 : k = 0
    · subst k0
      obtain rfl : gk = 3 := by omega
      by_cases hx : x = 0
      · have HX := Aside0.mk hx
        have hb : (x != 0) = false := by rw [hx]; rfl
        clear hx
        go_wp2
        go_roundg 2
        case measure => omega
        case rel => exact ⟨1, rfl, rfl, ⟨by have := HX.out; omega⟩, rfl⟩
      · have HX : Aside0 (or2 x y = x) := ⟨if_neg hx⟩
        have hb : (x != 0) = true := by rw [bne_iff_ne]; exact hx
        clear hx
        go_wp2
        go_ret
        exact ⟨by rw [HX.out]; rfl, rfl⟩
    · by_cases k1 : k = 1
      · subst k1
        obtain rfl : gk = 2 := by omega
        have HX : Aside0 (or2 x y = y) := ⟨if_pos (HK.out.1 (by omega))⟩
        by_cases hx : y = 0
        · have HY := Aside0.mk hx
          have hb : (y != 0) = false := by rw [hx]; rfl
          clear hx
          go_wp2
          go_roundg 1
          case measure => omega
          case rel => exact ⟨2, rfl, rfl, ⟨by have := HY.out; have := HK.out; omega⟩, rfl⟩
        · have hb : (y != 0) = true := by rw [bne_iff_ne]; exact hx
          clear hx
          go_wp2
          go_ret
          exact ⟨by rw [HX.out]; rfl, rfl⟩
      · obtain rfl : k = 2 := by have := HK.out; omega
        have HX : Aside0 (or2 x y = 0) := ⟨by have h1 := HK.out.1 (by omega); have h2 := HK.out.2.1 (by omega); unfold or2; rw [if_pos h1, h2]⟩
        clear k0 k1
        go_wp2
        go_ret
        exact ⟨by rw [HX.out]; rfl, rfl⟩
def ltB (p q : S50) : Bool := decide (p.f1 < q.f1 ∨ p.f1 = q.f1 ∧ p.f2 < q.f2)
theorem ltB_swo : SWO ltB where
  irrefl x := by unfold ltB; simp
  trans x y z h1 h2 := by unfold ltB at *; simp at *; omega
  ntrans x y z h1 h2 := by unfold ltB at *; simp at *; omega
theorem compareInt_lt (x y : Int) : (Lib.compareInt x y < 0 ↔ x < y) ∧ (Lib.compareInt x y = 0 ↔ x = y) := by
  unfold Lib.compareInt
  split <;> (try split) <;> omega
theorem or2_ltB (p q : S50) : decide (or2 (Lib.compareInt p.f1 q.f1) (Lib.compareInt p.f2 q.f2) < 0) = ltB p q := by
  have h1 := compareInt_lt p.f1 q.f1
  have h2 := compareInt_lt p.f2 q.f2
  unfold or2 ltB
  rw [Bool.eq_iff_iff]
  simp only [decide_eq_true_eq]
  split <;> omega
def cmpR.T1 : Bool × List (List Nat × List Nat) := (true, [([], []), ([0], [0]), ([], []), ([2], [2]), ([1, 3], [1, 3]), ([], []), ([5], [5]), ([], []), ([7], [7]), ([6, 8, 4], [6, 8]), ([4, 9], [4, 9]), ([10, 9], [10]), ([11, 11, 0, 1, 2, 3, 4, 5, 6, 7, 8, 9, 10, 11], [11])])
def cmpR.B1 : List Nat := [0, 1, 0, 4, 15, 0, 32, 0, 128, 511, 1023, 2047, 4095]
theorem cmpR.tab1 : rtab .any (opsOf Tryd.f66 1) = cmpR.T1 := by kernel_rfl
theorem cmpR.bits1 : waitsOk cmpR.T1.2 cmpR.B1 = true := by kernel_rfl
set_option maxHeartbeats 4000000 in
set_option maxRecDepth 100000 in
theorem by_bench (p q : S50) (w : World) : Calls Tryd.prog 66 #[slA p, slA q] w fun e w' => ∃ r : Int, e = .returned (.int .i64 r) ∧ decide (r < 0) = ltB p q ∧ Below w.heap.size w w' := by
  obtain ⟨p0, p1, p2, p3⟩ := p
  obtain ⟨q0, q1, q2, q3⟩ := q
  have HO := Aside0.mk (or2_ltB ⟨p0, p1, p2, p3⟩ ⟨q0, q1, q2, q3⟩)
  have HB := Aside0.mk (Below.refl w.heap.size w)
  unfold slA
  simp only
  go_enter Tryd.func66, Tryd.ntmps66
  go_wp2_with (first
    | ((with_reducible refine gate_dst (N := 2) rfl ?_); refine bxe 2 #[.int .i64 p0, .int .i64 p1, .int .i64 p2, .int .i64 p3] 50 ?_; intro g1 hg1 w1 hbox1 hb1; have HX1 := Aside0.mk hbox1; have HB1 := Aside0.mk (below_step HB.out hb1); clear hg1 hbox1 hb1)
    | ((with_reducible refine gate_dst (N := 3) rfl ?_); refine bxe 3 #[.int .i64 q0, .int .i64 q1, .int .i64 q2, .int .i64 q3] 50 ?_; intro g2 hg2 w2 hbox2 hb2; have HX2 := Aside0.mk hbox2; have HX3 := Aside0.mk ((hb2.block _ (blk_lt HX1.out)).trans HX1.out); have HB2 := Aside0.mk (below_step HB1.out hb2); clear hg2 hbox2 hb2))
  have hp1 : w2.drew.cell? ⟨g1, 1, none⟩ = some (.int .i64 p1) := (blk_cell HX3.out 1).trans rfl
  have hp2 : w2.drew.cell? ⟨g1, 2, none⟩ = some (.int .i64 p2) := (blk_cell HX3.out 2).trans rfl
  have hq1 : w2.drew.cell? ⟨g2, 1, none⟩ = some (.int .i64 q1) := (blk_cell HX2.out 1).trans rfl
  have hq2 : w2.drew.cell? ⟨g2, 2, none⟩ = some (.int .i64 q2) := (blk_cell HX2.out 2).trans rfl
  have HBD := Aside0.mk (below_drew HB2.out)
  have HC1 := Aside0.mk (cmp_q p1 q1)
  have HC2 := Aside0.mk (cmp_q p2 q2)
  refine start_ (n := 13) (S := fun w' => w'.cell? ⟨g1, 1, none⟩ = some (.int .i64 p1) ∧ w'.cell? ⟨g1, 2, none⟩ = some (.int .i64 p2) ∧ w'.cell? ⟨g2, 1, none⟩ = some (.int .i64 q1) ∧ w'.cell? ⟨g2, 2, none⟩ = some (.int .i64 q2)) (ds := [10, 11]) (Bs 0 13) (by kernel_rfl) rfl rfl ⟨hp1, hp2, hq1, hq2⟩ (fun hHeld => ?_)
  generalize w2.drew = w4 at HBD hp1 hp2 hq1 hq2 hHeld ⊢
  refine with_tabW cmpR.tab1 cmpR.bits1 (fun HT_ HW_ => ?_)
  refine pu 0 5 (Bs 1 13) HT_ ?_
  refine pu 2 7 (Br [1,1,1,10]) HT_ ?_
  refine pu 5 10 (Br [1,1,1,2,1,7]) HT_ ?_
  refine pu 7 12 (Br [1,1,1,2,1,1,1,5]) HT_ ?_
  refine ta 1 6 (Br [3,2,1,1,1,5]) HT_ HW_ hHeld ?_
  refine ta 3 8 (Br [4,1,1,1,1,5]) HT_ HW_ hHeld ?_
  refine ta 6 11 (Br [4,1,3,5]) HT_ HW_ hHeld ?_
  refine ta 8 13 (Br [4,1,4,4]) HT_ HW_ hHeld ?_
  refine one_ (i := 4) (N := some 9) (Bs 9 13) rfl rfl (one_of HT_.out (by kernel_rfl)) (by decide) (fun K hK => ?_)
  refine goes_ Tryd.func68 (by kernel_rfl) rfl #[.int .i64 p1, .int .i64 q1] (by rfl) rfl rfl (by (try simp only [List.map_toArray, List.map_cons, List.map_nil]); first | done | rfl) ?_
  refine (HC1.out _).mono ?_
  rintro e w6 ⟨rfl, rfl⟩
  refine ⟨_, rfl, ?_⟩
  refine hK.out _ _ ⟨hp1, hp2, hq1, hq2⟩ (fun hHeld => ?_)
  clear hK K
  refine nm 9 ?_
  refine one_ (i := 9) (N := some 14) (Bs 10 13) rfl rfl (one_of HT_.out (by kernel_rfl)) (by decide) (fun K hK => ?_)
  refine goes_ Tryd.func68 (by kernel_rfl) rfl #[.int .i64 p2, .int .i64 q2] (by rfl) rfl rfl (by (try simp only [List.map_toArray, List.map_cons, List.map_nil]); first | done | rfl) ?_
  refine (HC2.out _).mono ?_
  rintro e w6 ⟨rfl, rfl⟩
  refine ⟨_, rfl, ?_⟩
  refine hK.out _ _ ⟨hp1, hp2, hq1, hq2⟩ (fun hHeld => ?_)
  clear hK K
  refine nm 14 ?_
  refine last_ (i := 10) (N := some 15) (Bs 11 13) rfl rfl (one_of HT_.out (by kernel_rfl)) (by decide) (fun K hK => ?_)
  refine value_ (w1 := ?_) (v := ?_) (by rfl) rfl ?_ ?_
  rotate_left 2
  · go_simp
    constructor
    · rfl
    · rfl
  refine hK.out _ _ ?_
  clear hK K
  refine nm 15 ?_
  refine last_ (i := 11) (N := some 16) (Bs 12 13) rfl rfl (one_of HT_.out (by kernel_rfl)) (by decide) (fun K hK => ?_)
  have hbx := heap_alloc_new w4 (.cells #[.int .i64 (Lib.compareInt p1 q1), .int .i64 (Lib.compareInt p2 q2)] 3)
  have HB6 := Aside0.mk (below_alloc HBD.out (.cells #[.int .i64 (Lib.compareInt p1 q1), .int .i64 (Lib.compareInt p2 q2)] 3))
  refine goes_ Tryd.func67 (by kernel_rfl) rfl #[.slice (some ⟨w4.heap.size, 0, none⟩) 2 2] (by rfl) rfl rfl (by (try simp only [List.map_toArray, List.map_cons, List.map_nil]); first | done | rfl) ?_
  refine (or_calls _ _ _ _ hbx).mono ?_
  rintro e w6 ⟨rfl, rfl⟩
  refine ⟨_, rfl, ?_⟩
  refine hK.out _ _ ?_
  clear hK K
  refine nm 16 ?_
  refine pu 12 4 (Bs 13 13) HT_ ?_
  refine done_ (done_of HT_.out (by kernel_rfl)) ?_
  go_wp2
  go_ret
  exact ⟨_, rfl, HO.out, HB6.out⟩
def enc4 (p : S50) : List Value := [.int .i64 p.f0, .int .i64 p.f1, .int .i64 p.f2, .int .i64 p.f3]
def fl4 (xs : List S50) : List Value := xs.flatMap enc4
theorem fl4_len (xs : List S50) : (fl4 xs).length = xs.length * 4 := by
  induction xs with
  | nil => rfl
  | cons p xs ih => show (enc4 p ++ fl4 xs).length = _; rw [List.length_append, ih, List.length_cons]; simp [enc4]; omega
theorem fl4_get (xs : List S50) (k j : Nat) (hk : k < xs.length) (hj : j < 4) : (fl4 xs)[k * 4 + j]? = some (slC xs[k] j) := by
  induction xs generalizing k with
  | nil => simp at hk
  | cons p xs ih =>
    show (enc4 p ++ fl4 xs)[k * 4 + j]? = _
    cases k with
    | zero =>
      rw [List.getElem?_append_left (by simp [enc4]; omega)]
      match j, hj with
      | 0, _ => rfl
      | 1, _ => rfl
      | 2, _ => rfl
      | 3, _ => rfl
    | succ k =>
      rw [List.getElem?_append_right (by simp [enc4]; omega), show (k + 1) * 4 + j - (enc4 p).length = k * 4 + j by simp [enc4]; omega]
      simpa using ih k (by simpa using hk)
theorem fl4_one (xs : List S50) (v : Value) (hv : v ∈ fl4 xs) : v.oneCell' = true := by
  unfold fl4 at hv
  rw [List.mem_flatMap] at hv
  obtain ⟨p, _, h⟩ := hv
  simp [enc4] at h
  rcases h with rfl | rfl | rfl | rfl <;> rfl
theorem reps_fl4 {R : S50 → List Value → Prop} (hR : ∀ p cs, R p cs → cs = enc4 p) : ∀ {xs : List S50} {inner : List Value}, Reps R 4 xs inner → inner = fl4 xs
  | [], inner, h => by
    have := h.1
    simp at this
    subst this; rfl
  | p :: xs, inner, h => by
    have h0 := hR _ _ (h.2 0 p rfl)
    rw [Nat.zero_mul, List.drop_zero] at h0
    have ht : Reps R 4 xs (inner.drop 4) := by
      refine ⟨by rw [List.length_drop, h.1, List.length_cons]; omega, fun j q hq => ?_⟩
      have := h.2 (j + 1) q (by simpa using hq)
      rw [show (j + 1) * 4 = 4 + j * 4 by omega, ← List.drop_drop] at this
      exact this
    have := reps_fl4 hR ht
    rw [← List.take_append_drop 4 inner, h0, this]
    rfl
theorem fl4_reps {R : S50 → List Value → Prop} (hR : ∀ p, R p (enc4 p)) (xs : List S50) : Reps R 4 xs (fl4 xs) := by
  refine ⟨by rw [fl4_len], fun j p hp => ?_⟩
  obtain ⟨hj, e⟩ := List.getElem?_eq_some_iff.1 hp
  have : ((fl4 xs).drop (j * 4)).take 4 = enc4 p := by
    apply List.ext_getElem?
    intro i
    rw [List.getElem?_take]
    by_cases hi : i < 4
    · rw [if_pos hi, List.getElem?_drop, fl4_get xs j i hj hi, e]
      match i, hi with
      | 0, _ => rfl
      | 1, _ => rfl
      | 2, _ => rfl
      | 3, _ => rfl
    · rw [if_neg hi]; simp [enc4]; omega
  rw [this]
  exact hR p
theorem own_of_R50 {w : World} {base : Nat} {ok : Nat → Prop} {v : Value} {xs : List S50} (h : Kd.R k50 50 w base ok v xs) : w.ownsRow base 50 4 v xs.length (fl4 xs) := by
  obtain ⟨_, inner, ho, hr⟩ := h
  rw [reps_fl4 (fun p cs hp => k50_openM hp) hr] at ho
  exact ho
theorem R50_of_own {w : World} {base : Nat} {ok : Nat → Prop} {v : Value} {xs : List S50} (ho : w.ownsRow base 50 4 v xs.length (fl4 xs)) (hok : ∀ k, v.ownBlock = some k → ok k) : Kd.R k50 50 w base ok v xs :=
  ⟨hok, fl4 xs, ho, fl4_reps (fun p => k50_mkM _ _ _ p) xs⟩
theorem get_toArray (xs : List S50) (k : Nat) (hk : k < xs.length) : xs.toArray[k]! = xs[k] := by
  rw [getElem!_pos _ _ (by simpa using hk)]; simp
theorem SlA_of_own {w : World} {base g n cap : Nat} {xs : List S50} (h : w.ownsRow base 50 4 (.slice (some ⟨g, 0, none⟩) n cap) n (fl4 xs)) (hn : n = xs.length) : SlA (cap * 4) w g xs.toArray ∧ base ≤ g := by
  obtain ⟨_, hv⟩ := h
  rcases hv with ⟨hv, _⟩ | ⟨g', cap', cur, hv, hg, hblk, _, _, hcs, htk⟩
  · simp at hv
  · simp only [Value.slice.injEq, Option.some.injEq, Addr.mk.injEq] at hv
    obtain ⟨⟨rfl, _⟩, _, rfl⟩ := hv
    refine ⟨⟨cur, hblk, hcs, fun i hi => ?_⟩, hg⟩
    rw [List.size_toArray] at hi
    have h1 : (cur.toList.take (n * 4))[i]? = (fl4 xs)[i]? := by rw [htk]
    rw [List.getElem?_take, if_pos (by omega)] at h1
    rw [← Array.getElem?_toList, h1, get_toArray _ _ (by omega)]
    have := fl4_get xs (i / 4) (i % 4) (by omega) (by omega)
    rwa [show i / 4 * 4 + i % 4 = i by omega] at this
theorem own_of_SlA {w w' : World} {base g n cap : Nat} {xs ys : List S50} (h : w.ownsRow base 50 4 (.slice (some ⟨g, 0, none⟩) n cap) n (fl4 xs)) (hs : SlA (cap * 4) w' g ys.toArray) (hl : ys.length = n) :
    w'.ownsRow base 50 4 (.slice (some ⟨g, 0, none⟩) n cap) n (fl4 ys) := by
  obtain ⟨_, hv⟩ := h
  refine ⟨by rw [fl4_len, hl], ?_⟩
  rcases hv with ⟨hv, _⟩ | ⟨g', cap', cur, hv, hg, hblk, hc1, hc2, hcs, htk⟩
  · simp at hv
  · simp only [Value.slice.injEq, Option.some.injEq, Addr.mk.injEq] at hv
    obtain ⟨⟨rfl, _⟩, _, rfl⟩ := hv
    obtain ⟨cs', hb', he, hc⟩ := hs
    refine .inr ⟨g, cap, cs', rfl, hg, hb', hc1, hc2, he, ?_⟩
    have hms : n * 4 ≤ cap * 4 := Nat.mul_le_mul_right 4 hc1
    apply List.ext_getElem?
    intro i
    rw [List.getElem?_take]
    by_cases hi : i < n * 4
    · rw [if_pos hi, Array.getElem?_toList, hc i (by rw [List.size_toArray, hl]; exact hi), get_toArray _ _ (by omega)]
      have := fl4_get ys (i / 4) (i % 4) (by omega) (by omega)
      rw [show i / 4 * 4 + i % 4 = i by omega] at this
      exact this.symm
    · rw [if_neg hi, List.getElem?_eq_none (by rw [fl4_len, hl]; omega)]
end Go.Proofs.YtmnhcbaocoofoaaDoor.P
namespace Go.Proofs.YtmnhcbaocoofoaaDoor.P
open Go.RowKit YtmnhcbaocoofoaaDoorW.PrintWords
theorem rX {α : Type} {d : Kd α} {e base : Nat} {ok : Nat → Prop} {v : Value} {xs : List α} {w W : World} [h : On w W] (k : d.R e w base ok v xs) : d.R e W base ok v xs :=
  Kd.R_step k (fun j _ hj => by
    have e : w.heap[j]? = some w.heap[j] := Array.getElem?_eq_getElem hj
    rw [h.at_ e, e])
end Go.Proofs.YtmnhcbaocoofoaaDoor.P
namespace Go.Proofs.YtmnhcbaocoofoaaDoor.P
open Go.RowKit YtmnhcbaocoofoaaDoorW.PrintWords YtmnhcbaocoofoaaDoorW.PrintLast YtmnhcbaocoofoaaDoorW.PrintMore
open Go.Proofs.YtmnhcbaocoofoaaDoor.Ben (Rm putR addF Tk St Sl jobW wrapK)
attribute [local go_sem] max2_int min2_int max_two min_two
def sl50 (s : Sl) : S50 := ⟨((s.job : Nat) : Int), ((s.bench : Nat) : Int), s.fr, s.til⟩
structure JobS (fr tq : Int) (f : Nat) (w a : Int) : Prop where
  at_ : fr ≤ a ∧ a < tq
  hw : 0 ≤ w ∧ w ≤ tq - fr
  hf : f = 2 ∨ f = 1 ∧ (w = 0 ∨ a = fr ∧ w < tq - fr) ∨ f = 0 ∧ w = 0
theorem JobS.more {fr tq : Int} {f : Nat} {w a : Int} (h : JobS fr tq f w a) (hw : 0 < w) : ∃ f', f = f' + 1 ∧ ∀ n, n = min w (tq - a) → 0 < n ∧ n ≤ w ∧ n ≤ tq - a ∧ (a + n = tq → JobS fr tq f' (w - n) fr) ∧ (a + n ≠ tq → JobS fr tq f' (w - n) (a + n)) := by
  obtain ⟨h1, h2, h3⟩ := h
  obtain ⟨f', rfl⟩ : ∃ f', f = f' + 1 := ⟨f - 1, by omega⟩
  refine ⟨f', rfl, fun n hn => ⟨by omega, by omega, by omega, fun e => ⟨by omega, by omega, ?_⟩, fun e => ⟨by omega, by omega, ?_⟩⟩⟩
  · omega
  · omega
theorem jobW_eq {k : Nat} {fr tq : Int} {f : Nat} {w : Int} {b : Nat} {a n : Int} (hw : 0 < w) (hn : n = min w (tq - a)) (he : a + n = tq) : jobW k fr tq (f + 1) w b a = (⟨k, b, a, tq⟩ :: (jobW k fr tq f (w - n) (b + 1) fr).1, (jobW k fr tq f (w - n) (b + 1) fr).2) := by
  conv => lhs; unfold jobW
  rw [if_pos hw, ← hn, if_pos he, he]
theorem jobW_ne {k : Nat} {fr tq : Int} {f : Nat} {w : Int} {b : Nat} {a n : Int} (hw : 0 < w) (hn : n = min w (tq - a)) (he : ¬ a + n = tq) : jobW k fr tq (f + 1) w b a = (⟨k, b, a, a + n⟩ :: (jobW k fr tq f (w - n) b (a + n)).1, (jobW k fr tq f (w - n) b (a + n)).2) := by
  conv => lhs; unfold jobW
  rw [if_pos hw, ← hn, if_neg he]
theorem jobW_0 (k : Nat) (fr tq : Int) (f b : Nat) (a : Int) : jobW k fr tq f 0 b a = ([], b, a) := by
  cases f with
  | zero => rfl
  | succ f => unfold jobW; rw [if_neg (by omega)]
theorem wrapK_s (y : Nat → Int) (fr tq : Int) {k : Nat} {ls : List Sl} {ob : Nat} {oa : Int} (h : wrapK y fr tq k = (ls, ob, oa)) {dn : List Sl} {b0 : Nat} {a0 : Int} (h1 : dn = (jobW k fr tq 2 (y k) ob oa).1) (h2 : (b0, a0) = (jobW k fr tq 2 (y k) ob oa).2) : wrapK y fr tq (k + 1) = (ls ++ dn, b0, a0) := by
  show ((wrapK y fr tq k).1 ++ (jobW k fr tq 2 (y k) (wrapK y fr tq k).2.1 (wrapK y fr tq k).2.2).1, (jobW k fr tq 2 (y k) (wrapK y fr tq k).2.1 (wrapK y fr tq k).2.2).2) = _
  rw [h, h1, ← h2]
theorem blk_over {w w1 : World} {base : Nat} {v : Value} {xs : List S50} (h : Kd.R k50 50 w base (fun _ => True) v xs) {g t : Nat} {cs : Array Value} (hb : w.heap[g]? = some (.cells cs t (0, 0))) (ht : t ≠ 50) (hg : w.grownBy w1 v.ownBlock) : w1.heap[g]? = some (.cells cs t (0, 0)) := by
  refine (hg.block g (blk_lt hb) (fun e => ?_)).trans hb
  obtain ⟨cs', hc⟩ := own_typed (own_of_R50 h) g e.symm
  rw [hb] at hc
  injection hc with hc
  injection hc with _ hc
  exact ht hc
theorem look_at {w : World} {b n : Nat} {R : Rm} (h : Mp w b n R) {x y : Nat} {r : Int} (hx : x ≤ 100000) (hy : y ≤ 100000) (hr : R x y = r) : (Instr.lookup 109 (.map (some b)) (.agg #[.int .i64 ((x : Nat) : Int), .int .i64 ((y : Nat) : Int)]) false).run Tryd.prog w = .ok (.int .i64 r) w := by
  subst hr
  exact mp_look h (by unfold nd; omega) (by unfold nd; omega)
def wrapR.T7 : Bool × List (List Nat × List Nat) := (true, [([], []), ([0], [0]), ([1], [1]), ([2], [2]), ([3], [3]), ([4], [4]), ([5], [5]), ([], []), ([], []), ([7, 8], [7, 8]), ([], []), ([], []), ([10, 11, 9], [10, 11]), ([9, 12], [9, 12]), ([6, 13], [6, 13]), ([14, 12, 0, 1, 2, 3, 4, 5, 6, 7, 8, 9, 10, 11, 12, 13, 14], [14])])
def wrapR.B7 : List Nat := [0, 1, 3, 7, 15, 31, 63, 0, 0, 384, 0, 0, 3968, 8064, 16383, 32767]
theorem wrapR.tab7 : rtab .any (opsOf Tryd.f64 7) = wrapR.T7 := by kernel_rfl
theorem wrapR.bits7 : waitsOk wrapR.T7.2 wrapR.B7 = true := by kernel_rfl
set_option maxHeartbeats 16000000 in
set_option maxRecDepth 100000 in
theorem wrap_calls (B0 p x b g base n i : Nat) (B : Int) (A : Option Addr) (c : Nat) (js : List S40) (AP : Option Addr) (cp : Nat) (wk : Int) (st : St) (w : World) (ht : TaskOk B js) (hP : Prb B0 w p x b g base n B A c js AP cp wk st) (hi : i < (tk B js).K)
    (hy : ∀ k, k < js.length → 0 ≤ st.R (1 + js.length + i) (1 + k) ∧ st.R (1 + js.length + i) (1 + k) ≤ (tk B js).len i) :
    Calls Tryd.prog 64 #[.pointer (some ⟨p, 0, none⟩), .int .i64 (i : Int)] w fun e w' => ∃ v, e = .returned v ∧
      Kd.R k50 50 w' w.heap.size (fun _ => True) v ((wrapK (fun k => st.R (1 + js.length + i) (1 + k)) (((tk B js).at_ i : Nat) : Int) (((tk B js).at_ (i + 1) : Nat) : Int) js.length).1.map sl50) ∧ Below w.heap.size w w' := by
  have HT := Aside0.mk ht
  have HP := Aside0.mk hP
  have HB := Aside0.mk (Below.refl w.heap.size w)
  obtain ⟨hp0, hp1, hp2, hp3, _, _⟩ := hP.pb.at
  obtain ⟨ad2, rfl, hs0, hs1⟩ := hP.span ht hi
  have hln := ht.len hi
  have hlr : (((tk B js).at_ (i + 1) : Nat) : Int) - (((tk B js).at_ i : Nat) : Int) = (tk B js).len i := rfl
  have hfr := (ht.cut (i := i) (by omega) (by omega)).2
  have htt := (ht.cut (i := i + 1) (by omega) (by omega)).2
  have hKb := ht.K
  generalize hyy : (fun k => st.R (1 + js.length + i) (1 + k)) = y
  obtain ⟨pn, hpn⟩ : ∃ pn, pn = 1 + js.length + i := ⟨_, rfl⟩
  have HPN := Aside0.mk hpn
  have HYV : Aside0 (∀ k, st.R pn (1 + k) = y k) := ⟨fun k => by rw [hpn, ← hyy]⟩
  have HYB : Aside0 (∀ k, k < js.length → 0 ≤ y k ∧ y k ≤ (tk B js).len i) := ⟨fun k hk => by rw [← hyy]; exact hy k hk⟩
  clear hyy hy hpn
  have hx0 : w.cell? ⟨x, 0, none⟩ = some (.map (some b)) := (blk_cell hP.net.head 0).trans rfl
  have hm := ht.m
  have hmI : ((js.length : Nat) : Int) ≤ 32 := by omega
  have HM1 := Aside0.mk (show js.length ≤ 10000 by omega)
  have HIB := Aside0.mk (show i ≤ 10000 by omega)
  have HPB := Aside0.mk hP.pb
  have hiI : ((i : Nat) : Int) < (((tk B js).K : Nat) : Int) := by omega
  generalize (tk B js).len i = ln at *
  generalize (tk B js).at_ i = fr at *
  generalize (tk B js).at_ (i + 1) = tt at *
  have HLR := Aside0.mk hlr
  have HLN := Aside0.mk hln
  have hu55 := Tryd.underlying55
  have hu79 := Tryd.underlying79
  have hu97 := Tryd.underlying97
  have hu50 := Tryd.underlying50
  clear hp0 hlr hln hP ht
  have hKK : Aside0 True := ⟨trivial⟩
  go_enter Tryd.func64, Tryd.ntmps64
  go_wp2_with (first | ((with_reducible refine gate_dst (N := 6) rfl ?_); refine bxe 6 #[.int .i64 0, .int .i64 0] 97 ?_; intro gs hgs w3 hbox3 hb3; have HX3 := Aside0.mk hbox3; have HG3 := Aside0.mk (show w.heap.size ≤ gs by rw [hgs]; exact Nat.le_refl _); have HB3 := Aside0.mk hb3; have c0 : w3.cell? ⟨gs, 0, none⟩ = some (.int .i64 0) := (blk_cell HX3.out 0).trans rfl; have f0 := blk_frozen HX3.out 0; have c1 : w3.cell? ⟨gs, 1, none⟩ = some (.int .i64 0) := (blk_cell HX3.out 1).trans rfl; have f1 := blk_frozen HX3.out 1; clear hgs hbox3 hb3))
  have HS4 : Aside0 (((w3.setCell ⟨gs, 0, none⟩ (.int .i64 ((fr : Nat) : Int))).setCell ⟨gs, 1, none⟩ (.int .i64 ((tt : Nat) : Int))).heap[gs]? = some (.cells #[.int .i64 ((fr : Nat) : Int), .int .i64 ((tt : Nat) : Int)] 97 (0, 0))) := ⟨blk_put (cs := #[.int .i64 ((fr : Nat) : Int), .int .i64 0]) (blk_put (cs := #[.int .i64 0, .int .i64 0]) HX3.out 0 _ rfl) 1 _ rfl⟩
  have HB4 : Aside0 (Below w.heap.size w ((w3.setCell ⟨gs, 0, none⟩ (.int .i64 ((fr : Nat) : Int))).setCell ⟨gs, 1, none⟩ (.int .i64 ((tt : Nat) : Int)))) := ⟨Below.setCell (Below.setCell HB3.out HG3.out _) HG3.out _⟩
  clear c0 c1 f0 f1 hs0 hs1
  generalize ((w3.setCell ⟨gs, 0, none⟩ (.int .i64 ((fr : Nat) : Int))).setCell ⟨gs, 1, none⟩ (.int .i64 ((tt : Nat) : Int))) = w4 at HS4 HB4 ⊢
  have hg0 : w4.cell? ⟨gs, 0, none⟩ = some (.int .i64 ((fr : Nat) : Int)) := (blk_cell HS4.out 0).trans rfl
  have hp1' := cB HB4.out hp1
  go_quiet (fail)
  have HB5 := Aside0.mk (lN HB4.out nq)
  have HS5 := Aside0.mk (kN HS4.out nq)
  generalize w4.drewN nq = w5 at *
  have hp1' := cB HB5.out hp1
  have HO0 : Aside0 (Kd.R k50 50 w5 w.heap.size (fun _ => True) (.slice none 0 0) (([] : List Sl).map sl50)) := ⟨Kd.R_nil _ _ _ _ _⟩
  clear HX3 HG3 HB3 HS4 HB4 hg0 hp3
  go_wp2
  go_loopw [5, 7, 8, 27] (fun v5 v7 v8 v27 wr => ∃ (k ob : Nat) (oa : Int) (ls : List Sl), v27 = .int .i64 (k : Int) ∧ v7 = .int .i64 (ob : Int) ∧ v8 = .int .i64 oa ∧ Aside0 (k ≤ js.length ∧ ((fr : Nat) : Int) ≤ oa ∧ oa < ((tt : Nat) : Int) ∧ ob ≤ 2 * k) ∧ Aside0 (wrapK y (fr : Int) (tt : Int) k = (ls, ob, oa)) ∧ Aside0 (Kd.R k50 50 wr w.heap.size (fun _ => True) v5 (ls.map sl50)) ∧ Aside0 (ls.length ≤ 2 * k) ∧ Aside0 (wr.heap[gs]? = some (.cells #[.int .i64 ((fr : Nat) : Int), .int .i64 ((tt : Nat) : Int)] 97 (0, 0))) ∧ Aside0 (Below w.heap.size w wr)) (fun _ _ _ v27 _ => js.length - (intOf v27).toNat)
  case atStart => exact ⟨0, 0, ((fr : Nat) : Int), [], rfl, rfl, rfl, ⟨by have := HLN.out; have := HLR.out; exact ⟨by omega, by omega, by omega, by omega⟩⟩, ⟨rfl⟩, HO0, ⟨by simp⟩, HS5, HB5⟩
  case round =>
    obtain ⟨k, ob, oa, ls, rfl, rfl, rfl, HKM, HWR, HO, HLS, HS, HB⟩ := hrel
    clear HO0 HS5 HB5 hp1'
    by_cases hlt : k < js.length
    · have hltI : ((k : Nat) : Int) < ((js.length : Nat) : Int) := by omega
      obtain ⟨jn, hjn⟩ : ∃ jn, jn = 1 + k := ⟨_, rfl⟩
      have HJN := Aside0.mk hjn
      have HKB := Aside0.mk (show k ≤ 10000 by omega)
      have HBD := Aside0.mk (below_drew HB.out)
      have HOD := Aside0.mk (Kd.R_drew HO.out)
      have HSD := Aside0.mk (kD HS.out)
      obtain ⟨yk, hyk⟩ : ∃ yk, yk = y k := ⟨_, rfl⟩
      have HYK := Aside0.mk hyk
      have HRY := Aside0.mk (show st.R pn jn = yk by rw [hjn, hyk]; exact HYV.out k)
      have HPJ := Aside0.mk (show pn ≤ 100000 ∧ jn ≤ 100000 by have := HPN.out; have := HIB.out; omega)
      clear hjn hyk HO HS HB
      have hxp := cB HBD.out hp2
      have hxm := cB HBD.out hx0
      have hlk := look_at (HP.out.below HBD.out).net.map HPJ.out.1 HPJ.out.2 HRY.out
      go_wp2
      refine start_ (n := 16) (S := fun w' => w'.cell? ⟨p, 2, none⟩ = some (.pointer (some ⟨x, 0, none⟩)) ∧ w'.cell? ⟨x, 0, none⟩ = some (.map (some b)) ∧ (Instr.lookup 109 (.map (some b)) (.agg #[.int .i64 ((pn : Nat) : Int), .int .i64 ((jn : Nat) : Int)]) false).run Tryd.prog w' = .ok (.int .i64 yk) w') (ds := []) (Bs 0 16) (by kernel_rfl) rfl rfl ⟨hxp, hxm, hlk⟩ (fun hHeld => ?_)
      generalize wr.drew = w5 at HBD HOD HSD hxp hxm hlk hHeld ⊢
      refine with_tabW wrapR.tab7 wrapR.bits7 (fun HT_ HW_ => ?_)
      refine pu 0 30 (Bs 1 16) HT_ ?_
      refine pu 1 31 (Bs 2 16) HT_ ?_
      refine pu 2 32 (Bs 3 16) HT_ ?_
      refine pu 7 37 (Br [3,4,1,8]) HT_ ?_
      refine pu 8 38 (Br [3,4,2,7]) HT_ ?_
      refine pu 10 40 (Br [3,4,2,1,1,5]) HT_ ?_
      refine pu 11 41 (Br [3,4,2,1,2,4]) HT_ ?_
      refine ta 3 33 (Br [4,3,2,1,2,4]) HT_ HW_ hHeld ?_
      refine pu 4 34 (Br [5,2,2,1,2,4]) HT_ ?_
      refine pu 5 35 (Br [6,1,2,1,2,4]) HT_ ?_
      refine ta 6 36 (Br [9,1,2,4]) HT_ HW_ hHeld ?_
      refine one_ (i := 9) (N := some 39) (Bs 12 16) rfl rfl (one_of HT_.out (by kernel_rfl)) (by decide) (fun K hK => ?_)
      refine goes_ Tryd.func61 (by kernel_rfl) rfl #[.pointer (some ⟨p, 0, none⟩), .int .i64 ((i : Nat) : Int)] (by rfl) rfl rfl (by (try simp only [List.map_toArray, List.map_cons, List.map_nil]); first | done | rfl) ?_
      refine (part_l HIB.out HM1.out HPN.out (HP.out.below HBD.out).pb).mono ?_
      rintro e w6 ⟨rfl, hb6⟩
      have HB6 := Aside0.mk (below_step HBD.out hb6)
      have HO6 := Aside0.mk (Kd.R_below HOD.out hb6)
      have HS6 := Aside0.mk ((hb6.block _ (blk_lt HSD.out)).trans HSD.out)
      have hxp := cB hb6 hxp
      have hxm := cB hb6 hxm
      refine ⟨_, rfl, ?_⟩
      refine hK.out _ _ ⟨hxp, hxm, look_at (HP.out.below HB6.out).net.map HPJ.out.1 HPJ.out.2 HRY.out⟩ (fun hHeld => ?_)
      clear hK K
      refine nm 39 ?_
      refine one_ (i := 12) (N := some 42) (Bs 13 16) rfl rfl (one_of HT_.out (by kernel_rfl)) (by decide) (fun K hK => ?_)
      refine goes_ Tryd.func60 (by kernel_rfl) rfl #[.pointer (some ⟨p, 0, none⟩), .int .i64 ((k : Nat) : Int)] (by rfl) rfl rfl (by (try simp only [List.map_toArray, List.map_cons, List.map_nil]); first | done | rfl) ?_
      refine (job_l HKB.out HJN.out _).mono ?_
      rintro e w7 ⟨rfl, hb7⟩
      have HB7 := Aside0.mk (below_step HB6.out hb7)
      have HO7 := Aside0.mk (Kd.R_below HO6.out hb7)
      have HS7 := Aside0.mk ((hb7.block _ (blk_lt HS6.out)).trans HS6.out)
      have hxp := cB hb7 hxp
      have hxm := cB hb7 hxm
      refine ⟨_, rfl, ?_⟩
      refine hK.out _ _ ⟨hxp, hxm, look_at (HP.out.below HB7.out).net.map HPJ.out.1 HPJ.out.2 HRY.out⟩ (fun hHeld => ?_)
      clear hK K
      refine nm 42 ?_
      refine pu 13 43 (Bs 14 16) HT_ ?_
      refine ta 14 44 (Bs 15 16) HT_ HW_ hHeld ?_
      refine pu 15 10 (Bs 16 16) HT_ ?_
      refine done_ (done_of HT_.out (by kernel_rfl)) ?_
      clear hxp hxm hlk hHeld
      have HJ0 : Aside0 (JobS (fr : Int) (tt : Int) 2 yk oa) := ⟨⟨⟨HKM.out.2.1, HKM.out.2.2.1⟩, by rw [HLR.out, HYK.out]; exact HYB.out k hlt, Or.inl rfl⟩⟩
      go_wp2
      go_loopg [5, 7, 8, 10] 2 (fun f v5 v7 v8 v10 wr => ∃ (b0 : Nat) (a0 w0 : Int) (dn : List Sl), v7 = .int .i64 (b0 : Int) ∧ v8 = .int .i64 a0 ∧ v10 = .int .i64 w0 ∧ Aside0 (JobS (fr : Int) (tt : Int) f w0 a0) ∧ Aside0 (b0 + f ≤ 2 * k + 2) ∧ Aside0 (dn ++ (jobW k (fr : Int) (tt : Int) f w0 b0 a0).1 = (jobW k (fr : Int) (tt : Int) 2 yk ob oa).1 ∧ (jobW k (fr : Int) (tt : Int) f w0 b0 a0).2 = (jobW k (fr : Int) (tt : Int) 2 yk ob oa).2) ∧ Aside0 (Kd.R k50 50 wr w.heap.size (fun _ => True) v5 ((ls ++ dn).map sl50)) ∧ Aside0 (dn.length + f ≤ 2) ∧ Aside0 (wr.heap[gs]? = some (.cells #[.int .i64 ((fr : Nat) : Int), .int .i64 ((tt : Nat) : Int)] 97 (0, 0))) ∧ Aside0 (Below w.heap.size w wr))
      case atStart => exact ⟨ob, oa, yk, [], rfl, rfl, rfl, HJ0, ⟨by have := HKM.out; omega⟩, ⟨⟨rfl, rfl⟩⟩, ⟨by rw [List.append_nil]; exact HO7.out⟩, ⟨by simp⟩, HS7, HB7⟩
      case round =>
        obtain ⟨b0, a0, w0, dn, rfl, rfl, rfl, HJ, HBF, HJW, HO5, HDN, HS5, HB5⟩ := hrel
        clear HO7 HS7 HB7 HJ0 HOD HSD HBD
        have hja := HJ.out.at_
        have hjw := HJ.out.hw
        have hb70 : ((b0 : Nat) : Int) ≤ 100 := by have := HBF.out; omega
        by_cases hw0 : 0 < w0
        · obtain ⟨f', rfl, hmore⟩ := HJ.out.more hw0
          obtain ⟨n1, hn1⟩ : ∃ n1, n1 = min w0 (((tt : Nat) : Int) - a0) := ⟨_, rfl⟩
          obtain ⟨m1, m2, m3, m4, m5⟩ := hmore n1 hn1
          clear hmore
          have HM4 := Aside0.mk m4
          have HM5 := Aside0.mk m5
          have HN1 := Aside0.mk hn1
          clear m4 m5
          have hgt1 : wr.cell? ⟨gs, 1, none⟩ = some (.int .i64 ((tt : Nat) : Int)) := (blk_cell HS5.out 1).trans rfl
          obtain ⟨w1, hw1⟩ : ∃ w1, w0 - n1 = w1 := ⟨_, rfl⟩
          have hw1b : 0 ≤ w1 := by omega
          by_cases hA : ((tt : Nat) : Int) - a0 < w0
          · have e1 : ((tt : Nat) : Int) - a0 = n1 := by omega
            have e2 : a0 + n1 = ((tt : Nat) : Int) := by omega
            have hlt1 : n1 < w0 := by omega
            have HJ2 : Aside0 (JobS (fr : Int) (tt : Int) f' w1 ((fr : Nat) : Int)) := ⟨by rw [← hw1]; exact HM4.out e2⟩
            have HBF2 : Aside0 ((b0 + 1) + f' ≤ 2 * k + 2) := ⟨by have := HBF.out; omega⟩
            have HDN2 : Aside0 ((dn ++ [(⟨k, b0, a0, ((tt : Nat) : Int)⟩ : Sl)]).length + f' ≤ 2) := ⟨by have := HDN.out; rw [List.length_append, List.length_singleton]; omega⟩
            have HJW2 : Aside0 ((dn ++ [(⟨k, b0, a0, ((tt : Nat) : Int)⟩ : Sl)]) ++ (jobW k (fr : Int) (tt : Int) f' w1 (b0 + 1) ((fr : Nat) : Int)).1 = (jobW k (fr : Int) (tt : Int) 2 yk ob oa).1 ∧ (jobW k (fr : Int) (tt : Int) f' w1 (b0 + 1) ((fr : Nat) : Int)).2 = (jobW k (fr : Int) (tt : Int) 2 yk ob oa).2) := ⟨by
              have h := HJW.out
              rw [jobW_eq hw0 HN1.out e2, hw1] at h
              simpa using h⟩
            clear hn1
            go_wp2_with (first | ((with_reducible refine gate_builtin (b := .append) (xs := #[.tmp 53, .tmp 61]) rfl ?_); at_builtin; refine Kd.R_append k50 (w0 := w) w.heap.size rfl (.tmp 53) (.tmp 61) 42 50 (.agg #[(.int .i64 0), (.int .i64 0), (.int .i64 0), (.int .i64 0)]) 32 rfl Tryd.underlying42 info50 rfl (by decide) (by omega) _ ((ls ++ dn).map sl50) (sl50 ⟨k, b0, a0, ((tt : Nat) : Int)⟩) [.int .i64 ((k : Nat) : Int), .int .i64 ((b0 : Nat) : Int), .int .i64 a0, .int .i64 ((tt : Nat) : Int)] (fun _ => True) (fun _ => False) rfl rfl ?aP (fun _ hk => hk.elim) ?aF ?aO ?aB ?aS ?aL ?_; (case aP => exact k50_mkM _ _ _ (sl50 ⟨k, b0, a0, ((tt : Nat) : Int)⟩)); (case aB => exact HB5.out); (case aF => exact (fun _ _ => trivial)); (case aO => exact HO5.out); (case aS => exact HB5.out.size); (case aL => have := HLS.out; have := HDN.out; have := HKM.out; simp; omega); intro v6 w6 ho6 hb6 hg6 hat6; have HO6 := Aside0.mk ho6; have HB6 := Aside0.mk hb6; have HS6 := Aside0.mk (blk_over HO5.out HS5.out (by decide) hg6); have hgt6 : w6.cell? ⟨gs, 1, none⟩ = some (.int .i64 ((tt : Nat) : Int)) := (blk_cell HS6.out 1).trans rfl; have hgf6 : w6.cell? ⟨gs, 0, none⟩ = some (.int .i64 ((fr : Nat) : Int)) := (blk_cell HS6.out 0).trans rfl; clear ho6 hb6 hg6 hat6))
            go_quiet (fail)
            go_wp2
            go_roundg f'
            case measure => exact Nat.lt_succ_self _
            case rel => exact ⟨b0 + 1, ((fr : Nat) : Int), w1, dn ++ [⟨k, b0, a0, ((tt : Nat) : Int)⟩], by go_num, rfl, rfl, HJ2, HBF2, HJW2, ⟨by rw [← List.append_assoc, List.map_append]; exact rX HO6.out⟩, HDN2, ⟨kN HS6.out nq⟩, ⟨lN HB6.out nq⟩⟩
          · have hnw : n1 = w0 := by omega
            obtain ⟨d1, e1⟩ : ∃ d1, ((tt : Nat) : Int) - a0 = d1 := ⟨_, rfl⟩
            have hge1 : ¬ d1 < w0 := by omega
            by_cases hB : a0 + w0 = ((tt : Nat) : Int)
            · have e2 : a0 + w0 = ((tt : Nat) : Int) := hB
              have HJ2 : Aside0 (JobS (fr : Int) (tt : Int) f' 0 ((fr : Nat) : Int)) := ⟨by have h := HM4.out (by rw [hnw]; exact hB); rw [hnw, Int.sub_self] at h; exact h⟩
              have HBF2 : Aside0 ((b0 + 1) + f' ≤ 2 * k + 2) := ⟨by have := HBF.out; omega⟩
              have HDN2 : Aside0 ((dn ++ [(⟨k, b0, a0, ((tt : Nat) : Int)⟩ : Sl)]).length + f' ≤ 2) := ⟨by have := HDN.out; rw [List.length_append, List.length_singleton]; omega⟩
              have HJW2 : Aside0 ((dn ++ [(⟨k, b0, a0, ((tt : Nat) : Int)⟩ : Sl)]) ++ (jobW k (fr : Int) (tt : Int) f' 0 (b0 + 1) ((fr : Nat) : Int)).1 = (jobW k (fr : Int) (tt : Int) 2 yk ob oa).1 ∧ (jobW k (fr : Int) (tt : Int) f' 0 (b0 + 1) ((fr : Nat) : Int)).2 = (jobW k (fr : Int) (tt : Int) 2 yk ob oa).2) := ⟨by
                have h := HJW.out
                rw [jobW_eq hw0 HN1.out (by rw [hnw]; exact hB), hnw, Int.sub_self] at h
                simpa using h⟩
              clear hB hn1 hw1 hw1b m1 m2 m3
              clear hnw HN1 HM4 HM5
              go_wp2_with (first | ((with_reducible refine gate_builtin (b := .append) (xs := #[.tmp 53, .tmp 61]) rfl ?_); at_builtin; refine Kd.R_append k50 (w0 := w) w.heap.size rfl (.tmp 53) (.tmp 61) 42 50 (.agg #[(.int .i64 0), (.int .i64 0), (.int .i64 0), (.int .i64 0)]) 32 rfl Tryd.underlying42 info50 rfl (by decide) (by omega) _ ((ls ++ dn).map sl50) (sl50 ⟨k, b0, a0, ((tt : Nat) : Int)⟩) [.int .i64 ((k : Nat) : Int), .int .i64 ((b0 : Nat) : Int), .int .i64 a0, .int .i64 ((tt : Nat) : Int)] (fun _ => True) (fun _ => False) rfl rfl ?aP (fun _ hk => hk.elim) ?aF ?aO ?aB ?aS ?aL ?_; (case aP => exact k50_mkM _ _ _ (sl50 ⟨k, b0, a0, ((tt : Nat) : Int)⟩)); (case aB => exact HB5.out); (case aF => exact (fun _ _ => trivial)); (case aO => exact HO5.out); (case aS => exact HB5.out.size); (case aL => have := HLS.out; have := HDN.out; have := HKM.out; simp; omega); intro v6 w6 ho6 hb6 hg6 hat6; have HO6 := Aside0.mk ho6; have HB6 := Aside0.mk hb6; have HS6 := Aside0.mk (blk_over HO5.out HS5.out (by decide) hg6); have hgt6 : w6.cell? ⟨gs, 1, none⟩ = some (.int .i64 ((tt : Nat) : Int)) := (blk_cell HS6.out 1).trans rfl; have hgf6 : w6.cell? ⟨gs, 0, none⟩ = some (.int .i64 ((fr : Nat) : Int)) := (blk_cell HS6.out 0).trans rfl; clear ho6 hb6 hg6 hat6))
              go_quiet (fail)
              go_wp2
              go_roundg f'
              case measure => exact Nat.lt_succ_self _
              case rel => exact ⟨b0 + 1, ((fr : Nat) : Int), 0, dn ++ [⟨k, b0, a0, ((tt : Nat) : Int)⟩], by go_num, rfl, rfl, HJ2, HBF2, HJW2, ⟨by rw [← List.append_assoc, List.map_append]; exact rX HO6.out⟩, HDN2, ⟨kN HS6.out nq⟩, ⟨lN HB6.out nq⟩⟩
            · obtain ⟨a1, e2⟩ : ∃ a1, a0 + w0 = a1 := ⟨_, rfl⟩
              rw [e2] at hB
              have hbf : (a1 == ((tt : Nat) : Int)) = false := beq_false_of_ne hB
              have ha1 : 0 ≤ a1 ∧ a1 ≤ 1048576 := by omega
              have HJ2 : Aside0 (JobS (fr : Int) (tt : Int) f' 0 a1) := ⟨by have h := HM5.out (by rw [hnw, e2]; exact hB); rw [hnw, Int.sub_self, e2] at h; exact h⟩
              have HBF2 : Aside0 (b0 + f' ≤ 2 * k + 2) := ⟨by have := HBF.out; omega⟩
              have HDN2 : Aside0 ((dn ++ [(⟨k, b0, a0, a1⟩ : Sl)]).length + f' ≤ 2) := ⟨by have := HDN.out; rw [List.length_append, List.length_singleton]; omega⟩
              have HJW2 : Aside0 ((dn ++ [(⟨k, b0, a0, a1⟩ : Sl)]) ++ (jobW k (fr : Int) (tt : Int) f' 0 b0 a1).1 = (jobW k (fr : Int) (tt : Int) 2 yk ob oa).1 ∧ (jobW k (fr : Int) (tt : Int) f' 0 b0 a1).2 = (jobW k (fr : Int) (tt : Int) 2 yk ob oa).2) := ⟨by
                have h := HJW.out
                rw [jobW_ne hw0 HN1.out (by rw [hnw, e2]; exact hB), hnw, Int.sub_self, e2] at h
                simpa using h⟩
              clear hn1 hw1 hw1b m1 m2 m3
              clear hnw HN1 HM4 HM5
              go_wp2_with (first | ((with_reducible refine gate_builtin (b := .append) (xs := #[.tmp 53, .tmp 61]) rfl ?_); at_builtin; refine Kd.R_append k50 (w0 := w) w.heap.size rfl (.tmp 53) (.tmp 61) 42 50 (.agg #[(.int .i64 0), (.int .i64 0), (.int .i64 0), (.int .i64 0)]) 32 rfl Tryd.underlying42 info50 rfl (by decide) (by omega) _ ((ls ++ dn).map sl50) (sl50 ⟨k, b0, a0, a1⟩) [.int .i64 ((k : Nat) : Int), .int .i64 ((b0 : Nat) : Int), .int .i64 a0, .int .i64 a1] (fun _ => True) (fun _ => False) rfl rfl ?aP (fun _ hk => hk.elim) ?aF ?aO ?aB ?aS ?aL ?_; (case aP => exact k50_mkM _ _ _ (sl50 ⟨k, b0, a0, a1⟩)); (case aB => exact HB5.out); (case aF => exact (fun _ _ => trivial)); (case aO => exact HO5.out); (case aS => exact HB5.out.size); (case aL => have := HLS.out; have := HDN.out; have := HKM.out; simp; omega); intro v6 w6 ho6 hb6 hg6 hat6; have HO6 := Aside0.mk ho6; have HB6 := Aside0.mk hb6; have HS6 := Aside0.mk (blk_over HO5.out HS5.out (by decide) hg6); have hgt6 : w6.cell? ⟨gs, 1, none⟩ = some (.int .i64 ((tt : Nat) : Int)) := (blk_cell HS6.out 1).trans rfl; have hgf6 : w6.cell? ⟨gs, 0, none⟩ = some (.int .i64 ((fr : Nat) : Int)) := (blk_cell HS6.out 0).trans rfl; clear ho6 hb6 hg6 hat6))
              go_roundg f'
              case measure => exact Nat.lt_succ_self _
              case rel => exact ⟨b0, a1, 0, dn ++ [⟨k, b0, a0, a1⟩], rfl, rfl, rfl, HJ2, HBF2, HJW2, ⟨by rw [← List.append_assoc, List.map_append]; exact HO6.out⟩, HDN2, HS6, HB6⟩
        · have hwz : w0 = 0 := by omega
          have HWN : Aside0 (wrapK y (fr : Int) (tt : Int) (k + 1) = (ls ++ dn, b0, a0)) := ⟨by
            have h := HJW.out
            rw [hwz, jobW_0, List.append_nil] at h
            rw [HYK.out] at h
            exact wrapK_s y _ _ HWR.out h.1 h.2⟩
          have HLS2 : Aside0 ((ls ++ dn).length ≤ 2 * (k + 1)) := ⟨by have := HLS.out; have := HDN.out; rw [List.length_append]; omega⟩
          have HKM2 : Aside0 (k + 1 ≤ js.length ∧ ((fr : Nat) : Int) ≤ a0 ∧ a0 < ((tt : Nat) : Int) ∧ b0 ≤ 2 * (k + 1)) := ⟨by have := HBF.out; exact ⟨by omega, by omega, by omega, by omega⟩⟩
          go_wp2
          go_roundw
          case rel => exact ⟨k + 1, b0, a0, ls ++ dn, by go_num, rfl, rfl, HKM2, HWN, HO5, HLS2, HS5, HB5⟩
          case measure => simp [intOf]; omega
    · have hge : ¬ ((k : Nat) : Int) < ((js.length : Nat) : Int) := by omega
      go_wp2
      go_ret
      refine ⟨_, rfl, ?_, HB.out⟩
      have := HWR.out
      rw [show k = js.length by have := HKM.out; omega] at this
      rw [this]
      exact HO.out
end Go.Proofs.YtmnhcbaocoofoaaDoor.P
namespace Go.Proofs.YtmnhcbaocoofoaaDoor.P
open Go.RowKit YtmnhcbaocoofoaaDoorW.PrintWords YtmnhcbaocoofoaaDoorW.PrintLast YtmnhcbaocoofoaaDoorW.PrintMore
open Go.Proofs.YtmnhcbaocoofoaaDoor.Ben (Rm putR addF Tk St)
theorem TaskOk.cap {B : Int} {js : List S40} (h : TaskOk B js) (v u : Nat) : 0 ≤ Ben.capF (tk B js) v u ∧ Ben.capF (tk B js) v u ≤ 1073741824 := by
  unfold Ben.capF
  split
  · split
    · have := h.job (u - 1) (by rw [tk_m] at *; omega)
      rw [tk_g]; omega
    · omega
  · split
    · split
      · have := h.len (i := u - 1 - (tk B js).m) (by have : (tk B js).last = 1 + (tk B js).m + (tk B js).K := rfl; omega)
        omega
      · omega
    · split
      · have h1 := h.len (i := v - 1 - (tk B js).m) (by have : (tk B js).last = 1 + (tk B js).m + (tk B js).K := rfl; omega)
        have h2 := h.b
        rw [tk_B]
        have h3 : B * (tk B js).len (v - 1 - (tk B js).m) ≤ 8 * 1048576 := Int.mul_le_mul h2.2 h1.2 (by omega) (by omega)
        have h4 : 0 ≤ B * (tk B js).len (v - 1 - (tk B js).m) := Int.mul_nonneg (by omega) (by omega)
        omega
      · omega
theorem TaskOk.wkA {B : Int} {js : List S40} (h : TaskOk B js) : Ben.workAll (tk B js) = wkS js js.length ∧ 0 ≤ wkS js js.length ∧ wkS js js.length ≤ 33554432 := by
  have := h.wk js.length (Nat.le_refl _)
  have := h.m
  exact ⟨rfl, by omega, by omega⟩
theorem TaskOk.fit {B : Int} {js : List S40} (h : TaskOk B js) {n : Nat} (hn : n ≤ 10000) : FitF ((tk B js).last + 1) 0 (tk B js).last (Ben.netF (tk B js)).next (Ben.capF (tk B js)) (Ben.workAll (tk B js)).toNat.succ n := by
  have hK := h.K
  have hm := h.m
  have hl : (tk B js).last = 1 + js.length + (tk B js).K := rfl
  have hw := h.wkA
  refine ⟨by omega, by omega, by omega, by omega, fun v u _ hu => (Ben.netL_adj h.good _ (Nat.le_refl _)).lt v u hu, fun j => ?_, h.cap, ?_, by omega⟩
  · refine Nat.le_trans (nb_L (tk B js) (tk B js).K j) ?_
    have := small_mul (k := (tk B js).m) (a := 32) (q := 2 * (tk B js).K + 2) (b := 128) (by rw [tk_m]; omega) (by omega)
    omega
  · rw [Ben.cap_src, hw.1]
    omega
theorem fill_at {w : World} {base x b g n L : Nat} {B : Int} {js : List S40} (h : Net w base x b g ((tk B js).last + 1) n (Ben.netF (tk B js))) (ht : TaskOk B js) (hn : n ≤ 10000) (hno : None_ w) (h0 : 0 < base) (hL : L = (tk B js).last) :
    Calls Tryd.prog 44 #[.pointer (some ⟨x, 0, none⟩), .int .i64 0, .int .i64 ((L : Nat) : Int)] w fun e w' => e = .returned (.int .i64 (Ben.flowF (tk B js)).1) ∧ Net w' base x b g ((tk B js).last + 1) (n + 2000 * (Ben.workAll (tk B js)).toNat.succ) ⟨(Ben.flowF (tk B js)).2, (Ben.netF (tk B js)).next⟩ ∧ Below base w w' := by
  subst hL
  exact fill_calls base x b g ((tk B js).last + 1) n (Ben.workAll (tk B js)).toNat.succ (Ben.netF (tk B js)).next (Ben.netF (tk B js)).R (Ben.capF (tk B js)) 0 (tk B js).last w h (ht.fit hn) (by
    rw [Ben.net_R]
    exact Ben.flow_start (fun v u => (ht.cap v u).1)) hno (by have := h.lx; have := blk_lt h.head; omega) h0
open Classical in
noncomputable def bench_task_possible.f (a0_0 : Int) (l0_1 : List S40) : Option Bool := if TaskOk a0_0 l0_1 then some (Ben.canW a0_0 l0_1.length (gJ l0_1)) else none
def possR29.T2 : Bool × List (List Nat × List Nat) := (true, [([], []), ([0], [0]), ([1], [1]), ([2], [2]), ([], []), ([4], [4]), ([3, 5, 5], [3, 5]), ([], []), ([7], [7]), ([8], [8]), ([9], [9]), ([6, 10], [6, 10]), ([11, 6, 0, 1, 2, 3, 4, 5, 6, 7, 8, 9, 10, 11], [11])])
def possR29.B2 : List Nat := [0, 1, 3, 7, 0, 16, 63, 0, 128, 384, 896, 2047, 4095]
theorem possR29.tab2 : rtab .any (opsOf Tryd.f29 2) = possR29.T2 := by kernel_rfl
theorem possR29.bits2 : waitsOk possR29.T2.2 possR29.B2 = true := by kernel_rfl
set_option maxHeartbeats 16000000 in
set_option maxRecDepth 100000 in
theorem bench_task_possible.calls (a0_0 : Int) (A0_1 : Option Addr) (c0_1 : Nat) (l0_1 : List S40) (r : Bool) (w : World) (hno : None_ w) (hr0_1 : Kd.C k40 w A0_1 l0_1.length l0_1) (hc0_1 : l0_1.length ≤ c0_1) (h : bench_task_possible.f a0_0 l0_1 = some r) :
    Calls Tryd.prog 29 #[.agg #[.int .i64 a0_0, .slice A0_1 l0_1.length c0_1]] w fun e w' => e = .returned (.bool r) ∧ Below w.heap.size w w' := by
  unfold bench_task_possible.f at h
  split at h
  case isFalse => exact absurd h (by simp)
  case isTrue ht =>
  obtain rfl := Option.some.inj h
  clear h hc0_1
  generalize a0_0 = B at *
  generalize A0_1 = A at *
  generalize c0_1 = c at *
  generalize l0_1 = js at *
  have HT := Aside0.mk ht
  have HO := Aside0.mk hno
  have HB := Aside0.mk (Below.refl w.heap.size w)
  have HNP := Aside0.mk (fun W (hb : Below w.heap.size w W) => newp_calls B A c js W (Kd.C_below hr0_1 hb) ht)
  have HWA := Aside0.mk ht.wkA
  have HK1 := Aside0.mk (show js.length ≤ 10000 ∧ (tk B js).K ≤ 10000 by have := ht.K; have := ht.m; exact ⟨by omega, by omega⟩)
  have HCA : Aside0 (Ben.canW B js.length (gJ js) = ((Ben.flowF (tk B js)).1 == wkS js js.length)) := ⟨by unfold Ben.canW; rw [Bool.eq_iff_iff]; simp; rfl⟩
  have hu55 := Tryd.underlying55
  have hu79 := Tryd.underlying79
  clear hno hr0_1 ht
  go_enter Tryd.func29, Tryd.ntmps29
  go_wp2_with (first
    | ((with_reducible refine gate_dst (N := 1) rfl ?_); refine bxe 1 #[.int .i64 B, .slice A js.length c] 55 ?_; intro gt hgt w1 hbox1 hb1; have HX := Aside0.mk hbox1; have HB1 := Aside0.mk (below_step HB.out hb1); clear hgt hbox1 hb1; have hx0 : w1.cell? ⟨gt, 0, none⟩ = some (.int .i64 B) := (blk_cell HX.out 0).trans rfl; have hx1 : w1.cell? ⟨gt, 1, none⟩ = some (.slice A js.length c) := (blk_cell HX.out 1).trans rfl)
    | (go_at_call 43; go_must (refine (HNP.out _ HB1.out).mono ?_); rintro e w2 ⟨p, rfl, hp2, hb2⟩; have HP2 := Aside0.mk hp2; have HB2 := Aside0.mk (below_step HB1.out hb2); have HW1 := Aside0.mk (show 0 < w1.heap.size from Nat.lt_of_le_of_lt (Nat.zero_le _) (blk_lt HX.out)); clear hp2 hb2))
  obtain ⟨x, b, g, base, n, AP, cp, hn, hP⟩ := HP2.out
  have HNN := Aside0.mk hn
  have HP := Aside0.mk (hP.below (below_drew (Below.refl _ _)))
  have HB3 := Aside0.mk (below_drew HB2.out)
  have HO3 := Aside0.mk (HO.out.below HB3.out)
  have HBP := Aside0.mk (show p < base ∧ 0 < base ∧ w.heap.size ≤ base from by
    obtain ⟨wS, _, _, h3, h4⟩ := hP.cut
    have := hP.low
    have := HB1.out.size
    exact ⟨by omega, by omega, by omega⟩)
  obtain ⟨L, hL⟩ : ∃ L, L = (tk B js).last := ⟨_, rfl⟩
  have HL := Aside0.mk hL
  have HLL := Aside0.mk (show L = 1 + js.length + (tk B js).K by rw [hL]; rfl)
  obtain ⟨Kn, hK⟩ : ∃ Kn, Kn = (tk B js).K := ⟨_, rfl⟩
  have hpb : Pb w2.drew p B A js.length c (.pointer (some ⟨x, 0, none⟩)) (.slice AP (tk B js).K cp) (wkS js js.length) := HP.out.pb
  have HPB := Aside0.mk hpb
  have hxp := hpb.at.2.2.1
  have hxk := hpb.at.2.2.2.2.1
  clear hn hP hL hK hpb HP2 HX HB1 HB2 HNP hx0 hx1
  refine start_ (n := 13) (S := fun w' => w'.cell? ⟨p, 2, none⟩ = some (.pointer (some ⟨x, 0, none⟩)) ∧ w'.cell? ⟨p, 4, none⟩ = some (.int .i64 (wkS js js.length))) (ds := []) (Bs 0 13) (by kernel_rfl) rfl rfl ⟨hxp, hxk⟩ (fun hHeld => ?_)
  generalize w2.drew = w4 at HP HB3 HO3 HPB hxp hxk hHeld ⊢
  refine with_tabW possR29.tab2 possR29.bits2 (fun HT_ HW_ => ?_)
  refine pu 0 6 (Bs 1 13) HT_ ?_
  refine pu 1 7 (Bs 2 13) HT_ ?_
  refine pu 2 8 (Bs 3 13) HT_ ?_
  refine pu 4 10 (Br [3,1,1,8]) HT_ ?_
  refine pu 7 13 (Br [3,1,1,2,1,5]) HT_ ?_
  refine pu 8 14 (Br [3,1,1,2,2,4]) HT_ ?_
  refine pu 9 15 (Br [3,1,1,2,3,3]) HT_ ?_
  refine ta 3 9 (Br [5,2,3,3]) HT_ HW_ hHeld ?_
  refine ta 10 16 (Br [5,2,4,2]) HT_ HW_ hHeld ?_
  refine one_ (i := 5) (N := some 11) (Br [6,1,4,2]) rfl rfl (one_of HT_.out (by kernel_rfl)) (by decide) (fun K hK => ?_)
  refine goes_ Tryd.func45 (by kernel_rfl) rfl #[.pointer (some ⟨p, 0, none⟩)] (by rfl) rfl rfl (by (try simp only [List.map_toArray, List.map_cons, List.map_nil]); first | done | rfl) ?_
  refine (last_at HK1.out.1 HK1.out.2 HLL.out HPB.out).mono ?_
  rintro e w5 ⟨rfl, hb5⟩
  have HP5 := Aside0.mk (HP.out.below hb5)
  have HO5 := Aside0.mk (HO3.out.below hb5)
  have HB5 := Aside0.mk (below_step HB3.out hb5)
  refine ⟨_, rfl, ?_⟩
  refine hK.out _ _ ⟨cB hb5 hxp, cB hb5 hxk⟩ (fun hHeld => ?_)
  clear hK K
  refine nm 11 ?_
  refine one_ (i := 6) (N := some 12) (Bs 11 13) rfl rfl (one_of HT_.out (by kernel_rfl)) (by decide) (fun K hK => ?_)
  refine goes_ Tryd.func44 (by kernel_rfl) rfl #[.pointer (some ⟨x, 0, none⟩), .int .i64 0, .int .i64 ((L : Nat) : Int)] (by rfl) rfl rfl (by (try simp only [List.map_toArray, List.map_cons, List.map_nil]); first | done | rfl) ?_
  refine (fill_at HP5.out.net HT.out HNN.out HO5.out HBP.out.2.1 HL.out).mono ?_
  rintro e w7 ⟨rfl, hn7, hb7⟩
  have HP7 := Aside0.mk (HP5.out.step hn7 hb7)
  have HB7 := Aside0.mk (HB5.out.trans (hb7.mono HBP.out.2.2))
  have HO7 := Aside0.mk (HO5.out.since hb7 HBP.out.2.1)
  clear hn7 hb7
  refine ⟨_, rfl, ?_⟩
  refine hK.out _ _ ⟨HP7.out.pb.at.2.2.1, HP7.out.pb.at.2.2.2.2.1⟩ (fun hHeld => ?_)
  clear hK K
  refine nm 12 ?_
  refine pu 11 17 (Bs 12 13) HT_ ?_
  refine pu 12 2 (Bs 13 13) HT_ ?_
  refine done_ (done_of HT_.out (by kernel_rfl)) ?_
  go_wp2
  go_ret
  exact ⟨by rw [HCA.out]; rfl, HB7.out⟩
end Go.Proofs.YtmnhcbaocoofoaaDoor.P
namespace Go.Proofs.YtmnhcbaocoofoaaDoor.P
open Go.RowKit YtmnhcbaocoofoaaDoorW.PrintWords YtmnhcbaocoofoaaDoorW.PrintLast YtmnhcbaocoofoaaDoorW.PrintMore
open Go.Sort (swp SWO PermIn SortedIn Ins)
theorem C50_cells {w : World} {ad : Addr} {xs : List S50} (h : Kd.C k50 w (some ad) xs.length xs) (j : Nat) (u : Value) (hu : (fl4 xs)[j]? = some u) : w.cell? (ad.add j) = some u := by
  have hj : j < xs.length * 4 := by
    have := (List.getElem?_eq_some_iff.1 hu).1
    rwa [fl4_len] at this
  obtain ⟨ad', e, hc⟩ := h.2.2 (by omega)
  cases e
  have hk : j / 4 < xs.length := by omega
  obtain ⟨c, hcl, hcK, hcc⟩ := hc (j / 4) _ (List.getElem?_eq_getElem hk)
  obtain rfl := k50_open hcK
  have hg := fl4_get xs (j / 4) (j % 4) hk (by omega)
  rw [show j / 4 * 4 + j % 4 = j by omega, hu] at hg
  rw [show k50.sz = 4 from rfl] at hcc
  have hm : j % 4 < 4 := Nat.mod_lt _ (by omega)
  have := hcc (j % 4) (slC xs[j / 4] (j % 4)) (by
    match j % 4, hm with
    | 0, _ => rfl
    | 1, _ => rfl
    | 2, _ => rfl
    | 3, _ => rfl)
  rw [show j / 4 * 4 + j % 4 = j by omega] at this
  rw [this, hg]
set_option maxHeartbeats 4000000 in
set_option maxRecDepth 100000 in
theorem clone_calls (A0 : Option Addr) (c0 : Nat) (xs : List S50) (w : World) (hr : Kd.C k50 w A0 xs.length xs) (hn : xs.length ≤ 1000000) :
    Calls Tryd.prog 73 #[.slice A0 xs.length c0] w fun e w' => ∃ v, e = .returned v ∧ w'.ownsRow w.heap.size 50 4 v xs.length (fl4 xs) ∧ Below w.heap.size w w' := by
  cases A0 with
  | none =>
    have h0 : xs.length = 0 := by
      rcases Nat.eq_zero_or_pos xs.length with h | h
      · exact h
      · obtain ⟨ad, e, _⟩ := hr.2.2 h
        cases e
    refine (AnyE.slices_Clone_nil Tryd.cloneP _ _ w).mono ?_
    rintro e w' ⟨rfl, rfl⟩
    rw [List.eq_nil_of_length_eq_zero h0]
    exact ⟨_, rfl, World.ownsRow_nil _ _ _ _, Below.refl _ _⟩
  | some ad =>
    obtain ⟨i0, hi, hz0, hz1, hz2⟩ := info_parts info50
    have A : Aside (∀ j u, (fl4 xs)[j]? = some u → w.cell? (ad.add j) = some u) := C50_cells hr
    have hq : ∀ (w : World) (a : Option Addr) (n c n' c' : Nat), (binOp .eql 42 (.slice a n c) (.slice none n' c')).run Tryd.prog w = .ok (.bool a.isNone) w := fun w a n c n' c' => Lib.run_eql_slice_nil w _ _ a n c n' c' Tryd.underlying42
    have HN := Aside0.mk hn
    clear hr hn
    have t42 := Tryd.underlying42
    go_enter Tryd.func73, Tryd.ntmps73
    go_wp2_with (at_builtin; refine wpList_append_own _ rfl _ _ 42 rfl w.heap.size 50 i0 (.agg #[.int .i64 0, .int .i64 0, .int .i64 0, .int .i64 0]) 4 32 t42 hi hz0 hz1 hz2 rfl (by decide) _ _ _ rfl (World.ownsRow_made w #[] 0 (Nat.le_refl _) (Nat.zero_le _) (by simp)) ad xs.length c0 (fl4 xs) rfl ?qc1 ?qc2 ?qc3 ?qc4 ?qc5 ?qc6 ?_)
    case qc1 => exact fl4_len xs
    case qc2 =>
      intro j u hj
      exact Lib.cell?_alloc_some _ (A.out j u hj)
    case qc3 => exact fl4_one xs
    case qc4 => rw [Nat.zero_add]; have := HN.out; unfold maxLen; omega
    case qc5 => rw [Nat.zero_add]; have := HN.out; omega
    case qc6 => simp
    intro v' w1 hown hgrow hnil
    go_wp2
    go_ret
    refine ⟨v', rfl, by simpa using hown, ?_⟩
    exact ((Below.refl _ w).alloc (Nat.le_refl _) _).grown hgrow (by simp) (by intro k hk; simp [Value.ownBlock] at hk; omega)
set_option maxHeartbeats 4000000 in
set_option maxRecDepth 100000 in
theorem sortf_calls (v cv : Value) (lt : S50 → S50 → Bool) (hS : SWO lt) (xs : List S50) (w0 w : World) (hv : w.ownsRow w0.heap.size 50 4 v xs.length (fl4 xs)) (hcv : CmpOk w0.heap.size w0 cv lt) (hB : Below w0.heap.size w0 w) (hn : xs.length ≤ 1000000) :
    Calls Tryd.prog 74 #[v, cv] w fun e w' => e = .returned (.tuple #[]) ∧ (∃ ys : List S50, w'.ownsRow w0.heap.size 50 4 v ys.length (fl4 ys) ∧ PermIn 0 xs.length xs.toArray ys.toArray ∧ SortedIn lt 0 xs.length ys.toArray) ∧ Below w0.heap.size w0 w' := by
  have hv' := hv
  obtain ⟨_, hc⟩ := hv'
  rcases hc with ⟨rfl, h0⟩ | ⟨g, cap, cur, rfl, hg, hblk, hc1, hc2, hcs, htk⟩
  · have HV := Aside0.mk hv
    have HB := Aside0.mk hB
    have HN := Aside0.mk h0
    clear hv hcv hB hn hS
    go_enter Tryd.func74, Tryd.ntmps74
    go_wp2_with (first | (go_at_call 78; refine (stab_empty _ _ _).mono ?_; rintro e w' ⟨rfl, rfl⟩))
    go_end0
    refine ⟨rfl, ⟨xs, HV.out, Go.Sort.permIn_refl _ _ _, ?_⟩, HB.out⟩
    intro i hi1 hi2
    have := HN.out
    omega
  · obtain ⟨hsl, hg'⟩ := SlA_of_own hv rfl
    have HV := Aside0.mk hv
    have HY := Aside0.mk (stab_calls (z := cap * 4) w0.heap.size g xs.length cap cv lt hS xs.toArray w0 w hcv hsl (by simp) hc1 hB (Nat.le_refl _) hg hn)
    clear hv hcv hB hn hS hg hblk hc1 hc2 hcs htk hsl hg'
    go_enter Tryd.func74, Tryd.ntmps74
    go_wp2_with (first | (go_at_call 78; go_must (refine HY.out.mono ?_); rintro e w1 ⟨rfl, ⟨d', hd1, hp1, hs1⟩, hb1⟩; have HD1 := Aside0.mk (show SlA (cap * 4) w1 g d' ∧ PermIn 0 xs.length xs.toArray d' ∧ SortedIn lt 0 xs.length d' from ⟨hd1, hp1, hs1⟩); have HB1 := Aside0.mk hb1; clear hd1 hp1 hs1 hb1))
    go_end0
    obtain ⟨h1, h2, h3⟩ := HD1.out
    have hl : d'.toList.length = xs.length := by
      have := h2.1
      simpa using this
    refine ⟨rfl, ⟨d'.toList, ?_, h2, h3⟩, HB1.out⟩
    rw [hl]
    exact own_of_SlA HV.out h1 hl
set_option maxHeartbeats 4000000 in
set_option maxRecDepth 100000 in
theorem sorted_calls (A0 : Option Addr) (c0 : Nat) (cv : Value) (lt : S50 → S50 → Bool) (hS : SWO lt) (xs : List S50) (w : World) (hr : Kd.C k50 w A0 xs.length xs) (hcv : CmpOk w.heap.size w cv lt) (hn : xs.length ≤ 1000000) :
    Calls Tryd.prog 65 #[.slice A0 xs.length c0, cv] w fun e w' => ∃ v, e = .returned v ∧ (∃ ys : List S50, Kd.R k50 50 w' w.heap.size (fun _ => True) v ys ∧ PermIn 0 xs.length xs.toArray ys.toArray ∧ SortedIn lt 0 xs.length ys.toArray) ∧ Below w.heap.size w w' := by
  have HC := Aside0.mk (clone_calls A0 c0 xs w hr hn)
  have HS := Aside0.mk (fun (v : Value) (W : World) (hv : W.ownsRow w.heap.size 50 4 v xs.length (fl4 xs)) (hB : Below w.heap.size w W) => sortf_calls v cv lt hS xs w W hv hcv hB hn)
  clear hr hcv hn hS
  go_enter Tryd.func65, Tryd.ntmps65
  go_wp2_with (first | (go_at_call 73; go_must (refine HC.out.mono ?_); rintro e w1 ⟨v, rfl, hv1, hb1⟩; have HS1 := Aside0.mk (HS.out v w1 hv1 hb1); clear hv1 hb1) | (go_at_call 74; go_must (refine HS1.out.mono ?_); rintro e w2 ⟨rfl, hy2, hb2⟩; have HY2 := Aside0.mk hy2; have HB2 := Aside0.mk hb2; clear hy2 hb2))
  go_ret
  obtain ⟨ys, h1, h2, h3⟩ := HY2.out
  exact ⟨_, rfl, ⟨ys, R50_of_own h1 (fun _ _ => trivial), h2, h3⟩, HB2.out⟩
end Go.Proofs.YtmnhcbaocoofoaaDoor.P
namespace Go.Proofs.YtmnhcbaocoofoaaDoor.Ben
open Go.Sort

instance : Inhabited Sl := ⟨⟨0, 0, 0, 0⟩⟩

def ltB (a b : Sl) : Bool := decide (a.bench < b.bench ∨ a.bench = b.bench ∧ a.fr < b.fr)
def ltF (a b : Sl) : Bool := decide (a.bench < b.bench ∨ a.bench = b.bench ∧ (a.fr < b.fr ∨ a.fr = b.fr ∧ (a.job < b.job ∨ a.job = b.job ∧ a.til < b.til)))
theorem ltB_swo : SWO ltB where
  irrefl x := by unfold ltB; simp
  trans x y z h1 h2 := by unfold ltB at *; simp at *; omega
  ntrans x y z h1 h2 := by unfold ltB at *; simp at *; omega
theorem ltF_swo : SWO ltF where
  irrefl x := by unfold ltF; simp
  trans x y z h1 h2 := by unfold ltF at *; simp at *; omega
  ntrans x y z h1 h2 := by unfold ltF at *; simp at *; omega
theorem ltF_eq (x y : Sl) (h1 : ltF x y = false) (h2 : ltF y x = false) : x = y := by
  unfold ltF at h1 h2
  simp at h1 h2
  obtain ⟨a, b, c, d⟩ := x
  obtain ⟨a', b', c', d'⟩ := y
  simp at h1 h2
  have hb : b = b' := by omega
  subst hb
  have hc : c = c' := by
    have := h1.2; have := h2.2
    simp at *; omega
  subst hc
  have ha : a = a' := by
    have := h1.2; have := h2.2
    simp at *; omega
  subst ha
  have hd : d = d' := by
    have := h1.2; have := h2.2
    simp at *; omega
  subst hd
  rfl

def sortB (l : List Sl) : List Sl := l.mergeSort fun x y => !ltF y x

theorem sched_sorted {t : Tk} {d d' : Array Sl} (h : SchedL t d.toList) (hp : PermIn 0 d.size d d') (hs : SortedIn ltB 0 d.size d') : d'.toList = sortB d.toList := by
  refine sorted_unique_holds ltF_swo ltF_eq d d' hp ?_
  intro i j hi hij hj
  have h1 := hs i j hi hij hj
  have hsz : d'.size = d.size := hp.1
  have hperm : d'.toList.Perm d.toList := by
    have := hp.2.2
    rwa [← hsz, Array.extract_size, hsz, Array.extract_size] at this
  have hc := (h.perm hperm.symm)
  have hi' : i < d'.toList.length := by rw [Array.length_toList]; omega
  have hj' : j < d'.toList.length := by rw [Array.length_toList]; omega
  have hcl := List.pairwise_iff_getElem.1 hc.clash i j hi' hj' hij
  have e1 : d'[i]! = d'.toList[i] := by rw [getElem!_pos d' i (by omega)]; simp
  have e2 : d'[j]! = d'.toList[j] := by rw [getElem!_pos d' j (by omega)]; simp
  have p1 := (hc.each _ (List.getElem_mem hi')).2.2.1
  have p2 := (hc.each _ (List.getElem_mem hj')).2.2.1
  rw [e1, e2] at h1 ⊢
  generalize d'.toList[i] = x at *
  generalize d'.toList[j] = y at *
  unfold ltB at h1
  unfold ltF
  simp only [decide_eq_false_iff_not] at h1 ⊢
  unfold Clash at hcl
  by_cases e : x.bench = y.bench ∧ x.fr = y.fr
  · have := hcl (Or.inr e.1); omega
  · omega

theorem sortB_perm (l : List Sl) : (sortB l).Perm l := List.mergeSort_perm _ _

def planS (B : Int) (m : Nat) (g : Nat → J) : List Sl := sortB (slotsOf B m g)
theorem planS_sched {B : Int} {m : Nat} {g : Nat → J} {M : Nat} (h : JobsOk B m g M) (hc : canW B m g = true) (hm : m ≤ 32) : SchedL (tkW B m g) (planS B m g) ∧ (planS B m g).length ≤ 4032 := by
  obtain ⟨h1, h2⟩ := slotsOf_sched h hc hm
  refine ⟨h1.perm (sortB_perm _).symm, ?_⟩
  unfold planS; rw [(sortB_perm _).length_eq]; exact h2
end Go.Proofs.YtmnhcbaocoofoaaDoor.Ben
namespace Go.Proofs.YtmnhcbaocoofoaaDoor.P
open Go.RowKit YtmnhcbaocoofoaaDoorW.PrintWords YtmnhcbaocoofoaaDoorW.PrintLast YtmnhcbaocoofoaaDoorW.PrintMore
open Go.Proofs.YtmnhcbaocoofoaaDoor.Ben (Rm putR addF Tk St Sl jobW wrapK slotsW partW sortB)
open Go.Sort (swp SWO PermIn SortedIn Ins)
theorem cmp_bench (B : Nat) (w0 : World) : CmpOk B w0 (.func (.func 66) #[] #[]) ltB := fun p q W _ => ⟨66, #[slA p, slA q], fun o a x y z ts ho hx hy hz => by
  have he := enters_ Tryd.func66 (by kernel_rfl) rfl #[slA p, slA q] W
  have h1 : #[y, z].map a.eval = #[slA p, slA q] := by simp [hy, hz]
  unfold execOp
  simp [ho, resolve, Deferred.ofValue, invoke, hx, h1, hy, hz, he], by_bench p q W⟩
def un50 (p : S50) : Sl := ⟨p.f0.toNat, p.f1.toNat, p.f2, p.f3⟩
theorem un_sl (s : Sl) : un50 (sl50 s) = s := by
  obtain ⟨a, b, c, d⟩ := s
  simp [un50, sl50]
theorem map_un (l : List Sl) : (l.map sl50).map un50 = l := by
  rw [List.map_map]
  conv => rhs; rw [← List.map_id l]
  exact List.map_congr_left fun s _ => un_sl s
theorem lt_un {a b : Sl} : ltB (sl50 a) (sl50 b) = Ben.ltB a b := by
  unfold ltB Ben.ltB sl50
  rw [Bool.eq_iff_iff]
  simp
  omega
theorem sched_back {t : Tk} {l : List Sl} {ys : List S50} (h : Ben.SchedL t l) (hp : PermIn 0 (l.map sl50).length (l.map sl50).toArray ys.toArray) (hs : SortedIn ltB 0 (l.map sl50).length ys.toArray) : ys = (sortB l).map sl50 := by
  have hsz : ys.length = l.length := by have := hp.1; simpa using this
  have hpm : ys.Perm (l.map sl50) := by
    have := hp.2.2
    rw [show (l.map sl50).length = ys.length by rw [List.length_map, hsz]] at this
    simpa [hsz, List.take_of_length_le (show ys.length ≤ l.length by omega), List.take_of_length_le (show (l.map sl50).length ≤ l.length by simp)] using this
  have hb : ys = (ys.map un50).map sl50 := by
    rw [List.map_map]
    conv => lhs; rw [← List.map_id ys]
    refine List.map_congr_left fun y hy => ?_
    obtain ⟨s, _, rfl⟩ := List.mem_map.1 (hpm.mem_iff.1 hy)
    simp [un_sl]
  have hpl : (ys.map un50).Perm l := by
    have := hpm.map un50
    rwa [map_un] at this
  obtain ⟨zs, hz⟩ : ∃ zs, zs = ys.map un50 := ⟨_, rfl⟩
  rw [← hz] at hb hpl
  have hzl : zs.length = l.length := hpl.length_eq
  have hk := Ben.sched_sorted (t := t) (d := l.toArray) (d' := zs.toArray) (by simpa using h) ⟨by simpa using hzl, fun i hi => by
      have : l.length ≤ i := by simp at hi; omega
      rw [getElem!_neg _ _ (by simp; omega), getElem!_neg _ _ (by simp; omega)], by simpa [List.take_of_length_le (show zs.length ≤ l.length by omega)] using hpl⟩ (fun i j _ hij hj => by
      have hj' : j < l.length := by simpa using hj
      have h1 := hs i j (by omega) hij (by simpa using hj')
      rw [hb] at h1
      rw [getElem!_pos _ _ (by simp; omega), getElem!_pos _ _ (by simp; omega)] at h1 ⊢
      simp only [List.getElem_toArray, List.getElem_map, lt_un] at h1
      simpa using h1)
  have hk' : zs = sortB l := by simpa using hk
  rw [hb, hk']
theorem sched_back' {t : Tk} {l : List Sl} {ys : List S50} (h : Ben.SchedL t l) (hp : PermIn 0 l.length (l.map sl50).toArray ys.toArray) (hs : SortedIn ltB 0 l.length ys.toArray) : ys = (sortB l).map sl50 :=
  sched_back h (by rwa [List.length_map]) (by rwa [List.length_map])
theorem sorted_at {A0 : Option Addr} {c0 : Nat} {l : List Sl} {w : World} (hr : Kd.C k50 w A0 l.length (l.map sl50)) (hn : l.length ≤ 1000000) :
    Calls Tryd.prog 65 #[.slice A0 l.length c0, .func (.func 66) #[] #[]] w fun e w' => ∃ v, e = .returned v ∧ (∃ ys : List S50, Kd.R k50 50 w' w.heap.size (fun _ => True) v ys ∧ PermIn 0 l.length (l.map sl50).toArray ys.toArray ∧ SortedIn ltB 0 l.length ys.toArray) ∧ Below w.heap.size w w' := by
  have h := sorted_calls A0 c0 (.func (.func 66) #[] #[]) ltB ltB_swo (l.map sl50) w (by rwa [List.length_map]) (cmp_bench _ _) (by rwa [List.length_map])
  rw [List.length_map] at h
  exact h
theorem slotsW_len {t : Tk} (h : t.Good) {y : Nat → Nat → Int} (hy : Ben.Full t y) : ∀ i, i ≤ t.K → (slotsW t y i).length ≤ 2 * t.m * i
  | 0, _ => by simp [slotsW]
  | i + 1, hi => by
    have h1 := slotsW_len h hy i (by omega)
    have h2 : (partW t y i).length ≤ 2 * t.m := (Ben.part_is h hy (by omega)).len
    unfold slotsW
    rw [List.length_append, Nat.mul_add_one]
    omega
set_option maxHeartbeats 16000000 in
set_option maxRecDepth 100000 in
theorem sched_calls (B0 p x b g base n : Nat) (B : Int) (A : Option Addr) (c : Nat) (js : List S40) (AP : Option Addr) (cp : Nat) (wk : Int) (next : Nat → List Nat) (w : World) (ht : TaskOk B js) (hP : Prb B0 w p x b g base n B A c js AP cp wk ⟨(Ben.flowF (tk B js)).2, next⟩)
    (hf : (Ben.flowF (tk B js)).1 = Ben.workAll (tk B js)) :
    Calls Tryd.prog 48 #[.pointer (some ⟨p, 0, none⟩)] w fun e w' => ∃ v, e = .returned v ∧ Kd.R k50 50 w' w.heap.size (fun _ => True) v ((Ben.planS B js.length (gJ js)).map sl50) ∧ Below w.heap.size w w' := by
  have HB := Aside0.mk (Below.refl w.heap.size w)
  have hfull := Ben.flow_full ht.good hf
  obtain ⟨hp0, hp1, hp2, hp3, _, _⟩ := hP.pb.at
  have HW := Aside0.mk (fun (i : Nat) (hi : i < (tk B js).K) (W : World) (hb : Below w.heap.size w W) => wrap_calls B0 p x b g base n i B A c js AP cp wk _ W ht (hP.below hb) hi (fun k hk => ⟨hfull.nonneg k i hk hi, hfull.le k i hk hi⟩))
  have HLE := Aside0.mk (fun i (hi : i ≤ (tk B js).K) => slotsW_len ht.good hfull i hi)
  have HKB := Aside0.mk (show js.length ≤ 32 ∧ (tk B js).K ≤ 63 from ⟨ht.m, ht.K⟩)
  have HSC := Aside0.mk (Ben.slotsOf_sched ht.jobs (by unfold Ben.canW; exact decide_eq_true hf) ht.m).1
  have hPS : Ben.planS B js.length (gJ js) = sortB (slotsW (tk B js) (Ben.doneF (tk B js)) (tk B js).K) := rfl
  have hPT : ∀ i, (wrapK (fun k => (Ben.flowF (tk B js)).2 (1 + js.length + i) (1 + k)) (((tk B js).at_ i : Nat) : Int) (((tk B js).at_ (i + 1) : Nat) : Int) js.length).1 = partW (tk B js) (Ben.doneF (tk B js)) i := fun i => rfl
  rw [hPS]
  have HPT := Aside0.mk hPT
  have HPS := Aside0.mk hPS
  have hkI : (((tk B js).K : Nat) : Int) ≤ 63 := by have := ht.K; omega
  clear hPT hPS hfull hf ht hp0 hp1 hp2
  obtain ⟨Kn, hK⟩ : ∃ Kn, Kn = (tk B js).K := ⟨_, rfl⟩
  have HK := Aside0.mk hK
  rw [← hK] at hkI hp3
  clear hK hP
  have hu79 := Tryd.underlying79
  have HO0 : Aside0 (Kd.R k50 50 w w.heap.size (fun _ => True) (.slice none 0 0) ((slotsW (tk B js) (Ben.doneF (tk B js)) 0).map sl50)) := ⟨Kd.R_nil _ _ _ _ _⟩
  go_enter Tryd.func48, Tryd.ntmps48
  go_wp2
  go_loopw [3, 10] (fun v3 v10 wr => ∃ i : Nat, v10 = .int .i64 (i : Int) ∧ Aside0 (i ≤ Kn) ∧ Aside0 (Kd.R k50 50 wr w.heap.size (fun _ => True) v3 ((slotsW (tk B js) (Ben.doneF (tk B js)) i).map sl50)) ∧ Aside0 (Below w.heap.size w wr)) (fun _ v10 _ => Kn - (intOf v10).toNat)
  case atStart => exact ⟨0, rfl, ⟨Nat.zero_le _⟩, HO0, HB⟩
  case round =>
    obtain ⟨i, rfl, HIL, HO, HBi⟩ := hrel
    clear HO0 HB hp3
    by_cases hit : i < Kn
    · have hitI : ((i : Nat) : Int) < ((Kn : Nat) : Int) := by omega
      have HWI := Aside0.mk (HW.out i (by rw [← HK.out]; exact hit) wr HBi.out)
      rw [HPT.out i] at HWI
      have HLI := Aside0.mk (show (slotsW (tk B js) (Ben.doneF (tk B js)) i).length ≤ 4032 ∧ (slotsW (tk B js) (Ben.doneF (tk B js)) (i + 1)).length ≤ 4032 by
        have h1 := HLE.out i (by rw [← HK.out]; omega)
        have h2 := HLE.out (i + 1) (by rw [← HK.out]; omega)
        have h3 := HKB.out
        rw [tk_m] at h1 h2
        have h4 := small_mul (k := 2 * js.length) (q := i) (a := 64) (b := 63) (by omega) (by rw [← HK.out] at h3; omega)
        have h5 := small_mul (k := 2 * js.length) (q := i + 1) (a := 64) (b := 63) (by omega) (by rw [← HK.out] at h3; omega)
        exact ⟨by omega, by omega⟩)
      have HSW : Aside0 (slotsW (tk B js) (Ben.doneF (tk B js)) (i + 1) = slotsW (tk B js) (Ben.doneF (tk B js)) i ++ partW (tk B js) (Ben.doneF (tk B js)) i) := ⟨rfl⟩
      generalize partW (tk B js) (Ben.doneF (tk B js)) i = pw at *
      generalize slotsW (tk B js) (Ben.doneF (tk B js)) i = sw at *
      go_wp2_with (first
        | (go_at_call 64; go_must (refine HWI.out.mono ?_); rintro e w5 ⟨v5, rfl, hr5, hb5⟩; obtain ⟨A5, c5, rfl⟩ := Kd.R_slice hr5; have HR5 := Aside0.mk (show Kd.C k50 w5 A5 pw.length (pw.map sl50) from (by have h := (Kd.R_reads' hr5).2.2; rwa [List.length_map] at h)); have HO5 := Aside0.mk (Kd.R_below HO.out hb5); have HB5 := Aside0.mk (below_step HBi.out hb5); clear hr5 hb5)
        | ((with_reducible refine gate_builtin (b := .append) (xs := #[.tmp 13, .tmp 16]) rfl ?_); at_builtin; refine Kd.R_append_rows k50 (w0 := w) w.heap.size rfl (.tmp 13) (.tmp 16) 42 50 (.agg #[(.int .i64 0), (.int .i64 0), (.int .i64 0), (.int .i64 0)]) 32 rfl Tryd.underlying42 info50 rfl (by decide) (by omega) _ (sw.map sl50) (pw.map sl50) _ _ _ (fun _ => True) (fun _ => False) rfl rfl ?aO ?aR (fun _ _ h => h) (fun _ h => h.elim) ?aF ?aB ?aS ?aL ?_; (case aR => exact HR5.out); (case aB => exact HB5.out); (case aF => exact (fun _ _ => trivial)); (case aO => exact HO5.out); (case aS => exact HB5.out.size); (case aL => have h := HLI.out; rw [HSW.out, List.length_append] at h; rw [List.length_map]; omega); intro v6 w6 ho6 hb6 hg6 hat6; have HO6 := Aside0.mk ho6; have HB6 := Aside0.mk hb6; clear ho6 hb6 hg6 hat6))
      go_roundw
      case rel => exact ⟨i + 1, by go_num, ⟨by omega⟩, ⟨by rw [HSW.out, List.map_append]; exact HO6.out⟩, HB6⟩
      case measure => simp [intOf]; omega
    · have hge : ¬ ((i : Nat) : Int) < ((Kn : Nat) : Int) := by omega
      have HLI := HLE.out i (by rw [← HK.out]; exact HIL.out)
      have hi : i = (tk B js).K := by have := HIL.out; have := HK.out; omega
      have HL2 := Aside0.mk (show (slotsW (tk B js) (Ben.doneF (tk B js)) i).length ≤ 1000000 by
        have h3 := HKB.out
        rw [tk_m] at HLI
        have h4 := small_mul (k := 2 * js.length) (q := i) (a := 64) (b := 63) (by omega) (by omega)
        omega)
      have HI : Aside0 (sortB (slotsW (tk B js) (Ben.doneF (tk B js)) (tk B js).K) = sortB (slotsW (tk B js) (Ben.doneF (tk B js)) i)) := ⟨by rw [hi]⟩
      have HSC2 : Aside0 (Ben.SchedL (tk B js) (slotsW (tk B js) (Ben.doneF (tk B js)) i)) := ⟨by rw [hi]; exact HSC.out⟩
      clear hi HLI HSC HLE HW HPT
      generalize slotsW (tk B js) (Ben.doneF (tk B js)) i = sw at *
      obtain ⟨A6, c6, hv6⟩ := Kd.R_slice HO.out
      rw [List.length_map] at hv6
      subst hv6
      have HCC := Aside0.mk (show Kd.C k50 wr A6 sw.length (sw.map sl50) from (by have h := (Kd.R_reads' HO.out).2.2; rwa [List.length_map] at h))
      have HSO := Aside0.mk (sorted_at (c0 := c6) HCC.out HL2.out)
      go_wp2_with (first | (go_at_call 65; go_must (refine HSO.out.mono ?_); rintro e w7 ⟨v7, rfl, ⟨ys, hy1, hy2, hy3⟩, hb7⟩; have HY := Aside0.mk (Kd.R_lower hy1 HBi.out.size); rw [sched_back' HSC2.out hy2 hy3] at HY; have HB7 := Aside0.mk (below_step HBi.out hb7); clear hy1 hy2 hy3 hb7))
      go_ret
      refine ⟨_, rfl, ?_, HB7.out⟩
      rw [HI.out]
      exact HY.out
end Go.Proofs.YtmnhcbaocoofoaaDoor.P
namespace Go.Proofs.YtmnhcbaocoofoaaDoor.P
open Go.RowKit YtmnhcbaocoofoaaDoorW.PrintWords YtmnhcbaocoofoaaDoorW.PrintLast YtmnhcbaocoofoaaDoorW.PrintMore
open Go.Sort (swp SWO PermIn SortedIn Ins)
end Go.Proofs.YtmnhcbaocoofoaaDoor.P
namespace Go.Proofs.YtmnhcbaocoofoaaDoor.Ben

theorem sum_less (f : Nat → Int) (k : Nat) : ∀ m : Nat, k ≤ m → f k = 0 → sumN f (m + 1) = sumN (fun i => f (if i < k then i else i + 1)) m := by
  intro m hk h0
  obtain ⟨d, rfl⟩ := Nat.le.dest hk
  have h1 := sumN_append f k (1 + d)
  have h2 := sumN_append (fun i => f (k + i)) 1 d
  have h3 := sumN_append (fun i => f (if i < k then i else i + 1)) k d
  have e1 : sumN (fun i => f (if i < k then i else i + 1)) k = sumN f k := by
    apply sumN_congr; intro i hi; rw [if_pos hi]
  have e2 : sumN (fun i => f (if k + i < k then k + i else k + i + 1)) d = sumN (fun i => f (k + (1 + i))) d := by
    apply sumN_congr; intro i hi
    rw [if_neg (by omega)]; congr 1; omega
  have e3 : sumN (fun i => f (k + i)) 1 = 0 := by simp [sumN, h0]
  have e4 : k + d + 1 = k + (1 + d) := by omega
  rw [e4]; omega

theorem refused_less {n : Int} {m : Nat} {g : Nat → J} {M : Nat} (k : Nat) (hk : k ≤ m) (h : Refused n m (fun i => g (if i < k then i else i + 1)) M) : Refused n (m + 1) g M := by
  obtain ⟨S, hS⟩ := h
  let S' : Nat → Bool := fun i => if i = k then false else S (if i < k then i else i - 1)
  have hS' : ∀ i, S' (if i < k then i else i + 1) = S i := by
    intro i
    by_cases h : i < k
    · simp only [S', if_pos h]; rw [if_neg (by omega)]
    · simp only [S', if_neg h]; rw [if_neg (by omega), if_neg (by omega)]; congr 1
  have hk' : S' k = false := by simp [S']
  refine ⟨S', ?_⟩
  have e1 : workOf (m + 1) g S' = workOf m (fun i => g (if i < k then i else i + 1)) S := by
    unfold workOf
    rw [sum_less _ k m hk (by simp [hk'])]
    apply sumN_congr; intro i _
    simp only [hS']
  have e2 : ∀ t, cov (m + 1) g S' t = cov m (fun i => g (if i < k then i else i + 1)) S t := by
    intro t
    unfold cov
    rw [sum_less _ k m hk (by simp [hk', one])]
    apply sumN_congr; intro i _
    simp only [hS']
  rw [e1]
  unfold room at hS ⊢
  simp only [e2]
  exact hS

theorem refused_congr {n : Int} {m : Nat} {g g' : Nat → J} {M : Nat} (h : ∀ i, i < m → g i = g' i) : Refused n m g M ↔ Refused n m g' M := by
  have e1 : ∀ S, workOf m g S = workOf m g' S := fun S => sumN_congr fun i hi => by rw [h i hi]
  have e2 : ∀ S t, cov m g S t = cov m g' S t := fun S t => sumN_congr fun i hi => by rw [h i hi]
  unfold Refused room
  simp only [e1, e2]

theorem refused_long {n : Int} {m : Nat} {g : Nat → J} {M M' : Nat} (hn : 0 ≤ n) (hM : M ≤ M') (hd : ∀ i, i < m → (g i).due ≤ M) : Refused n m g M' ↔ Refused n m g M := by
  unfold Refused
  simp only [room_long hn hM hd]


structure Kft where
  kind : Int
  fr : Int
  til : Int

end Go.Proofs.YtmnhcbaocoofoaaDoor.Ben
namespace Go.Proofs.YtmnhcbaocoofoaaDoor.P
open Go.RowKit YtmnhcbaocoofoaaDoorW.PrintWords YtmnhcbaocoofoaaDoorW.PrintLast YtmnhcbaocoofoaaDoorW.PrintMore
open Go.Sort (swp SWO PermIn SortedIn Ins)
def ApK (kf : S50 → Int) (a b : S50) : Prop := kf a = kf b → a.f3 ≤ b.f2 ∨ b.f3 ≤ a.f2
def ApartK (kf : S50 → Int) (ss : List S50) : Prop := ss.Pairwise (ApK kf)
theorem ApartK.perm {kf : S50 → Int} {xs ys : List S50} (h : ys.Perm xs) : ApartK kf ys ↔ ApartK kf xs :=
  h.pairwise_iff fun {a b} hab e => (hab e.symm).symm
end Go.Proofs.YtmnhcbaocoofoaaDoor.P
namespace Go.Proofs.YtmnhcbaocoofoaaDoor.P
open Go.RowKit YtmnhcbaocoofoaaDoorW.PrintWords YtmnhcbaocoofoaaDoorW.PrintLast YtmnhcbaocoofoaaDoorW.PrintMore
def win (a lo hi : Int) : Bool := decide (lo ≤ a ∧ a ≤ hi)
theorem win_calls (a lo hi : Int) (w : World) : Calls Tryd.prog 39 #[.int .i64 a, .int .i64 lo, .int .i64 hi] w fun e w' => e = .returned (.bool (win a lo hi)) ∧ Below w.heap.size w w' := by
  refine (bench_within.calls a lo hi (win a lo hi) w ?_).mono ?_
  · unfold bench_within.f win
    by_cases h : a ≥ lo
    · rw [if_pos h]; simp [show lo ≤ a from h]
    · rw [if_neg h]; simp; omega
  · rintro e w' ⟨he, hd⟩
    exact ⟨he, hd.below⟩
def isJ (j : Ben.J) : Bool := win j.ready 0 1048576 && win j.due 0 1048576 && decide (j.ready < j.due) && win j.work 1 1048576
def jv (j : Ben.J) : Value := .agg #[.int .i64 j.ready, .int .i64 j.due, .int .i64 j.work]
set_option maxHeartbeats 4000000 in
set_option maxRecDepth 100000 in
theorem isJob_calls (j : Ben.J) (w : World) : Calls Tryd.prog 42 #[jv j] w fun e w' => e = .returned (.bool (isJ j)) ∧ Below w.heap.size w w' := by
  obtain ⟨a, b, d⟩ := j
  have HB := Aside0.mk (Below.refl w.heap.size w)
  have hu40 := Tryd.underlying40
  have H1 := Aside0.mk (fun W => win_calls a 0 1048576 W)
  have H2 := Aside0.mk (fun W => win_calls b 0 1048576 W)
  have H3 := Aside0.mk (fun W => win_calls d 1 1048576 W)
  have HJ : Aside0 (isJ ⟨a, b, d⟩ = (win a 0 1048576 && win b 0 1048576 && decide (a < b) && win d 1 1048576)) := ⟨rfl⟩
  generalize isJ ⟨a, b, d⟩ = q at *
  generalize win a 0 1048576 = b1 at *
  generalize win b 0 1048576 = b2 at *
  generalize win d 1 1048576 = b4 at *
  unfold jv
  obtain ⟨b3, hb3⟩ : ∃ b3, b3 = decide (a < b) := ⟨_, rfl⟩
  have hb3' := hb3.symm
  rw [← hb3] at HJ
  clear hb3
  cases b1 <;> cases b2 <;> cases b3 <;> cases b4 <;>
  (go_enter Tryd.func42, Tryd.ntmps42
   go_wp2_with (first
    | ((with_reducible refine gate_dst (N := 1) rfl ?_); refine bxe 1 #[.int .i64 a, .int .i64 b, .int .i64 d] 40 ?_; intro gj hgj w3 hbox3 hb3; have HX3 := Aside0.mk hbox3; have HBa := Aside0.mk (below_step HB.out hb3); have c0 : w3.cell? ⟨gj, 0, none⟩ = some (.int .i64 a) := (blk_cell HX3.out 0).trans rfl; have c1 : w3.cell? ⟨gj, 1, none⟩ = some (.int .i64 b) := (blk_cell HX3.out 1).trans rfl; have c2 : w3.cell? ⟨gj, 2, none⟩ = some (.int .i64 d) := (blk_cell HX3.out 2).trans rfl; clear hgj hbox3 hb3)
    | (go_at_call 39; with_reducible refine ((H1.out _).mono ?_); rintro e w4 ⟨rfl, hb4⟩; have c0 := cB hb4 c0; have c1 := cB hb4 c1; have c2 := cB hb4 c2; replace HBa := Aside0.mk (below_step HBa.out hb4); clear hb4)
    | (go_at_call 39; with_reducible refine ((H2.out _).mono ?_); rintro e w4 ⟨rfl, hb4⟩; have c0 := cB hb4 c0; have c1 := cB hb4 c1; have c2 := cB hb4 c2; replace HBa := Aside0.mk (below_step HBa.out hb4); clear hb4)
    | (go_at_call 39; with_reducible refine ((H3.out _).mono ?_); rintro e w4 ⟨rfl, hb4⟩; have c0 := cB hb4 c0; have c1 := cB hb4 c1; have c2 := cB hb4 c2; replace HBa := Aside0.mk (below_step HBa.out hb4); clear hb4))
   go_ret
   exact ⟨by rw [HJ.out]; rfl, HBa.out⟩)
theorem notJ_calls (j : Ben.J) (w : World) : Calls Tryd.prog 41 #[jv j] w fun e w' => e = .returned (.bool (!isJ j)) ∧ Below w.heap.size w w' := by
  have HB := Aside0.mk (Below.refl w.heap.size w)
  have hu40 := Tryd.underlying40
  have H1 := Aside0.mk (fun W => isJob_calls j W)
  generalize isJ j = q at *
  obtain ⟨a, b, d⟩ := j
  unfold jv at *
  go_enter Tryd.func41, Tryd.ntmps41
  go_wp2_with (first
    | ((with_reducible refine gate_dst (N := 1) rfl ?_); refine bxe 1 #[.int .i64 a, .int .i64 b, .int .i64 d] 40 ?_; intro gj hgj w3 hbox3 hb3; have HX3 := Aside0.mk hbox3; have HBa := Aside0.mk (below_step HB.out hb3); have c0 : w3.cell? ⟨gj, 0, none⟩ = some (.int .i64 a) := (blk_cell HX3.out 0).trans rfl; have c1 : w3.cell? ⟨gj, 1, none⟩ = some (.int .i64 b) := (blk_cell HX3.out 1).trans rfl; have c2 : w3.cell? ⟨gj, 2, none⟩ = some (.int .i64 d) := (blk_cell HX3.out 2).trans rfl; clear hgj hbox3 hb3)
    | (go_at_call 42; go_must (refine (H1.out _).mono ?_); rintro e w4 ⟨rfl, hb4⟩; replace HBa := Aside0.mk (below_step HBa.out hb4); clear hb4))
  go_ret
  exact ⟨rfl, HBa.out⟩
set_option maxHeartbeats 4000000 in
set_option maxRecDepth 100000 in
theorem index_calls (A : Option Addr) (c : Nat) (js : List S40) (w : World) (hr : Kd.C k40 w A js.length js) (hm : js.length ≤ 1000000) :
    Calls Tryd.prog 56 #[.slice A js.length c, .func (.func 41) #[] #[]] w fun e w' => ∃ v : Int, e = .returned (.int .i64 v) ∧ (-1 ≤ v ∧ v ≤ 1000000 ∧ (0 ≤ v ↔ ∃ k, k < js.length ∧ isJ (gJ js k) = false)) ∧ Below w.heap.size w w' := by
  have HR := Aside0.mk hr
  have HB := Aside0.mk (Below.refl w.heap.size w)
  have hmI : ((js.length : Nat) : Int) ≤ 1000000 := by omega
  have hu40 := Tryd.underlying40
  clear hr hm
  go_enter Tryd.func56, Tryd.ntmps56
  go_wp2
  go_loopw [8] (fun v8 wr => ∃ k : Nat, v8 = .int .i64 (k : Int) ∧ Aside0 (k ≤ js.length) ∧ Aside0 (∀ i, i < k → isJ (gJ js i) = true) ∧ Aside0 (Below w.heap.size w wr)) (fun v8 _ => js.length - (intOf v8).toNat)
  case atStart => exact ⟨0, rfl, ⟨Nat.zero_le _⟩, ⟨fun i hi => absurd hi (Nat.not_lt_zero i)⟩, HB⟩
  case round =>
    obtain ⟨k, rfl, HKL, HI, HBk⟩ := hrel
    clear HB
    by_cases hlt : k < js.length
    · have hltI : ((k : Nat) : Int) < ((js.length : Nat) : Int) := by omega
      obtain ⟨ad, rfl, hx0, hx1, hx2⟩ := job_at HR.out HBk.out k hlt
      have HC := Aside0.mk (notJ_calls (gJ js k) wr)
      unfold jv at HC
      cases hj : isJ (gJ js k) with
      | true =>
        rw [hj, Bool.not_true] at HC
        have HJ := Aside0.mk hj
        clear hj
        go_wp2_with (first | (go_at_call 41; go_must (refine HC.out.mono ?_); rintro e w4 ⟨rfl, hb4⟩; have HB4 := Aside0.mk (below_step HBk.out hb4); clear hb4))
        go_roundw
        case rel => exact ⟨k + 1, by go_num, ⟨by omega⟩, ⟨fun i hi => by
          rcases Nat.lt_or_ge i k with h | h
          · exact HI.out i h
          · rw [show i = k by omega]; exact HJ.out⟩, HB4⟩
        case measure => simp [intOf]; omega
      | false =>
        rw [hj, Bool.not_false] at HC
        have HJ := Aside0.mk hj
        clear hj
        go_wp2_with (first | (go_at_call 41; go_must (refine HC.out.mono ?_); rintro e w4 ⟨rfl, hb4⟩; have HB4 := Aside0.mk (below_step HBk.out hb4); clear hb4))
        go_ret
        exact ⟨(k : Int), rfl, ⟨by omega, by omega, fun _ => ⟨k, hlt, HJ.out⟩, fun _ => by omega⟩, HB4.out⟩
    · have hge : ¬ ((k : Nat) : Int) < ((js.length : Nat) : Int) := by omega
      go_wp2
      go_ret
      refine ⟨-1, rfl, ⟨by omega, by omega, fun h => absurd h (by omega), fun ⟨i, hi, h⟩ => ?_⟩, HBk.out⟩
      rw [HI.out i (by omega)] at h
      cases h
theorem contains_calls (A : Option Addr) (c : Nat) (js : List S40) (w : World) (hr : Kd.C k40 w A js.length js) (hm : js.length ≤ 1000000) :
    Calls Tryd.prog 40 #[.slice A js.length c, .func (.func 41) #[] #[]] w fun e w' => ∃ q : Bool, e = .returned (.bool q) ∧ (q = true ↔ ∃ k, k < js.length ∧ isJ (gJ js k) = false) ∧ Below w.heap.size w w' := by
  have HC := Aside0.mk (index_calls A c js w hr hm)
  clear hr hm
  go_enter Tryd.func40, Tryd.ntmps40
  go_wp2_with (first | (go_at_call 56; go_must (refine HC.out.mono ?_); rintro e w4 ⟨v, rfl, hv, hb4⟩; have HV := Aside0.mk hv; have HB4 := Aside0.mk hb4; clear hv hb4))
  go_ret
  exact ⟨_, rfl, by simpa using HV.out.2.2, HB4.out⟩
def gS (ss : List S50) (i : Nat) : S50 := ss.getD i z50
theorem gS_get {ss : List S50} {i : Nat} (h : i < ss.length) : gS ss i = ss[i] := by unfold gS; rw [List.getD_eq_getElem?_getD, List.getElem?_eq_getElem h, Option.getD_some]
def SlotOk (B : Int) (js : List S40) (s : S50) : Prop := (0 ≤ s.f0 ∧ s.f0 ≤ (js.length : Int) - 1) ∧ (0 ≤ s.f1 ∧ s.f1 ≤ B - 1) ∧ s.f2 < s.f3 ∧ (gJ js s.f0.toNat).ready ≤ s.f2 ∧ s.f3 ≤ (gJ js s.f0.toNat).due
theorem slotOk_iff (B : Int) (js : List S40) (s : S50) : SlotOk B js s ↔ ((0 ≤ s.f0 ∧ s.f0 ≤ (js.length : Int) - 1) ∧ (0 ≤ s.f1 ∧ s.f1 ≤ B - 1) ∧ s.f2 < s.f3 ∧ (gJ js s.f0.toNat).ready ≤ s.f2 ∧ s.f3 ≤ (gJ js s.f0.toNat).due) := Iff.rfl
def doneN (ss : List S50) (i k : Nat) : Int := Ben.sumN (fun q => if (gS ss q).f0 = (k : Int) then (gS ss q).f3 - (gS ss q).f2 else 0) i
structure SchOk (B : Int) (js : List S40) (ss : List S50) : Prop where
  len : ss.length ≤ 4096
  each : ∀ i, i < ss.length → SlotOk B js (gS ss i)
  work : ∀ k, k < js.length → doneN ss ss.length k = (gJ js k).work
  apJ : ApartK S50.f0 ss
  apB : ApartK S50.f1 ss
open Classical in
noncomputable def schB (B : Int) (js : List S40) (ss : List S50) : Bool := decide (SchOk B js ss)
theorem slot_at {w W : World} {A : Option Addr} {ss : List S50} (h : Kd.C k50 w A ss.length ss) (hB : Below w.heap.size w W) (k : Nat) (hk : k < ss.length) : ∃ ad, A = some ad ∧ W.cell? (ad.add (k * 4)) = some (.int .i64 (gS ss k).f0) ∧
    W.cell? ⟨(ad.add (k * 4)).block, (ad.add (k * 4)).off + 1, none⟩ = some (.int .i64 (gS ss k).f1) ∧ W.cell? ⟨(ad.add (k * 4)).block, (ad.add (k * 4)).off + 2, none⟩ = some (.int .i64 (gS ss k).f2) ∧ W.cell? ⟨(ad.add (k * 4)).block, (ad.add (k * 4)).off + 3, none⟩ = some (.int .i64 (gS ss k).f3) := by
  obtain ⟨ad, e, h0, h1, h2, h3⟩ := at_T50 h (k : Int) (by omega) (by omega)
  unfold rd_T50 at h0 h1 h2 h3
  rw [Int.toNat_natCast] at h0 h1 h2 h3
  exact ⟨ad, e, cB hB h0, cB hB h1, cB hB h2, cB hB h3⟩
structure IsM (w0 W : World) (gt gs gd n : Nat) (B : Int) (A : Option Addr) (c : Nat) (x : S50) (D : Nat → Int) : Prop where
  t : W.heap[gt]? = some (.cells #[.int .i64 B, .slice A n c] 55 (0, 0))
  s : W.heap[gs]? = some (.cells #[.int .i64 x.f0, .int .i64 x.f1, .int .i64 x.f2, .int .i64 x.f3] 50 (0, 0))
  d : W.rowIs gd 3 n (fun k => .int .i64 (D k))
  b : Below w0.heap.size w0 W
theorem IsM.below {w0 W W' : World} {gt gs gd n : Nat} {B : Int} {A : Option Addr} {c : Nat} {x : S50} {D : Nat → Int} (h : IsM w0 W gt gs gd n B A c x D) (hb : Below W.heap.size W W') : IsM w0 W' gt gs gd n B A c x D :=
  ⟨(hb.block _ (blk_lt h.t)).trans h.t, (hb.block _ (blk_lt h.s)).trans h.s, row_below h.d hb, below_step h.b hb⟩
theorem doneN_le {B : Int} {js : List S40} {ss : List S50} (ht : TaskOk B js) : ∀ i, (∀ q, q < i → SlotOk B js (gS ss q)) → ∀ k, 0 ≤ doneN ss i k ∧ doneN ss i k ≤ i * 1048576
  | 0, _, k => by simp [doneN, Ben.sumN]
  | i + 1, h, k => by
    have h1 := doneN_le ht i (fun q hq => h q (by omega)) k
    obtain ⟨h2, h3, h4, h5, h6⟩ := h i (by omega)
    have h7 := ht.job (gS ss i).f0.toNat (by omega)
    have e : doneN ss (i + 1) k = doneN ss i k + (if (gS ss i).f0 = (k : Int) then (gS ss i).f3 - (gS ss i).f2 else 0) := rfl
    rw [e]
    split <;> omega
end Go.Proofs.YtmnhcbaocoofoaaDoor.P
