/- Proved here: what functions that the law reaches compute, and plain laws of that. -/
import Derived.Test.YtmnhcbaocoofoaaDoorBQ15
import Derived.Test.YtmnhcbaocoofoaaDoorBQ11
import Derived.Test.YtmnhcbaocoofoaaDoorBQ12
import Derived.Test.YtmnhcbaocoofoaaDoorRows
import Derived.WalkKit
import Derived.ProofKit
import Derived.OpenShut
import Derived.ChangeOld
import Derived.Below
import Derived.Carry
import Derived.Lib.SmallJoins
import Derived.Deep.SlicePairs
import Derived.LaidMore
import Derived.LaidHandle
import Derived.Stop.Joined
set_option linter.unusedVariables false
set_option linter.unusedSimpArgs false
namespace Go.Proofs.YtmnhcbaocoofoaaDoor.P
open Go.RowKit YtmnhcbaocoofoaaDoorW.PrintWords YtmnhcbaocoofoaaDoorW.PrintLast YtmnhcbaocoofoaaDoorW.PrintMore
def fewL (js : List S40) : Nat → Int → Int
  | 0, _ => 0
  | f + 1, B => if Ben.canW B js.length (gJ js) = true then B else fewL js f (B + 1)
theorem TaskOk.more {B : Int} {js : List S40} (h : TaskOk B js) {B' : Int} (h1 : 1 ≤ B') (h2 : B' ≤ 8) : TaskOk B' js := ⟨⟨h1, h2⟩, h.m, h.job⟩
theorem poss_at {B : Int} {A : Option Addr} {c : Nat} {js : List S40} {W : World} (hno : None_ W) (hr : Kd.C k40 W A js.length js) (hc : js.length ≤ c) (ht : TaskOk B js) :
    Calls Tryd.prog 29 #[.agg #[.int .i64 B, .slice A js.length c]] W fun e w' => e = .returned (.bool (Ben.canW B js.length (gJ js))) ∧ Below W.heap.size W w' :=
  bench_task_possible.calls B A c js _ W hno hr hc (by unfold bench_task_possible.f; rw [if_pos ht])
set_option maxHeartbeats 8000000 in
set_option maxRecDepth 100000 in
theorem few_ok (A : Option Addr) (c : Nat) (js : List S40) (w : World) (hno : None_ w) (hr : Kd.C k40 w A js.length js) (hc : js.length ≤ c) (ht : TaskOk 1 js) :
    Calls Tryd.prog 14 #[.slice A js.length c] w fun e w' => e = .returned (.tuple #[.int .i64 (fewL js 8 1), .int .i64 0]) ∧ Below w.heap.size w w' := by
  have HB := Aside0.mk (Below.refl w.heap.size w)
  have HN := Aside0.mk (newt_ok 1 A c js w hr ht)
  have HP := Aside0.mk (fun (B : Int) (h1 : 1 ≤ B) (h2 : B ≤ 8) W (hb : Below w.heap.size w W) => poss_at (hno.below hb) (Kd.C_below hr hb) hc (ht.more h1 h2))
  obtain ⟨R, hR⟩ : ∃ R, R = fewL js 8 1 := ⟨_, rfl⟩
  have HR0 : Aside0 (fewL js 8 1 = R) := ⟨hR.symm⟩
  rw [← hR]
  have hu55 := Tryd.underlying55
  clear hno hr hc ht hR
  go_enter Tryd.func14, Tryd.ntmps14
  go_wp2_with (first
    | (go_at_call 28; go_must (refine HN.out.mono ?_); rintro e w4 ⟨rfl, hb4⟩; have HB4 := Aside0.mk (below_step HB.out hb4); clear hb4)
    | ((with_reducible refine gate_dst (N := 4) rfl ?_); refine bxe 4 #[.int .i64 0, .slice none 0 0] 55 ?_; intro gt hgt w5 hbox5 hb5; have HXT := Aside0.mk hbox5; have HGT := Aside0.mk (show w.heap.size ≤ gt by rw [hgt]; exact HB4.out.size); have HB5 := Aside0.mk (below_step HB4.out hb5); have t0 : w5.cell? ⟨gt, 0, none⟩ = some (.int .i64 0) := (blk_cell HXT.out 0).trans rfl; have t1 : w5.cell? ⟨gt, 1, none⟩ = some (.slice none 0 0) := (blk_cell HXT.out 1).trans rfl; have s0 := blk_frozen HXT.out 0; have s1 := blk_frozen HXT.out 1; clear hgt hbox5 hb5))
  have HX0 : Aside0 (((w5.setCell ⟨gt, 0, none⟩ (.int .i64 1)).setCell ⟨gt, 1, none⟩ (.slice A js.length c)).heap[gt]? = some (.cells #[.int .i64 1, .slice A js.length c] 55 (0, 0))) := ⟨blk_put (cs := #[.int .i64 1, .slice none 0 0]) (blk_put (cs := #[.int .i64 0, .slice none 0 0]) HXT.out 0 _ rfl) 1 _ rfl⟩
  have HB0 : Aside0 (Below w.heap.size w ((w5.setCell ⟨gt, 0, none⟩ (.int .i64 1)).setCell ⟨gt, 1, none⟩ (.slice A js.length c))) := ⟨Below.setCell (Below.setCell HB5.out HGT.out _) HGT.out _⟩
  clear t0 t1 s0 s1 HB5 HXT HN
  go_loopg [14] 8 (fun f v14 wr => ∃ B : Int, Aside0 (B + (f : Int) = 9 ∧ 1 ≤ B) ∧ Aside0 (fewL js f B = R) ∧ Aside0 (wr.heap[gt]? = some (.cells #[.int .i64 B, .slice A js.length c] 55 (0, 0))) ∧ Aside0 (Below w.heap.size w wr))
  case atStart => exact ⟨1, ⟨by omega⟩, HR0, HX0, HB0⟩
  case round =>
    obtain ⟨B, HBF, HF, HX, HBr⟩ := hrel
    clear HR0 HX0 HB0
    have c0 : wr.cell? ⟨gt, 0, none⟩ = some (.int .i64 B) := (blk_cell HX.out 0).trans rfl
    have c1 : wr.cell? ⟨gt, 1, none⟩ = some (.slice A js.length c) := (blk_cell HX.out 1).trans rfl
    have f0 := blk_frozen HX.out 0
    cases gk with
    | zero =>
      have hB : B = 9 := by have := HBF.out; omega
      subst hB
      have HRZ : Aside0 (R = 0) := ⟨HF.out.symm⟩
      go_wp2
      go_ret2
      exact ⟨by rw [HRZ.out]; rfl, HBr.out⟩
    | succ f =>
      have hB8 : B ≤ 8 := by have := HBF.out; omega
      have hB1 : 1 ≤ B := HBF.out.2
      have HPB := Aside0.mk (HP.out B hB1 hB8 wr HBr.out)
      cases hcw : Ben.canW B js.length (gJ js) with
      | true =>
        rw [hcw] at HPB
        have HRZ : Aside0 (R = B) := ⟨by rw [← HF.out, fewL, if_pos hcw]⟩
        clear hcw
        go_wp2_with (first | (go_at_call 29; go_must (refine HPB.out.mono ?_); rintro e w6 ⟨rfl, hb6⟩; have HB6 := Aside0.mk (below_step HBr.out hb6); have c0 := cB hb6 c0; clear hb6))
        go_ret2
        exact ⟨by rw [HRZ.out]; rfl, HB6.out⟩
      | false =>
        rw [hcw] at HPB
        have HFZ : Aside0 (fewL js f (B + 1) = R) := ⟨by rw [← HF.out, fewL, if_neg (by rw [hcw]; decide)]⟩
        clear hcw
        go_wp2_with (first | (go_at_call 29; go_must (refine HPB.out.mono ?_); rintro e w6 ⟨rfl, hb6⟩; have HB6 := Aside0.mk (below_step HBr.out hb6); have HX6 := Aside0.mk ((hb6.block _ (blk_lt HX.out)).trans HX.out); have c0 := cB hb6 c0; have f0 := blk_frozen HX6.out 0; clear hb6))
        go_roundg f
        case measure => exact Nat.lt_succ_self _
        case rel => exact ⟨B + 1, ⟨by have := HBF.out; omega⟩, HFZ, ⟨blk_put (cs := #[.int .i64 B, .slice A js.length c]) HX6.out 0 _ rfl⟩, ⟨Below.setCell HB6.out HGT.out _⟩⟩
set_option maxHeartbeats 8000000 in
set_option maxRecDepth 100000 in
theorem few_no (A : Option Addr) (c : Nat) (js : List S40) (w : World) (hr : Kd.C k40 w A js.length js) (hm : js.length ≤ 1000000) (ht : ¬ TaskOk 1 js) :
    Calls Tryd.prog 14 #[.slice A js.length c] w fun e w' => e = .returned (.tuple #[.int .i64 0, .int .i64 2]) ∧ Below w.heap.size w w' := by
  have HB := Aside0.mk (Below.refl w.heap.size w)
  have HN := Aside0.mk (newt_no 1 A c js w hr hm ht)
  have hu55 := Tryd.underlying55
  clear hr hm ht
  go_enter Tryd.func14, Tryd.ntmps14
  go_wp2_with (first
    | (go_at_call 28; go_must (refine HN.out.mono ?_); rintro e w4 ⟨rfl, hb4⟩; have HB4 := Aside0.mk (below_step HB.out hb4); clear hb4)
    | ((with_reducible refine gate_dst (N := 4) rfl ?_); refine bxe 4 #[.int .i64 0, .slice none 0 0] 55 ?_; intro gt hgt w5 hbox5 hb5; have HXT := Aside0.mk hbox5; have HGT := Aside0.mk (show w.heap.size ≤ gt by rw [hgt]; exact HB4.out.size); have HB5 := Aside0.mk (below_step HB4.out hb5); have t0 : w5.cell? ⟨gt, 0, none⟩ = some (.int .i64 0) := (blk_cell HXT.out 0).trans rfl; have t1 : w5.cell? ⟨gt, 1, none⟩ = some (.slice none 0 0) := (blk_cell HXT.out 1).trans rfl; have s0 := blk_frozen HXT.out 0; have s1 := blk_frozen HXT.out 1; clear hgt hbox5 hb5))
  go_ret2
  exact ⟨rfl, Below.setCell (Below.setCell HB5.out HGT.out _) HGT.out _⟩
open Classical in
noncomputable def bench_Fewest.f (l0 : List S40) : Option (Int × Int) := if TaskOk 1 l0 then some (fewL l0 8 1, 0) else if l0.length ≤ 1000000 then some (0, 2) else none
theorem bench_Fewest.calls (A0 : Option Addr) (c0 : Nat) (l0 : List S40) (r1 r2 : Int) (w : World) (hno : None_ w) (hr0 : Kd.C k40 w A0 l0.length l0) (hc0 : l0.length ≤ c0) (h : bench_Fewest.f l0 = some (r1, r2)) :
    Calls Tryd.prog 14 #[.slice A0 l0.length c0] w fun e w' => e = .returned (.tuple #[.int .i64 r1, .int .i64 r2]) ∧ Below w.heap.size w w' := by
  unfold bench_Fewest.f at h
  split at h
  case isTrue ht =>
    simp only [Option.some.injEq, Prod.mk.injEq] at h
    obtain ⟨rfl, rfl⟩ := h
    exact few_ok A0 c0 l0 w hno hr0 hc0 ht
  case isFalse ht =>
    split at h
    case isTrue hm =>
      simp only [Option.some.injEq, Prod.mk.injEq] at h
      obtain ⟨rfl, rfl⟩ := h
      exact few_no A0 c0 l0 w hr0 hm ht
    case isFalse hm => exact absurd h (by simp)
def movL (d : Int) (js : List S40) : List S40 := js.map fun j => ⟨j.f0 + d, j.f1, j.f2⟩
theorem movL_len (d : Int) (js : List S40) : (movL d js).length = js.length := by simp [movL]
theorem gJ_mov (d : Int) (js : List S40) {k : Nat} (hk : k < js.length) : gJ (movL d js) k = ⟨(gJ js k).ready + d, (gJ js k).due, (gJ js k).work⟩ := by
  unfold gJ movL
  simp only [List.getD_eq_getElem?_getD, List.getElem?_map, List.getElem?_eq_getElem hk, Option.map_some, Option.getD_some]
def lateB (d : Int) (js : List S40) : Bool := decide (∀ k, k < js.length → (gJ js k).ready + d < (gJ js k).due)
theorem lateB_ok {B d : Int} {js : List S40} (h : TaskOk B js) (h0 : 0 ≤ d) (hl : lateB d js = true) : TaskOk B (movL d js) := by
  have hl' := of_decide_eq_true hl
  refine ⟨h.b, by rw [movL_len]; exact h.m, fun k hk => ?_⟩
  rw [movL_len] at hk
  rw [gJ_mov d js hk]
  have := h.job k hk
  have := hl' k hk
  show 0 ≤ (gJ js k).ready + d ∧ (gJ js k).ready + d < (gJ js k).due ∧ (gJ js k).due ≤ 1048576 ∧ 1 ≤ (gJ js k).work ∧ (gJ js k).work ≤ 1048576
  exact ⟨by omega, by omega, by omega, by omega, by omega⟩
theorem later_go {B d : Int} {js : List S40} (h : TaskOk B js) (h0 : 0 ≤ d) (h1 : d ≤ 1048577) : ∀ f j, j + f = js.length → (∀ i, i < j → (gJ js i).ready + d < (gJ js i).due) →
    bench_task_later.l0 (f + 1) d js (js.length : Int) (j : Int) B (movL d (js.take j)) = some (if lateB d js = true then (B, movL d js, true) else (0, [], false))
  | 0, j, hj, hp => by
    have : j = js.length := by omega
    subst this
    unfold bench_task_later.l0
    rw [if_neg (by omega), List.take_length]
    have : lateB d js = true := decide_eq_true hp
    rw [if_pos this]
  | f + 1, j, hj, hp => by
    have hlt : j < js.length := by omega
    have hjob := h.job j hlt
    have hm := h.m
    have hrd : rd_T40 js (j : Int) = ⟨(gJ js j).ready, (gJ js j).due, (gJ js j).work⟩ := by unfold rd_T40 gJ; rw [Int.toNat_natCast]
    unfold bench_task_later.l0
    rw [if_pos (by omega), if_pos (by omega), if_pos (by omega), hrd]
    have hw : wrap64 ((gJ js j).ready + d) = (gJ js j).ready + d := by unfold wrap64; omega
    simp only [hw]
    by_cases hc : (gJ js j).ready + d < (gJ js j).due
    · rw [if_neg (by omega), if_pos (by rw [movL_len, List.length_take]; omega)]
      have hwj : wrap64 ((j : Int) + 1) = ((j + 1 : Nat) : Int) := by unfold wrap64; omega
      rw [hwj]
      have e : movL d (js.take j) ++ [(⟨(gJ js j).ready + d, (gJ js j).due, (gJ js j).work⟩ : S40)] = movL d (js.take (j + 1)) := by
        unfold movL
        rw [List.take_add_one, List.getElem?_eq_getElem hlt, List.map_append]
        simp [gJ, List.getD_eq_getElem?_getD, List.getElem?_eq_getElem hlt]
      rw [e]
      exact later_go h h0 h1 f (j + 1) (by omega) fun i hi => by
        rcases Nat.lt_or_ge i j with h | h
        · exact hp i h
        · rw [show i = j by omega]; exact hc
    · rw [if_pos (by omega)]
      have : ¬ lateB d js = true := fun hl => hc (of_decide_eq_true hl j hlt)
      rw [if_neg this]
theorem later_val {B d : Int} {js : List S40} (h : TaskOk B js) (h0 : 0 ≤ d) (h1 : d ≤ 1048577) : bench_task_later.f (js.length + 1) B js d = some (if lateB d js = true then (B, movL d js, true) else (0, [], false)) := by
  unfold bench_task_later.f
  exact later_go h h0 h1 js.length 0 (by omega) fun i hi => absurd hi (Nat.not_lt_zero i)
theorem late_at {B d : Int} {A : Option Addr} {c : Nat} {js : List S40} {W : World} (hr : Kd.C k40 W A js.length js) (hc : js.length ≤ c) (h : TaskOk B js) (h0 : 0 ≤ d) (h1 : d ≤ 1048577) (hl : lateB d js = true) :
    Calls Tryd.prog 31 #[.agg #[.int .i64 B, .slice A js.length c], .int .i64 d] W fun e w' => ∃ A1 c1, e = .returned (.tuple #[.agg #[.int .i64 B, .slice A1 js.length c1], .bool true]) ∧ (Kd.C k40 w' A1 js.length (movL d js) ∧ js.length ≤ c1) ∧ Below W.heap.size W w' := by
  have hv := later_val h h0 h1
  rw [if_pos hl] at hv
  refine (bench_task_later.calls _ B A c js d _ _ _ W hr hc hv).mono ?_
  rintro e w' ⟨v, rfl, hR, hb⟩
  obtain ⟨A1, c1, rfl, hl1, hC⟩ := Kd.R_reads hR
  rw [movL_len] at hl1 hC ⊢
  exact ⟨A1, c1, rfl, ⟨hC, hl1⟩, hb⟩
theorem late_not {B d : Int} {A : Option Addr} {c : Nat} {js : List S40} {W : World} (hr : Kd.C k40 W A js.length js) (hc : js.length ≤ c) (h : TaskOk B js) (h0 : 0 ≤ d) (h1 : d ≤ 1048577) (hl : lateB d js = false) :
    Calls Tryd.prog 31 #[.agg #[.int .i64 B, .slice A js.length c], .int .i64 d] W fun e w' => ∃ A1 c1, e = .returned (.tuple #[.agg #[.int .i64 0, .slice A1 0 c1], .bool false]) ∧ Below W.heap.size W w' := by
  have hv := later_val h h0 h1
  rw [if_neg (by rw [hl]; decide)] at hv
  refine (bench_task_later.calls _ B A c js d _ _ _ W hr hc hv).mono ?_
  rintro e w' ⟨v, rfl, hR, hb⟩
  obtain ⟨A1, c1, rfl⟩ := Kd.R_slice hR
  exact ⟨A1, c1, rfl, hb⟩
theorem poss_mov {B d : Int} {A1 : Option Addr} {c1 : Nat} {js : List S40} {W : World} (hno : None_ W) (hr : Kd.C k40 W A1 js.length (movL d js)) (hc : js.length ≤ c1) (ht : TaskOk B (movL d js)) :
    Calls Tryd.prog 29 #[.agg #[.int .i64 B, .slice A1 js.length c1]] W fun e w' => e = .returned (.bool (Ben.canW B js.length (gJ (movL d js)))) ∧ Below W.heap.size W w' := by
  have h := poss_at (A := A1) (c := c1) hno (by rw [movL_len]; exact hr) (by rw [movL_len]; exact hc) ht
  rw [movL_len] at h
  exact h
def okAt (B : Int) (js : List S40) (d : Int) : Bool := lateB d js && Ben.canW B js.length (gJ (movL d js))
def latL (B : Int) (js : List S40) : Nat → Int → Int → Int
  | 0, lo, _ => lo
  | f + 1, lo, hi => if lo < hi then (if okAt B js (lo + (hi - lo + 1) / 2) = true then latL B js f (lo + (hi - lo + 1) / 2) hi else latL B js f lo (lo + (hi - lo + 1) / 2 - 1)) else lo
set_option maxHeartbeats 8000000 in
set_option maxRecDepth 100000 in
theorem lat_ok (B : Int) (A : Option Addr) (c : Nat) (js : List S40) (w : World) (hno : None_ w) (hr : Kd.C k40 w A js.length js) (hc : js.length ≤ c) (ht : TaskOk B js) :
    Calls Tryd.prog 18 #[.int .i64 B, .slice A js.length c] w fun e w' => e = .returned (.tuple #[.int .i64 (latL B js 21 (-1) 1048576), .int .i64 0]) ∧ Below w.heap.size w w' := by
  have HB := Aside0.mk (Below.refl w.heap.size w)
  have HN := Aside0.mk (newt_ok B A c js w hr ht)
  have HY := Aside0.mk (fun (d : Int) (h0 : 0 ≤ d) (h1 : d ≤ 1048577) (hl : lateB d js = true) W (hb : Below w.heap.size w W) => late_at (Kd.C_below hr hb) hc ht h0 h1 hl)
  have HZ := Aside0.mk (fun (d : Int) (h0 : 0 ≤ d) (h1 : d ≤ 1048577) (hl : lateB d js = false) W (hb : Below w.heap.size w W) => late_not (Kd.C_below hr hb) hc ht h0 h1 hl)
  have HP := Aside0.mk (fun (d : Int) (h0 : 0 ≤ d) (hl : lateB d js = true) (A1 : Option Addr) (c1 : Nat) W (hb : Below w.heap.size w W) (h : Kd.C k40 W A1 js.length (movL d js) ∧ js.length ≤ c1) => poss_mov (hno.below hb) h.1 h.2 (lateB_ok ht h0 hl))
  obtain ⟨R, hR⟩ : ∃ R, R = latL B js 21 (-1) 1048576 := ⟨_, rfl⟩
  have HR0 : Aside0 (latL B js 21 (-1) 1048576 = R) := ⟨hR.symm⟩
  rw [← hR]
  have hu55 := Tryd.underlying55
  clear hno hr hc ht hR
  go_enter Tryd.func18, Tryd.ntmps18
  go_wp2_with (first
    | (go_at_call 28; go_must (refine HN.out.mono ?_); rintro e w4 ⟨rfl, hb4⟩; have HB4 := Aside0.mk (below_step HB.out hb4); clear hb4)
    | ((with_reducible refine gate_dst (N := 6) rfl ?_); refine bxe 6 #[.int .i64 0, .slice none 0 0] 55 ?_; intro gt hgt w5 hbox5 hb5; have HXT := Aside0.mk hbox5; have HGT := Aside0.mk (show w.heap.size ≤ gt by rw [hgt]; exact HB4.out.size); have HB5 := Aside0.mk (below_step HB4.out hb5); have t0 : w5.cell? ⟨gt, 0, none⟩ = some (.int .i64 0) := (blk_cell HXT.out 0).trans rfl; have t1 : w5.cell? ⟨gt, 1, none⟩ = some (.slice none 0 0) := (blk_cell HXT.out 1).trans rfl; have s0 := blk_frozen HXT.out 0; have s1 := blk_frozen HXT.out 1; clear hgt hbox5 hb5))
  have HX0 : Aside0 (((w5.setCell ⟨gt, 0, none⟩ (.int .i64 B)).setCell ⟨gt, 1, none⟩ (.slice A js.length c)).heap[gt]? = some (.cells #[.int .i64 B, .slice A js.length c] 55 (0, 0))) := ⟨blk_put (cs := #[.int .i64 B, .slice none 0 0]) (blk_put (cs := #[.int .i64 0, .slice none 0 0]) HXT.out 0 _ rfl) 1 _ rfl⟩
  have HB0 : Aside0 (Below w.heap.size w ((w5.setCell ⟨gt, 0, none⟩ (.int .i64 B)).setCell ⟨gt, 1, none⟩ (.slice A js.length c))) := ⟨Below.setCell (Below.setCell HB5.out HGT.out _) HGT.out _⟩
  clear t0 t1 s0 s1 HB5 HXT HN
  go_loopg [8, 9] 21 (fun f v8 v9 wr => ∃ lo hi : Int, v8 = .int .i64 lo ∧ v9 = .int .i64 hi ∧ Aside0 (-1 ≤ lo ∧ lo ≤ hi ∧ hi ≤ 1048576 ∧ hi - lo < 2 ^ f) ∧ Aside0 (latL B js f lo hi = R) ∧ Aside0 (wr.heap[gt]? = some (.cells #[.int .i64 B, .slice A js.length c] 55 (0, 0))) ∧ Aside0 (Below w.heap.size w wr))
  case atStart => exact ⟨-1, 1048576, rfl, rfl, ⟨by decide⟩, HR0, HX0, HB0⟩
  case round =>
    obtain ⟨lo, hi, rfl, rfl, HF, HL, HX, HBr⟩ := hrel
    clear HR0 HX0 HB0
    by_cases hlt : lo < hi
    · cases gk with
      | zero => exact absurd HF.out (by intro h; have := h.2.2.2; simp at this; omega)
      | succ f =>
        have c0 : wr.cell? ⟨gt, 0, none⟩ = some (.int .i64 B) := (blk_cell HX.out 0).trans rfl
        have c1 : wr.cell? ⟨gt, 1, none⟩ = some (.slice A js.length c) := (blk_cell HX.out 1).trans rfl
        have h1 : -1 ≤ lo := HF.out.1
        have h2 : hi ≤ 1048576 := HF.out.2.2.1
        obtain ⟨q, hq⟩ : ∃ q, q = (hi - lo + 1) / 2 := ⟨_, rfl⟩
        have hq1 : 1 ≤ q := by omega
        have hq2 : lo + q ≤ hi := by omega
        have HQ := Aside0.mk (show hi - (lo + q) < 2 ^ f ∧ q - 1 < 2 ^ f by
          have := HF.out.2.2.2
          have e : (2 : Int) ^ (f + 1) = 2 * 2 ^ f := by rw [Int.pow_succ]; omega
          omega)
        have HLL : Aside0 ((if okAt B js (lo + q) = true then latL B js f (lo + q) hi else latL B js f lo (lo + q - 1)) = R) := ⟨by rw [← HL.out, latL, if_pos hlt, ← hq]⟩
        have hqq := hq.symm
        clear hq HL
        have hD0 : 0 ≤ lo + q := by omega
        have hD1 : lo + q ≤ 1048577 := by omega
        cases hl : lateB (lo + q) js with
        | false =>
          have HZ1 := Aside0.mk (HZ.out (lo + q) hD0 hD1 hl wr HBr.out)
          have HLR : Aside0 (latL B js f lo (lo + q - 1) = R) := ⟨by rw [← HLL.out, if_neg (by unfold okAt; rw [hl]; simp)]⟩
          clear hl HLL
          go_wp2_with (first
            | (go_at_call 31; go_must (refine HZ1.out.mono ?_); rintro e w6 ⟨A1, c1', rfl, hb6⟩; have HB6 := Aside0.mk (below_step HBr.out hb6); have HX6 := Aside0.mk ((hb6.block _ (blk_lt HX.out)).trans HX.out); clear hb6)
            | ((with_reducible refine gate_dst (N := 11) rfl ?_); refine bxe 11 #[.int .i64 0, .slice none 0 0] 55 ?_; intro gs hgs w7 hbox7 hb7; have HXS := Aside0.mk hbox7; have HGS := Aside0.mk (show w.heap.size ≤ gs ∧ gt < gs by rw [hgs]; exact ⟨HB6.out.size, blk_lt HX6.out⟩); have HX7 := Aside0.mk ((hb7.block _ (blk_lt HX6.out)).trans HX6.out); have HB7 := Aside0.mk (below_step HB6.out hb7); have t0 : w7.cell? ⟨gs, 0, none⟩ = some (.int .i64 0) := (blk_cell HXS.out 0).trans rfl; have t1 : w7.cell? ⟨gs, 1, none⟩ = some (.slice none 0 0) := (blk_cell HXS.out 1).trans rfl; have s0 := blk_frozen HXS.out 0; have s1 := blk_frozen HXS.out 1; clear hgs hbox7 hb7))
          go_roundg f
          case measure => exact Nat.lt_succ_self _
          case rel => exact ⟨lo, lo + q - 1, rfl, by go_num, ⟨by have := HQ.out; have := HF.out; omega⟩, HLR, ⟨blk_far (blk_far HX7.out (Nat.ne_of_lt HGS.out.2) _) (Nat.ne_of_lt HGS.out.2) _⟩, ⟨Below.setCell (Below.setCell HB7.out HGS.out.1 _) HGS.out.1 _⟩⟩
        | true =>
          have HY1 := Aside0.mk (HY.out (lo + q) hD0 hD1 hl wr HBr.out)
          have HPQ := Aside0.mk (HP.out (lo + q) hD0 hl)
          cases hcw : Ben.canW B js.length (gJ (movL (lo + q) js)) with
          | true =>
            have HLR : Aside0 (latL B js f (lo + q) hi = R) := ⟨by rw [← HLL.out, if_pos (by unfold okAt; rw [hl, hcw]; rfl)]⟩
            rw [hcw] at HPQ
            clear hl hcw HLL
            go_wp2_with (first
              | (go_at_call 31; go_must (refine HY1.out.mono ?_); rintro e w6 ⟨A1, c1', rfl, hC6, hb6⟩; have HC6 := Aside0.mk hC6; have HB6 := Aside0.mk (below_step HBr.out hb6); have HX6 := Aside0.mk ((hb6.block _ (blk_lt HX.out)).trans HX.out); clear hC6 hb6)
              | ((with_reducible refine gate_dst (N := 11) rfl ?_); refine bxe 11 #[.int .i64 0, .slice none 0 0] 55 ?_; intro gs hgs w7 hbox7 hb7; have HXS := Aside0.mk hbox7; have HGS := Aside0.mk (show w.heap.size ≤ gs ∧ gt < gs by rw [hgs]; exact ⟨HB6.out.size, blk_lt HX6.out⟩); have HX7 := Aside0.mk ((hb7.block _ (blk_lt HX6.out)).trans HX6.out); have HB7 := Aside0.mk (below_step HB6.out hb7); have HC7 := Aside0.mk (show Kd.C k40 ((w7.setCell ⟨gs, 0, none⟩ (.int .i64 B)).setCell ⟨gs, 1, none⟩ (.slice A1 js.length c1')) A1 js.length (movL (lo + q) js) ∧ js.length ≤ c1' from ⟨Kd.C_below HC6.out.1 (Below.setCell (Below.setCell hb7 (Nat.le_of_eq hgs.symm) _) (Nat.le_of_eq hgs.symm) _), HC6.out.2⟩); have HB8 := Aside0.mk (show Below w.heap.size w ((w7.setCell ⟨gs, 0, none⟩ (.int .i64 B)).setCell ⟨gs, 1, none⟩ (.slice A1 js.length c1')) from Below.setCell (Below.setCell HB7.out HGS.out.1 _) HGS.out.1 _); have HX8 := Aside0.mk (show ((w7.setCell ⟨gs, 0, none⟩ (.int .i64 B)).setCell ⟨gs, 1, none⟩ (.slice A1 js.length c1')).heap[gt]? = some (.cells #[.int .i64 B, .slice A js.length c] 55 (0, 0)) from blk_far (blk_far HX7.out (Nat.ne_of_lt HGS.out.2) _) (Nat.ne_of_lt HGS.out.2) _); have t0 : w7.cell? ⟨gs, 0, none⟩ = some (.int .i64 0) := (blk_cell HXS.out 0).trans rfl; have t1 : w7.cell? ⟨gs, 1, none⟩ = some (.slice none 0 0) := (blk_cell HXS.out 1).trans rfl; have s0 := blk_frozen HXS.out 0; have s1 := blk_frozen HXS.out 1; clear hgs hbox7 hb7)
              | (go_at_call 29; go_must (refine (HPQ.out A1 c1' _ HB8.out HC7.out).mono ?_); rintro e w9 ⟨rfl, hb9⟩; have HB9 := Aside0.mk (below_step HB8.out hb9); have HX9 := Aside0.mk ((hb9.block _ (blk_lt HX8.out)).trans HX8.out); clear hb9))
            go_roundg f
            case measure => exact Nat.lt_succ_self _
            case rel => exact ⟨lo + q, hi, by go_num, rfl, ⟨by have := HQ.out; have := HF.out; omega⟩, HLR, HX9, HB9⟩
          | false =>
            have HLR : Aside0 (latL B js f lo (lo + q - 1) = R) := ⟨by rw [← HLL.out, if_neg (by unfold okAt; rw [hl, hcw]; decide)]⟩
            rw [hcw] at HPQ
            clear hl hcw HLL
            go_wp2_with (first
              | (go_at_call 31; go_must (refine HY1.out.mono ?_); rintro e w6 ⟨A1, c1', rfl, hC6, hb6⟩; have HC6 := Aside0.mk hC6; have HB6 := Aside0.mk (below_step HBr.out hb6); have HX6 := Aside0.mk ((hb6.block _ (blk_lt HX.out)).trans HX.out); clear hC6 hb6)
              | ((with_reducible refine gate_dst (N := 11) rfl ?_); refine bxe 11 #[.int .i64 0, .slice none 0 0] 55 ?_; intro gs hgs w7 hbox7 hb7; have HXS := Aside0.mk hbox7; have HGS := Aside0.mk (show w.heap.size ≤ gs ∧ gt < gs by rw [hgs]; exact ⟨HB6.out.size, blk_lt HX6.out⟩); have HX7 := Aside0.mk ((hb7.block _ (blk_lt HX6.out)).trans HX6.out); have HB7 := Aside0.mk (below_step HB6.out hb7); have HC7 := Aside0.mk (show Kd.C k40 ((w7.setCell ⟨gs, 0, none⟩ (.int .i64 B)).setCell ⟨gs, 1, none⟩ (.slice A1 js.length c1')) A1 js.length (movL (lo + q) js) ∧ js.length ≤ c1' from ⟨Kd.C_below HC6.out.1 (Below.setCell (Below.setCell hb7 (Nat.le_of_eq hgs.symm) _) (Nat.le_of_eq hgs.symm) _), HC6.out.2⟩); have HB8 := Aside0.mk (show Below w.heap.size w ((w7.setCell ⟨gs, 0, none⟩ (.int .i64 B)).setCell ⟨gs, 1, none⟩ (.slice A1 js.length c1')) from Below.setCell (Below.setCell HB7.out HGS.out.1 _) HGS.out.1 _); have HX8 := Aside0.mk (show ((w7.setCell ⟨gs, 0, none⟩ (.int .i64 B)).setCell ⟨gs, 1, none⟩ (.slice A1 js.length c1')).heap[gt]? = some (.cells #[.int .i64 B, .slice A js.length c] 55 (0, 0)) from blk_far (blk_far HX7.out (Nat.ne_of_lt HGS.out.2) _) (Nat.ne_of_lt HGS.out.2) _); have t0 : w7.cell? ⟨gs, 0, none⟩ = some (.int .i64 0) := (blk_cell HXS.out 0).trans rfl; have t1 : w7.cell? ⟨gs, 1, none⟩ = some (.slice none 0 0) := (blk_cell HXS.out 1).trans rfl; have s0 := blk_frozen HXS.out 0; have s1 := blk_frozen HXS.out 1; clear hgs hbox7 hb7)
              | (go_at_call 29; go_must (refine (HPQ.out A1 c1' _ HB8.out HC7.out).mono ?_); rintro e w9 ⟨rfl, hb9⟩; have HB9 := Aside0.mk (below_step HB8.out hb9); have HX9 := Aside0.mk ((hb9.block _ (blk_lt HX8.out)).trans HX8.out); clear hb9))
            go_roundg f
            case measure => exact Nat.lt_succ_self _
            case rel => exact ⟨lo, lo + q - 1, rfl, by go_num, ⟨by have := HQ.out; have := HF.out; omega⟩, HLR, HX9, HB9⟩
    · have hR : R = lo := by
        rw [← HL.out]
        cases gk with
        | zero => rfl
        | succ f => rw [latL, if_neg hlt]
      have HRL := Aside0.mk hR
      clear hR
      go_wp2
      go_ret2
      exact ⟨by rw [HRL.out]; rfl, HBr.out⟩
set_option maxHeartbeats 8000000 in
set_option maxRecDepth 100000 in
theorem lat_no (B : Int) (A : Option Addr) (c : Nat) (js : List S40) (w : World) (hr : Kd.C k40 w A js.length js) (hm : js.length ≤ 1000000) (ht : ¬ TaskOk B js) :
    Calls Tryd.prog 18 #[.int .i64 B, .slice A js.length c] w fun e w' => e = .returned (.tuple #[.int .i64 0, .int .i64 2]) ∧ Below w.heap.size w w' := by
  have HB := Aside0.mk (Below.refl w.heap.size w)
  have HN := Aside0.mk (newt_no B A c js w hr hm ht)
  have hu55 := Tryd.underlying55
  clear hr hm ht
  go_enter Tryd.func18, Tryd.ntmps18
  go_wp2_with (first
    | (go_at_call 28; go_must (refine HN.out.mono ?_); rintro e w4 ⟨rfl, hb4⟩; have HB4 := Aside0.mk (below_step HB.out hb4); clear hb4)
    | ((with_reducible refine gate_dst (N := 6) rfl ?_); refine bxe 6 #[.int .i64 0, .slice none 0 0] 55 ?_; intro gt hgt w5 hbox5 hb5; have HXT := Aside0.mk hbox5; have HGT := Aside0.mk (show w.heap.size ≤ gt by rw [hgt]; exact HB4.out.size); have HB5 := Aside0.mk (below_step HB4.out hb5); have t0 : w5.cell? ⟨gt, 0, none⟩ = some (.int .i64 0) := (blk_cell HXT.out 0).trans rfl; have t1 : w5.cell? ⟨gt, 1, none⟩ = some (.slice none 0 0) := (blk_cell HXT.out 1).trans rfl; have s0 := blk_frozen HXT.out 0; have s1 := blk_frozen HXT.out 1; clear hgt hbox5 hb5))
  go_ret2
  exact ⟨rfl, Below.setCell (Below.setCell HB5.out HGT.out _) HGT.out _⟩
open Classical in
noncomputable def bench_Latest.f (a0 : Int) (l1 : List S40) : Option (Int × Int) := if TaskOk a0 l1 then some (latL a0 l1 21 (-1) 1048576, 0) else if l1.length ≤ 1000000 then some (0, 2) else none
theorem bench_Latest.calls (a0 : Int) (A1 : Option Addr) (c1 : Nat) (l1 : List S40) (r1 r2 : Int) (w : World) (hno : None_ w) (hr1 : Kd.C k40 w A1 l1.length l1) (hc1 : l1.length ≤ c1) (h : bench_Latest.f a0 l1 = some (r1, r2)) :
    Calls Tryd.prog 18 #[.int .i64 a0, .slice A1 l1.length c1] w fun e w' => e = .returned (.tuple #[.int .i64 r1, .int .i64 r2]) ∧ Below w.heap.size w w' := by
  unfold bench_Latest.f at h
  split at h
  case isTrue ht =>
    simp only [Option.some.injEq, Prod.mk.injEq] at h
    obtain ⟨rfl, rfl⟩ := h
    exact lat_ok a0 A1 c1 l1 w hno hr1 hc1 ht
  case isFalse ht =>
    split at h
    case isTrue hm =>
      simp only [Option.some.injEq, Prod.mk.injEq] at h
      obtain ⟨rfl, rfl⟩ := h
      exact lat_no a0 A1 c1 l1 w hr1 hm ht
    case isFalse hm => exact absurd h (by simp)
end Go.Proofs.YtmnhcbaocoofoaaDoor.P
namespace Go.Proofs.YtmnhcbaocoofoaaDoor.P
open Go.RowKit YtmnhcbaocoofoaaDoorW.PrintWords YtmnhcbaocoofoaaDoorW.PrintLast YtmnhcbaocoofoaaDoorW.PrintMore
attribute [local go_sem] max2_int min2_int max_two min_two max_three min_three max_four min_four

noncomputable def L4_awake.f  : Option (Bool) := (some (([(⟨0, 3, 2⟩ : S40), (⟨0, 3, 2⟩ : S40), (⟨0, 3, 2⟩ : S40)] : List (S40)) : List (S40))).bind fun y118 => ((bench_Plan.f 2 y118).bind fun bt121 => ((bench_Plan.f 1 y118).bind fun bt133 => ((bench_Fewest.f y118).bind fun bt145 => (if 2 ≤ (y118.length : Int) then ((bench_Latest.f 2 (y118.take 2)).bind fun bt151 => (if bt121.2.2.2.2 = 0 then (if bt121.1 = true then (if bt133.2.2.2.2 = 0 then (if bt133.1 = true then (some false) else (if bt145.2 = 0 then (if bt145.1 = 2 then (if bt151.2 = 0 then (if bt151.1 = 1 then (some true) else (some false)) else (some false)) else (some false)) else (some false))) else (some false)) else (some false)) else (some false))) else (none)))))
set_option maxHeartbeats 8000000 in
set_option maxRecDepth 100000 in
theorem L4_awake.calls  (r : Bool) (hr_ : Aside0 (r = true)) (w : World) (hno_ : None_ w) (h : L4_awake.f  = some r) :
  Calls Tryd.prog 16 #[] w fun e w' => e = .returned (.bool r) ∧ Below w.heap.size w w' := by
 have hu40 := Tryd.underlying40
 have hu46 := Tryd.underlying46
 have HNO := Aside0.mk hno_
 clear hno_
 have HB := Aside0.mk (Below.refl w.heap.size w)
 have H : ((some (([(⟨0, 3, 2⟩ : S40), (⟨0, 3, 2⟩ : S40), (⟨0, 3, 2⟩ : S40)] : List (S40)) : List (S40))).bind fun y118 => ((bench_Plan.f 2 y118).bind fun bt121 => ((bench_Plan.f 1 y118).bind fun bt133 => ((bench_Fewest.f y118).bind fun bt145 => (if 2 ≤ (y118.length : Int) then ((bench_Latest.f 2 (y118.take 2)).bind fun bt151 => (if bt121.2.2.2.2 = 0 then (if bt121.1 = true then (if bt133.2.2.2.2 = 0 then (if bt133.1 = true then (some false) else (if bt145.2 = 0 then (if bt145.1 = 2 then (if bt151.2 = 0 then (if bt151.1 = 1 then (some true) else (some false)) else (some false)) else (some false)) else (some false))) else (some false)) else (some false)) else (some false))) else (none)))))) = some r := h
 clear h
 obtain ⟨y118, hy118⟩ : ∃ y_ : List (S40), y_ = (([(⟨0, 3, 2⟩ : S40), (⟨0, 3, 2⟩ : S40), (⟨0, 3, 2⟩ : S40)] : List (S40))) := ⟨_, rfl⟩
 replace H : ((bench_Plan.f 2 y118).bind fun bt121 => ((bench_Plan.f 1 y118).bind fun bt133 => ((bench_Fewest.f y118).bind fun bt145 => (if 2 ≤ (y118.length : Int) then ((bench_Latest.f 2 (y118.take 2)).bind fun bt151 => (if bt121.2.2.2.2 = 0 then (if bt121.1 = true then (if bt133.2.2.2.2 = 0 then (if bt133.1 = true then (some false) else (if bt145.2 = 0 then (if bt145.1 = 2 then (if bt151.2 = 0 then (if bt151.1 = 1 then (some true) else (some false)) else (some false)) else (some false)) else (some false))) else (some false)) else (some false)) else (some false))) else (none))))) = some r := by first | (rw [hy118]; with_reducible exact H) | (have H2_ := (Option.bind_some _ _).symm.trans H; rw [hy118]; with_reducible exact H2_) | (have H2_ := (Option.bind_some _ _).symm.trans H; with_reducible exact H2_) | with_reducible exact H | (rw [hy118]; exact H) | exact H
 have Ny118 := Aside0.mk hy118
 clear hy118
 replace H := Option.bind_eq_some_iff.mp H
 obtain ⟨⟨t121, t122, t125, t128, t131⟩, A10, H⟩ := H
 replace H : ((bench_Plan.f 1 y118).bind fun bt133 => ((bench_Fewest.f y118).bind fun bt145 => (if 2 ≤ (y118.length : Int) then ((bench_Latest.f 2 (y118.take 2)).bind fun bt151 => (if t131 = 0 then (if t121 = true then (if bt133.2.2.2.2 = 0 then (if bt133.1 = true then (some false) else (if bt145.2 = 0 then (if bt145.1 = 2 then (if bt151.2 = 0 then (if bt151.1 = 1 then (some true) else (some false)) else (some false)) else (some false)) else (some false))) else (some false)) else (some false)) else (some false))) else (none)))) = some r := H
 have A1 := Aside0.mk A10
 clear A10
 replace H := Option.bind_eq_some_iff.mp H
 obtain ⟨⟨t133, t134, t137, t140, t143⟩, A20, H⟩ := H
 replace H : ((bench_Fewest.f y118).bind fun bt145 => (if 2 ≤ (y118.length : Int) then ((bench_Latest.f 2 (y118.take 2)).bind fun bt151 => (if t131 = 0 then (if t121 = true then (if t143 = 0 then (if t133 = true then (some false) else (if bt145.2 = 0 then (if bt145.1 = 2 then (if bt151.2 = 0 then (if bt151.1 = 1 then (some true) else (some false)) else (some false)) else (some false)) else (some false))) else (some false)) else (some false)) else (some false))) else (none))) = some r := H
 have A2 := Aside0.mk A20
 clear A20
 replace H := Option.bind_eq_some_iff.mp H
 obtain ⟨⟨t145, t146⟩, A30, H⟩ := H
 replace H : (if 2 ≤ (y118.length : Int) then ((bench_Latest.f 2 (y118.take 2)).bind fun bt151 => (if t131 = 0 then (if t121 = true then (if t143 = 0 then (if t133 = true then (some false) else (if t146 = 0 then (if t145 = 2 then (if bt151.2 = 0 then (if bt151.1 = 1 then (some true) else (some false)) else (some false)) else (some false)) else (some false))) else (some false)) else (some false)) else (some false))) else (none)) = some r := H
 have A3 := Aside0.mk A30
 clear A30
 by_cases c4 : 2 ≤ (y118.length : Int)
 rw [if_pos c4] at H
 have c4b0 := eq_true c4
 have c4b1 : decide (2 ≤ (y118.length : Int)) = true := decide_eq_true c4
 clear c4
 obtain ⟨y147, hy147⟩ : ∃ y_ : List (S40), y_ = (y118.take 2) := ⟨_, rfl⟩
 replace H : ((bench_Latest.f 2 y147).bind fun bt151 => (if t131 = 0 then (if t121 = true then (if t143 = 0 then (if t133 = true then (some false) else (if t146 = 0 then (if t145 = 2 then (if bt151.2 = 0 then (if bt151.1 = 1 then (some true) else (some false)) else (some false)) else (some false)) else (some false))) else (some false)) else (some false)) else (some false))) = some r := by first | (rw [hy147]; with_reducible exact H) | (have H2_ := (Option.bind_some _ _).symm.trans H; rw [hy147]; with_reducible exact H2_) | (have H2_ := (Option.bind_some _ _).symm.trans H; with_reducible exact H2_) | with_reducible exact H | (rw [hy147]; exact H) | exact H
 have Ny147 := Aside0.mk hy147
 clear hy147
 replace H := Option.bind_eq_some_iff.mp H
 obtain ⟨⟨t151, t152⟩, A50, H⟩ := H
 replace H : (if t131 = 0 then (if t121 = true then (if t143 = 0 then (if t133 = true then (some false) else (if t146 = 0 then (if t145 = 2 then (if t152 = 0 then (if t151 = 1 then (some true) else (some false)) else (some false)) else (some false)) else (some false))) else (some false)) else (some false)) else (some false)) = some r := H
 have A5 := Aside0.mk A50
 clear A50
 by_cases c6 : t131 = 0
 rw [if_pos c6] at H
 have c6b0 : (t131 == 0) = true := beq_iff_eq.mpr c6
 have c6b1 : (t131 != 0) = false := bne_eq_false_iff_eq.mpr c6
 clear c6
 by_cases c7 : t121 = true
 subst c7
 have H1 : (if t143 = 0 then (if t133 = true then (some false) else (if t146 = 0 then (if t145 = 2 then (if t152 = 0 then (if t151 = 1 then (some true) else (some false)) else (some false)) else (some false)) else (some false))) else (some false)) = some r := by rw [if_pos rfl] at H; exact H
 clear H
 have H := H1
 clear H1
 by_cases c8 : t143 = 0
 rw [if_pos c8] at H
 have c8b0 : (t143 == 0) = true := beq_iff_eq.mpr c8
 have c8b1 : (t143 != 0) = false := bne_eq_false_iff_eq.mpr c8
 clear c8
 by_cases c9 : t133 = true
 subst c9
 exact absurd ((Option.some.inj (show (some false : Option Bool) = some r from by rw [if_pos rfl] at H; exact H)).trans hr_.out) (by decide)
 replace c9 := Bool.eq_false_iff.mpr c9
 subst c9
 have H1 : (if t146 = 0 then (if t145 = 2 then (if t152 = 0 then (if t151 = 1 then (some true) else (some false)) else (some false)) else (some false)) else (some false)) = some r := by rw [if_neg (show ¬ (false = true) by decide)] at H; exact H
 clear H
 have H := H1
 clear H1
 by_cases c31 : t146 = 0
 rw [if_pos c31] at H
 have c31b0 : (t146 == 0) = true := beq_iff_eq.mpr c31
 have c31b1 : (t146 != 0) = false := bne_eq_false_iff_eq.mpr c31
 clear c31
 by_cases c32 : t145 = 2
 rw [if_pos c32] at H
 have c32b0 : (t145 == 2) = true := beq_iff_eq.mpr c32
 have c32b1 : (t145 != 2) = false := bne_eq_false_iff_eq.mpr c32
 clear c32
 by_cases c33 : t152 = 0
 rw [if_pos c33] at H
 have c33b0 : (t152 == 0) = true := beq_iff_eq.mpr c33
 have c33b1 : (t152 != 0) = false := bne_eq_false_iff_eq.mpr c33
 clear c33
 by_cases c34 : t151 = 1
 rw [if_pos c34] at H
 have c34b0 : (t151 == 1) = true := beq_iff_eq.mpr c34
 have c34b1 : (t151 != 1) = false := bne_eq_false_iff_eq.mpr c34
 clear c34
 obtain rfl := Option.some.inj H
 go_enter Tryd.func16, Tryd.ntmps16
 rotate_left 1
 rw [if_neg c34] at H
 have c34b0 : (t151 == 1) = false := beq_eq_false_iff_ne.mpr c34
 have c34b1 : (t151 != 1) = true := bne_iff_ne.mpr c34
 obtain rfl := Option.some.inj H
 go_enter Tryd.func16, Tryd.ntmps16
 rotate_left 1
 rw [if_neg c33] at H
 exact absurd ((Option.some.inj H).trans hr_.out) (by decide)
 rw [if_neg c32] at H
 exact absurd ((Option.some.inj H).trans hr_.out) (by decide)
 rw [if_neg c31] at H
 exact absurd ((Option.some.inj H).trans hr_.out) (by decide)
 rw [if_neg c8] at H
 exact absurd ((Option.some.inj H).trans hr_.out) (by decide)
 replace c7 := Bool.eq_false_iff.mpr c7
 subst c7
 exact absurd ((Option.some.inj (show (some false : Option Bool) = some r from by rw [if_neg (show ¬ (false = true) by decide)] at H; exact H)).trans hr_.out) (by decide)
 rw [if_neg c6] at H
 exact absurd ((Option.some.inj H).trans hr_.out) (by decide)
 rw [if_neg c4] at H
 exact absurd H (by simp)
 all_goals go_wp2_with (first | ((with_reducible refine gate_dst (N := 13) rfl ?_); refine Kd.R_lit k40 _ 40 ?hg (N := 13) ?hd (xs := ([(⟨0, 3, 2⟩ : S40), (⟨0, 3, 2⟩ : S40), (⟨0, 3, 2⟩ : S40)] : List (S40))) (inner := [.int .i64 0, .int .i64 3, .int .i64 2, .int .i64 0, .int .i64 3, .int .i64 2, .int .i64 0, .int .i64 3, .int .i64 2]) (ok := fun _ => True) (okp := fun _ => True) ?hr ?hp (fun _ hk => hk) trivial (Below.refl _ _) (Nat.le_refl _) (by simp) ?_; (case hd => rfl); (case hg => rfl); (case hr => first | (go_simp; done) | (go_simp; rfl)); (case hp => exact (Reps.c3 (show Kd.M k40 _ _ _ (⟨0, 3, 2⟩ : S40) [.int .i64 0, .int .i64 3, .int .i64 2] from (k40_mkM _ _ _ (⟨0, 3, 2⟩ : S40) )) (Reps.c3 (show Kd.M k40 _ _ _ (⟨0, 3, 2⟩ : S40) [.int .i64 0, .int .i64 3, .int .i64 2] from (k40_mkM _ _ _ (⟨0, 3, 2⟩ : S40) )) (Reps.c3 (show Kd.M k40 _ _ _ (⟨0, 3, 2⟩ : S40) [.int .i64 0, .int .i64 3, .int .i64 2] from (k40_mkM _ _ _ (⟨0, 3, 2⟩ : S40) )) (Reps.none _ _))))); intro v119 wz0 hoz1 hb hg_ hnew_; clear hg_ hnew_; (first | rw [← Ny118.out] at hoz1 | (simp only [Int.reduceToNat] at hoz1; rw [← Ny118.out] at hoz1)); have n0_ := Aside0.mk (Kd.R_lower hoz1 (below_size lB)); have n1_ := Aside0.mk (below_step lB hb); clear HB; have HO120 := n0_; have HB := n1_; clear n0_ n1_; clear hb hoz1; obtain ⟨Aoz2, coz3, eoz4⟩ := Kd.R_slice HO120.out; subst eoz4) | ((with_reducible refine gate_callee (f := 24) rfl ?_); refine goesL_ (some 16) rfl rfl Tryd.func24 (by kernel_rfl) rfl #[.int .i64 2, .slice Aoz2 y118.length coz3] rfl (by (try simp only [List.map_toArray, List.map_cons, List.map_nil]); first | done | rfl | (simp only [List.length_drop, List.length_take]; rfl)) ?_; (with_reducible refine (bench_Plan.calls 2 _ _ y118 true t122 t125 t128 t131 _ ?sidenone ?side1 ?side2 A1.out).mono ?_); (case sidenone => exact HNO.out.below lB); (case side1 => repeat (first | exact (Kd.R_reads' HO120.out).2.2 | (with_reducible refine Kd.C_alloc ?_ _) | (with_reducible refine Kd.C_drewN ?_ _) | (with_reducible refine Kd.C_drew ?_))); (case side2 => exact (Kd.R_reads' HO120.out).2.1); rintro e wz5 ⟨v123, v126, v129, rfl, hoz6, hoz7, hoz8, hb⟩; refine ⟨_, rfl, ?_⟩; have n0_ := Aside0.mk (Kd.R_below (by (with_reducible repeat (first | apply Kd.R_alloc | apply Kd.R_drewN | apply Kd.R_drew)); exact HO120.out) hb); have n1_ := Aside0.mk (Kd.R_lower hoz6 (below_size lB)); have n2_ := Aside0.mk (Kd.R_lower hoz7 (below_size lB)); have n3_ := Aside0.mk (Kd.R_lower hoz8 (below_size lB)); have n4_ := Aside0.mk (below_step lB hb); clear HO120; clear HB; have HO120 := n0_; have HO124 := n1_; have HO127 := n2_; have HO130 := n3_; have HB := n4_; clear n0_ n1_ n2_ n3_ n4_; (try clear hb); (try clear hb2); (try clear hk); (try clear hi); (try clear hoz6); (try clear hoz7); (try clear hoz8)) | ((with_reducible refine gate_dst (N := 2) rfl ?_); refine bxe 2 #[.bool false, .slice none 0 0, .slice none 0 0, .slice none 0 0] 46 ?_; intro gb132 hg wz9 hbox hb; have n0_ := Aside0.mk (Kd.R_below (by (with_reducible repeat (first | apply Kd.R_alloc | apply Kd.R_drewN | apply Kd.R_drew)); exact HO120.out) hb); have n1_ := Aside0.mk (Kd.R_below (by (with_reducible repeat (first | apply Kd.R_alloc | apply Kd.R_drewN | apply Kd.R_drew)); exact HO124.out) hb); have n2_ := Aside0.mk (Kd.R_below (by (with_reducible repeat (first | apply Kd.R_alloc | apply Kd.R_drewN | apply Kd.R_drew)); exact HO127.out) hb); have n3_ := Aside0.mk (Kd.R_below (by (with_reducible repeat (first | apply Kd.R_alloc | apply Kd.R_drewN | apply Kd.R_drew)); exact HO130.out) hb); have n4_ := Aside0.mk (below_step lB hb); have n5_ := Aside0.mk (hbox); have n6_ := Aside0.mk (lG (w := w) hg); have n7_ := Aside0.mk (lG (w := w) hg); clear HO120; clear HO124; clear HO127; clear HO130; clear HB; have HO120 := n0_; have HO124 := n1_; have HO127 := n2_; have HO130 := n3_; have HB := n4_; have BK132 := n5_; have GW132 := n6_; have GE132 := n7_; clear n0_ n1_ n2_ n3_ n4_ n5_ n6_ n7_; clear hb hbox hg; have hcz40_0 : wz9.cell? ⟨gb132, 0, none⟩ = some (.bool false) := (blk_cell BK132.out 0).trans rfl; have hcz40_1 : wz9.cell? ⟨gb132, 1, none⟩ = some (.slice none 0 0) := (blk_cell BK132.out 1).trans rfl; have hcz40_2 : wz9.cell? ⟨gb132, 2, none⟩ = some (.slice none 0 0) := (blk_cell BK132.out 2).trans rfl; have hcz40_3 : wz9.cell? ⟨gb132, 3, none⟩ = some (.slice none 0 0) := (blk_cell BK132.out 3).trans rfl; have hfz40_0 := blk_frozen BK132.out 0; have hfz40_1 := blk_frozen BK132.out 1; have hfz40_2 := blk_frozen BK132.out 2; have hfz40_3 := blk_frozen BK132.out 3; obtain ⟨Aoz10, coz11, eoz12⟩ := Kd.R_slice HO124.out; subst eoz12; obtain ⟨Aoz13, coz14, eoz15⟩ := Kd.R_slice HO127.out; subst eoz15; obtain ⟨Aoz16, coz17, eoz18⟩ := Kd.R_slice HO130.out; subst eoz18) | ((with_reducible refine gate_callee (f := 24) rfl ?_); refine goesL_ (some 21) rfl rfl Tryd.func24 (by kernel_rfl) rfl #[.int .i64 1, .slice Aoz2 y118.length coz3] rfl (by (try simp only [List.map_toArray, List.map_cons, List.map_nil]); first | done | rfl | (simp only [List.length_drop, List.length_take]; rfl)) ?_; (with_reducible refine (bench_Plan.calls 1 _ _ y118 false t134 t137 t140 t143 _ ?sidenone ?side1 ?side2 A2.out).mono ?_); (case sidenone => exact HNO.out.below lB); (case side1 => refine (Kd.R_reads' (e := 40) (base := w.heap.size) (ok := fun k_ => True) (n := y118.length) (c := coz3) ?_).2.2; exact (by (with_reducible repeat (first | apply Kd.R_alloc | apply Kd.R_drewN | apply Kd.R_drew)); exact (Kd.R_mono (Kd.R_far (p := ⟨gb132, 3, none⟩) (Kd.R_far (p := ⟨gb132, 2, none⟩) (Kd.R_far (p := ⟨gb132, 1, none⟩) (Kd.R_far (p := ⟨gb132, 0, none⟩) (Kd.R_types HO120.out BK132.out (by decide)) (fun _ hk => hk.2) (.bool true)) (fun _ hk => hk.2) (.slice Aoz10 t122.length coz11)) (fun _ hk => hk.2) (.slice Aoz13 t125.length coz14)) (fun _ hk => hk.2) (.slice Aoz16 t128.length coz17)) (fun _ h_ => h_.1)))); (case side2 => exact (Kd.R_reads' HO120.out).2.1); rintro e wz19 ⟨v135, v138, v141, rfl, hoz6, hoz7, hoz8, hb⟩; refine ⟨_, rfl, ?_⟩; have n0_ := Aside0.mk (Kd.R_below (by (with_reducible repeat (first | apply Kd.R_alloc | apply Kd.R_drewN | apply Kd.R_drew)); exact (Kd.R_mono (Kd.R_far (p := ⟨gb132, 3, none⟩) (Kd.R_far (p := ⟨gb132, 2, none⟩) (Kd.R_far (p := ⟨gb132, 1, none⟩) (Kd.R_far (p := ⟨gb132, 0, none⟩) (Kd.R_types HO120.out BK132.out (by decide)) (fun _ hk => hk.2) (.bool true)) (fun _ hk => hk.2) (.slice Aoz10 t122.length coz11)) (fun _ hk => hk.2) (.slice Aoz13 t125.length coz14)) (fun _ hk => hk.2) (.slice Aoz16 t128.length coz17)) (fun _ h_ => h_.1))) hb); have n1_ := Aside0.mk (Kd.R_elder' (by (with_reducible repeat (first | apply Kd.R_alloc | apply Kd.R_drewN | apply Kd.R_drew)); exact (Kd.R_mono (Kd.R_far (p := ⟨gb132, 3, none⟩) (Kd.R_far (p := ⟨gb132, 2, none⟩) (Kd.R_far (p := ⟨gb132, 1, none⟩) (Kd.R_far (p := ⟨gb132, 0, none⟩) (Kd.R_types HO124.out BK132.out (by decide)) (fun _ hk => hk.2) (.bool true)) (fun _ hk => hk.2) (.slice Aoz10 t122.length coz11)) (fun _ hk => hk.2) (.slice Aoz13 t125.length coz14)) (fun _ hk => hk.2) (.slice Aoz16 t128.length coz17)) (fun _ h_ => h_.1))) (Kd.R_base hoz6) hb); have n2_ := Aside0.mk (Kd.R_elder' (by (with_reducible repeat (first | apply Kd.R_alloc | apply Kd.R_drewN | apply Kd.R_drew)); exact (Kd.R_mono (Kd.R_far (p := ⟨gb132, 3, none⟩) (Kd.R_far (p := ⟨gb132, 2, none⟩) (Kd.R_far (p := ⟨gb132, 1, none⟩) (Kd.R_far (p := ⟨gb132, 0, none⟩) (Kd.R_types HO127.out BK132.out (by decide)) (fun _ hk => hk.2) (.bool true)) (fun _ hk => hk.2) (.slice Aoz10 t122.length coz11)) (fun _ hk => hk.2) (.slice Aoz13 t125.length coz14)) (fun _ hk => hk.2) (.slice Aoz16 t128.length coz17)) (fun _ h_ => h_.1))) (Kd.R_base hoz7) hb); have n3_ := Aside0.mk (Kd.R_elder' (by (with_reducible repeat (first | apply Kd.R_alloc | apply Kd.R_drewN | apply Kd.R_drew)); exact (Kd.R_mono (Kd.R_far (p := ⟨gb132, 3, none⟩) (Kd.R_far (p := ⟨gb132, 2, none⟩) (Kd.R_far (p := ⟨gb132, 1, none⟩) (Kd.R_far (p := ⟨gb132, 0, none⟩) (Kd.R_types HO130.out BK132.out (by decide)) (fun _ hk => hk.2) (.bool true)) (fun _ hk => hk.2) (.slice Aoz10 t122.length coz11)) (fun _ hk => hk.2) (.slice Aoz13 t125.length coz14)) (fun _ hk => hk.2) (.slice Aoz16 t128.length coz17)) (fun _ h_ => h_.1))) (Kd.R_base hoz8) hb); have n4_ := Aside0.mk (Kd.R_lower (Kd.R_new' hoz6 (Kd.R_lt (by (with_reducible repeat (first | apply Kd.R_alloc | apply Kd.R_drewN | apply Kd.R_drew)); exact (Kd.R_mono (Kd.R_far (p := ⟨gb132, 3, none⟩) (Kd.R_far (p := ⟨gb132, 2, none⟩) (Kd.R_far (p := ⟨gb132, 1, none⟩) (Kd.R_far (p := ⟨gb132, 0, none⟩) (Kd.R_types HO124.out BK132.out (by decide)) (fun _ hk => hk.2) (.bool true)) (fun _ hk => hk.2) (.slice Aoz10 t122.length coz11)) (fun _ hk => hk.2) (.slice Aoz13 t125.length coz14)) (fun _ hk => hk.2) (.slice Aoz16 t128.length coz17)) (fun _ h_ => h_.1))))) (below_size lB)); have n5_ := Aside0.mk (Kd.R_lower (Kd.R_new' hoz7 (Kd.R_lt (by (with_reducible repeat (first | apply Kd.R_alloc | apply Kd.R_drewN | apply Kd.R_drew)); exact (Kd.R_mono (Kd.R_far (p := ⟨gb132, 3, none⟩) (Kd.R_far (p := ⟨gb132, 2, none⟩) (Kd.R_far (p := ⟨gb132, 1, none⟩) (Kd.R_far (p := ⟨gb132, 0, none⟩) (Kd.R_types HO127.out BK132.out (by decide)) (fun _ hk => hk.2) (.bool true)) (fun _ hk => hk.2) (.slice Aoz10 t122.length coz11)) (fun _ hk => hk.2) (.slice Aoz13 t125.length coz14)) (fun _ hk => hk.2) (.slice Aoz16 t128.length coz17)) (fun _ h_ => h_.1))))) (below_size lB)); have n6_ := Aside0.mk (Kd.R_lower (Kd.R_new' hoz8 (Kd.R_lt (by (with_reducible repeat (first | apply Kd.R_alloc | apply Kd.R_drewN | apply Kd.R_drew)); exact (Kd.R_mono (Kd.R_far (p := ⟨gb132, 3, none⟩) (Kd.R_far (p := ⟨gb132, 2, none⟩) (Kd.R_far (p := ⟨gb132, 1, none⟩) (Kd.R_far (p := ⟨gb132, 0, none⟩) (Kd.R_types HO130.out BK132.out (by decide)) (fun _ hk => hk.2) (.bool true)) (fun _ hk => hk.2) (.slice Aoz10 t122.length coz11)) (fun _ hk => hk.2) (.slice Aoz13 t125.length coz14)) (fun _ hk => hk.2) (.slice Aoz16 t128.length coz17)) (fun _ h_ => h_.1))))) (below_size lB)); have n7_ := Aside0.mk (blk_below (g := gb132) (o := .cells #[.bool true, .slice Aoz10 t122.length coz11, .slice Aoz13 t125.length coz14, .slice Aoz16 t128.length coz17] 46 (0, 0)) (by (with_reducible repeat (first | refine kN ?_ _ | refine kD ?_ | refine kA ?_ _)); refine blk_put (cs := #[.bool true, .slice Aoz10 t122.length coz11, .slice Aoz13 t125.length coz14, .slice none 0 0]) ?_ 3 _ rfl; (with_reducible repeat (first | refine kN ?_ _ | refine kD ?_ | refine kA ?_ _)); refine blk_put (cs := #[.bool true, .slice Aoz10 t122.length coz11, .slice none 0 0, .slice none 0 0]) ?_ 2 _ rfl; (with_reducible repeat (first | refine kN ?_ _ | refine kD ?_ | refine kA ?_ _)); refine blk_put (cs := #[.bool true, .slice none 0 0, .slice none 0 0, .slice none 0 0]) ?_ 1 _ rfl; (with_reducible repeat (first | refine kN ?_ _ | refine kD ?_ | refine kA ?_ _)); refine blk_put (cs := #[.bool false, .slice none 0 0, .slice none 0 0, .slice none 0 0]) ?_ 0 _ rfl; (with_reducible repeat (first | refine kN ?_ _ | refine kD ?_ | refine kA ?_ _)); exact BK132.out) hb); have n8_ := Aside0.mk (below_step lB hb); clear HO120; clear HO124; clear HO127; clear HO130; clear BK132; clear HB; have HO120 := n0_; have HO124 := n1_; have HO127 := n2_; have HO130 := n3_; have HO136 := n4_; have HO139 := n5_; have HO142 := n6_; have BK132 := n7_; have HB := n8_; clear n0_ n1_ n2_ n3_ n4_ n5_ n6_ n7_ n8_; (try clear hb); (try clear hb2); (try clear hk); (try clear hi); (try clear hoz6); (try clear hoz7); (try clear hoz8)) | ((with_reducible refine gate_dst (N := 4) rfl ?_); refine bxe 4 #[.bool false, .slice none 0 0, .slice none 0 0, .slice none 0 0] 46 ?_; intro gb144 hg wz20 hbox hb; have n0_ := Aside0.mk (Kd.R_below (by (with_reducible repeat (first | apply Kd.R_alloc | apply Kd.R_drewN | apply Kd.R_drew)); exact HO120.out) hb); have n1_ := Aside0.mk (Kd.R_below (by (with_reducible repeat (first | apply Kd.R_alloc | apply Kd.R_drewN | apply Kd.R_drew)); exact HO124.out) hb); have n2_ := Aside0.mk (Kd.R_below (by (with_reducible repeat (first | apply Kd.R_alloc | apply Kd.R_drewN | apply Kd.R_drew)); exact HO127.out) hb); have n3_ := Aside0.mk (Kd.R_below (by (with_reducible repeat (first | apply Kd.R_alloc | apply Kd.R_drewN | apply Kd.R_drew)); exact HO130.out) hb); have n4_ := Aside0.mk (Kd.R_below (by (with_reducible repeat (first | apply Kd.R_alloc | apply Kd.R_drewN | apply Kd.R_drew)); exact HO136.out) hb); have n5_ := Aside0.mk (Kd.R_below (by (with_reducible repeat (first | apply Kd.R_alloc | apply Kd.R_drewN | apply Kd.R_drew)); exact HO139.out) hb); have n6_ := Aside0.mk (Kd.R_below (by (with_reducible repeat (first | apply Kd.R_alloc | apply Kd.R_drewN | apply Kd.R_drew)); exact HO142.out) hb); have n7_ := Aside0.mk (blk_below (g := gb132) (o := .cells #[.bool true, .slice Aoz10 t122.length coz11, .slice Aoz13 t125.length coz14, .slice Aoz16 t128.length coz17] 46 (0, 0)) (kX BK132.out) hb); have n8_ := Aside0.mk (below_step lB hb); have n9_ := Aside0.mk (hbox); have n10_ := Aside0.mk (lG (w := w) hg); have n11_ := Aside0.mk (lG (w := w) hg); have n12_ := Aside0.mk ((by rw [hg]; exact Nat.ne_of_lt (blk_lt (g := gb132) (o := .cells #[.bool true, .slice Aoz10 t122.length coz11, .slice Aoz13 t125.length coz14, .slice Aoz16 t128.length coz17] 46 (0, 0)) (kX BK132.out)) : gb132 ≠ gb144)); have n13_ := Aside0.mk ((by rw [hg]; exact Nat.ne_of_gt (blk_lt (g := gb132) (o := .cells #[.bool true, .slice Aoz10 t122.length coz11, .slice Aoz13 t125.length coz14, .slice Aoz16 t128.length coz17] 46 (0, 0)) (kX BK132.out)) : gb144 ≠ gb132)); clear HO120; clear HO124; clear HO127; clear HO130; clear HO136; clear HO139; clear HO142; clear BK132; clear HB; have HO120 := n0_; have HO124 := n1_; have HO127 := n2_; have HO130 := n3_; have HO136 := n4_; have HO139 := n5_; have HO142 := n6_; have BK132 := n7_; have HB := n8_; have BK144 := n9_; have GW144 := n10_; have GE144 := n11_; have NB132_144 := n12_; have NB144_132 := n13_; clear n0_ n1_ n2_ n3_ n4_ n5_ n6_ n7_ n8_ n9_ n10_ n11_ n12_ n13_; clear hb hbox hg; have hnb46 := NB144_132.out; have hnc46 := NB132_144.out; have hcz47_0 : wz20.cell? ⟨gb144, 0, none⟩ = some (.bool false) := (blk_cell BK144.out 0).trans rfl; have hcz47_1 : wz20.cell? ⟨gb144, 1, none⟩ = some (.slice none 0 0) := (blk_cell BK144.out 1).trans rfl; have hcz47_2 : wz20.cell? ⟨gb144, 2, none⟩ = some (.slice none 0 0) := (blk_cell BK144.out 2).trans rfl; have hcz47_3 : wz20.cell? ⟨gb144, 3, none⟩ = some (.slice none 0 0) := (blk_cell BK144.out 3).trans rfl; have hfz47_0 := blk_frozen BK144.out 0; have hfz47_1 := blk_frozen BK144.out 1; have hfz47_2 := blk_frozen BK144.out 2; have hfz47_3 := blk_frozen BK144.out 3; obtain ⟨Aoz21, coz22, eoz23⟩ := Kd.R_slice HO136.out; subst eoz23; obtain ⟨Aoz24, coz25, eoz26⟩ := Kd.R_slice HO139.out; subst eoz26; obtain ⟨Aoz27, coz28, eoz29⟩ := Kd.R_slice HO142.out; subst eoz29) | ((with_reducible refine gate_callee (f := 14) rfl ?_); refine goesL_ (some 26) rfl rfl Tryd.func14 (by kernel_rfl) rfl #[.slice Aoz2 y118.length coz3] rfl (by (try simp only [List.map_toArray, List.map_cons, List.map_nil]); first | done | rfl | (simp only [List.length_drop, List.length_take]; rfl)) ?_; (with_reducible refine (bench_Fewest.calls _ _ y118 t145 t146 _ ?sidenone ?side1 ?side2 A3.out).mono ?_); (case sidenone => exact HNO.out.below lB); (case side1 => refine (Kd.R_reads' (e := 40) (base := w.heap.size) (ok := fun k_ => True) (n := y118.length) (c := coz3) ?_).2.2; exact (by (with_reducible repeat (first | apply Kd.R_alloc | apply Kd.R_drewN | apply Kd.R_drew)); exact (Kd.R_mono (Kd.R_far (p := ⟨gb144, 3, none⟩) (Kd.R_far (p := ⟨gb144, 2, none⟩) (Kd.R_far (p := ⟨gb144, 1, none⟩) (Kd.R_far (p := ⟨gb144, 0, none⟩) (Kd.R_types HO120.out BK144.out (by decide)) (fun _ hk => hk.2) (.bool false)) (fun _ hk => hk.2) (.slice Aoz21 t134.length coz22)) (fun _ hk => hk.2) (.slice Aoz24 t137.length coz25)) (fun _ hk => hk.2) (.slice Aoz27 t140.length coz28)) (fun _ h_ => h_.1)))); (case side2 => exact (Kd.R_reads' HO120.out).2.1); rintro e wz30 ⟨rfl, hb⟩; refine ⟨_, rfl, ?_⟩; have n0_ := Aside0.mk (Kd.R_below (by (with_reducible repeat (first | apply Kd.R_alloc | apply Kd.R_drewN | apply Kd.R_drew)); exact (Kd.R_mono (Kd.R_far (p := ⟨gb144, 3, none⟩) (Kd.R_far (p := ⟨gb144, 2, none⟩) (Kd.R_far (p := ⟨gb144, 1, none⟩) (Kd.R_far (p := ⟨gb144, 0, none⟩) (Kd.R_types HO120.out BK144.out (by decide)) (fun _ hk => hk.2) (.bool false)) (fun _ hk => hk.2) (.slice Aoz21 t134.length coz22)) (fun _ hk => hk.2) (.slice Aoz24 t137.length coz25)) (fun _ hk => hk.2) (.slice Aoz27 t140.length coz28)) (fun _ h_ => h_.1))) hb); have n1_ := Aside0.mk (Kd.R_below (by (with_reducible repeat (first | apply Kd.R_alloc | apply Kd.R_drewN | apply Kd.R_drew)); exact (Kd.R_mono (Kd.R_far (p := ⟨gb144, 3, none⟩) (Kd.R_far (p := ⟨gb144, 2, none⟩) (Kd.R_far (p := ⟨gb144, 1, none⟩) (Kd.R_far (p := ⟨gb144, 0, none⟩) (Kd.R_types HO124.out BK144.out (by decide)) (fun _ hk => hk.2) (.bool false)) (fun _ hk => hk.2) (.slice Aoz21 t134.length coz22)) (fun _ hk => hk.2) (.slice Aoz24 t137.length coz25)) (fun _ hk => hk.2) (.slice Aoz27 t140.length coz28)) (fun _ h_ => h_.1))) hb); have n2_ := Aside0.mk (Kd.R_below (by (with_reducible repeat (first | apply Kd.R_alloc | apply Kd.R_drewN | apply Kd.R_drew)); exact (Kd.R_mono (Kd.R_far (p := ⟨gb144, 3, none⟩) (Kd.R_far (p := ⟨gb144, 2, none⟩) (Kd.R_far (p := ⟨gb144, 1, none⟩) (Kd.R_far (p := ⟨gb144, 0, none⟩) (Kd.R_types HO127.out BK144.out (by decide)) (fun _ hk => hk.2) (.bool false)) (fun _ hk => hk.2) (.slice Aoz21 t134.length coz22)) (fun _ hk => hk.2) (.slice Aoz24 t137.length coz25)) (fun _ hk => hk.2) (.slice Aoz27 t140.length coz28)) (fun _ h_ => h_.1))) hb); have n3_ := Aside0.mk (Kd.R_below (by (with_reducible repeat (first | apply Kd.R_alloc | apply Kd.R_drewN | apply Kd.R_drew)); exact (Kd.R_mono (Kd.R_far (p := ⟨gb144, 3, none⟩) (Kd.R_far (p := ⟨gb144, 2, none⟩) (Kd.R_far (p := ⟨gb144, 1, none⟩) (Kd.R_far (p := ⟨gb144, 0, none⟩) (Kd.R_types HO130.out BK144.out (by decide)) (fun _ hk => hk.2) (.bool false)) (fun _ hk => hk.2) (.slice Aoz21 t134.length coz22)) (fun _ hk => hk.2) (.slice Aoz24 t137.length coz25)) (fun _ hk => hk.2) (.slice Aoz27 t140.length coz28)) (fun _ h_ => h_.1))) hb); have n4_ := Aside0.mk (Kd.R_below (by (with_reducible repeat (first | apply Kd.R_alloc | apply Kd.R_drewN | apply Kd.R_drew)); exact (Kd.R_mono (Kd.R_far (p := ⟨gb144, 3, none⟩) (Kd.R_far (p := ⟨gb144, 2, none⟩) (Kd.R_far (p := ⟨gb144, 1, none⟩) (Kd.R_far (p := ⟨gb144, 0, none⟩) (Kd.R_types HO136.out BK144.out (by decide)) (fun _ hk => hk.2) (.bool false)) (fun _ hk => hk.2) (.slice Aoz21 t134.length coz22)) (fun _ hk => hk.2) (.slice Aoz24 t137.length coz25)) (fun _ hk => hk.2) (.slice Aoz27 t140.length coz28)) (fun _ h_ => h_.1))) hb); have n5_ := Aside0.mk (Kd.R_below (by (with_reducible repeat (first | apply Kd.R_alloc | apply Kd.R_drewN | apply Kd.R_drew)); exact (Kd.R_mono (Kd.R_far (p := ⟨gb144, 3, none⟩) (Kd.R_far (p := ⟨gb144, 2, none⟩) (Kd.R_far (p := ⟨gb144, 1, none⟩) (Kd.R_far (p := ⟨gb144, 0, none⟩) (Kd.R_types HO139.out BK144.out (by decide)) (fun _ hk => hk.2) (.bool false)) (fun _ hk => hk.2) (.slice Aoz21 t134.length coz22)) (fun _ hk => hk.2) (.slice Aoz24 t137.length coz25)) (fun _ hk => hk.2) (.slice Aoz27 t140.length coz28)) (fun _ h_ => h_.1))) hb); have n6_ := Aside0.mk (Kd.R_below (by (with_reducible repeat (first | apply Kd.R_alloc | apply Kd.R_drewN | apply Kd.R_drew)); exact (Kd.R_mono (Kd.R_far (p := ⟨gb144, 3, none⟩) (Kd.R_far (p := ⟨gb144, 2, none⟩) (Kd.R_far (p := ⟨gb144, 1, none⟩) (Kd.R_far (p := ⟨gb144, 0, none⟩) (Kd.R_types HO142.out BK144.out (by decide)) (fun _ hk => hk.2) (.bool false)) (fun _ hk => hk.2) (.slice Aoz21 t134.length coz22)) (fun _ hk => hk.2) (.slice Aoz24 t137.length coz25)) (fun _ hk => hk.2) (.slice Aoz27 t140.length coz28)) (fun _ h_ => h_.1))) hb); have n7_ := Aside0.mk (blk_below (g := gb132) (o := .cells #[.bool true, .slice Aoz10 t122.length coz11, .slice Aoz13 t125.length coz14, .slice Aoz16 t128.length coz17] 46 (0, 0)) (by (with_reducible repeat (first | refine kN ?_ _ | refine kD ?_ | refine kA ?_ _)); refine blk_far ?_ NB132_144.out _; (with_reducible repeat (first | refine kN ?_ _ | refine kD ?_ | refine kA ?_ _)); refine blk_far ?_ NB132_144.out _; (with_reducible repeat (first | refine kN ?_ _ | refine kD ?_ | refine kA ?_ _)); refine blk_far ?_ NB132_144.out _; (with_reducible repeat (first | refine kN ?_ _ | refine kD ?_ | refine kA ?_ _)); refine blk_far ?_ NB132_144.out _; (with_reducible repeat (first | refine kN ?_ _ | refine kD ?_ | refine kA ?_ _)); exact BK132.out) hb); have n8_ := Aside0.mk (blk_below (g := gb144) (o := .cells #[.bool false, .slice Aoz21 t134.length coz22, .slice Aoz24 t137.length coz25, .slice Aoz27 t140.length coz28] 46 (0, 0)) (by (with_reducible repeat (first | refine kN ?_ _ | refine kD ?_ | refine kA ?_ _)); refine blk_put (cs := #[.bool false, .slice Aoz21 t134.length coz22, .slice Aoz24 t137.length coz25, .slice none 0 0]) ?_ 3 _ rfl; (with_reducible repeat (first | refine kN ?_ _ | refine kD ?_ | refine kA ?_ _)); refine blk_put (cs := #[.bool false, .slice Aoz21 t134.length coz22, .slice none 0 0, .slice none 0 0]) ?_ 2 _ rfl; (with_reducible repeat (first | refine kN ?_ _ | refine kD ?_ | refine kA ?_ _)); refine blk_put (cs := #[.bool false, .slice none 0 0, .slice none 0 0, .slice none 0 0]) ?_ 1 _ rfl; (with_reducible repeat (first | refine kN ?_ _ | refine kD ?_ | refine kA ?_ _)); refine blk_put (cs := #[.bool false, .slice none 0 0, .slice none 0 0, .slice none 0 0]) ?_ 0 _ rfl; (with_reducible repeat (first | refine kN ?_ _ | refine kD ?_ | refine kA ?_ _)); exact BK144.out) hb); have n9_ := Aside0.mk (below_step lB hb); clear HO120; clear HO124; clear HO127; clear HO130; clear HO136; clear HO139; clear HO142; clear BK132; clear BK144; clear HB; have HO120 := n0_; have HO124 := n1_; have HO127 := n2_; have HO130 := n3_; have HO136 := n4_; have HO139 := n5_; have HO142 := n6_; have BK132 := n7_; have BK144 := n8_; have HB := n9_; clear n0_ n1_ n2_ n3_ n4_ n5_ n6_ n7_ n8_ n9_; (try clear hb); (try clear hb2); (try clear hk); (try clear hi); have q52 : (2 : Int) ≤ ((y118.length : Int) : Int) := of_decide_eq_true (by first | (with_reducible assumption) | assumption); obtain ⟨i052, hi052, _, hsz52, _⟩ := info_parts info40; have hroom52 : y118.length ≤ coz3 := (Kd.R_reads' HO120.out).2.1; have hC52 : Kd.C k40 _ Aoz2 y118.length y118 := (Kd.R_reads' HO120.out).2.2; have hcut52 := cut_to (P := Tryd.prog) 22 40 .i64 Tryd.underlying22 hi052 Aoz2 y118.length coz3 2 (by omega) q52 hroom52; have hr52 := Kd.C_take (m := 2) hC52 (by omega); have hy52 : y147.length = (2 : Int).toNat := (by rw [Ny147.out, List.length_take]; omega); rw [← Ny147.out] at hr52; rw [← hy52] at hcut52; have HR150 := Aside0.mk hr52; have HC150 := Aside0.mk (show y147.length ≤ coz3 from by omega); clear hr52 hC52 hroom52 hi052 hsz52; have KY52 := Aside0.mk hy52; clear hy52; have KL52 := Aside0.mk (show 2 ≤ y118.length from by omega); replace q52 := eq_true q52) | ((with_reducible refine gate_callee (f := 18) rfl ?_); refine goesL_ (some 32) rfl rfl Tryd.func18 (by kernel_rfl) rfl #[.int .i64 2, .slice Aoz2 y147.length coz3] rfl (by (try simp only [List.map_toArray, List.map_cons, List.map_nil]); first | done | rfl | (simp only [List.length_drop, List.length_take]; rfl)) ?_; (with_reducible refine (bench_Latest.calls 2 _ _ y147 t151 t152 _ ?sidenone ?side1 ?side2 A5.out).mono ?_); (case sidenone => exact HNO.out.below lB); (case side1 => repeat (first | exact (by repeat (first | (with_reducible exact HR150.out) | (with_reducible refine Kd.C_alloc ?_ _) | (with_reducible refine Kd.C_drewN ?_ _) | (with_reducible refine Kd.C_drew ?_) | exact HR150.out)) | (with_reducible refine Kd.C_alloc ?_ _) | (with_reducible refine Kd.C_drewN ?_ _) | (with_reducible refine Kd.C_drew ?_))); (case side2 => exact HC150.out); rintro e wz31 ⟨rfl, hb⟩; refine ⟨_, rfl, ?_⟩; have n0_ := Aside0.mk (Kd.R_below (by (with_reducible repeat (first | apply Kd.R_alloc | apply Kd.R_drewN | apply Kd.R_drew)); exact HO120.out) hb); have n1_ := Aside0.mk (Kd.R_below (by (with_reducible repeat (first | apply Kd.R_alloc | apply Kd.R_drewN | apply Kd.R_drew)); exact HO124.out) hb); have n2_ := Aside0.mk (Kd.R_below (by (with_reducible repeat (first | apply Kd.R_alloc | apply Kd.R_drewN | apply Kd.R_drew)); exact HO127.out) hb); have n3_ := Aside0.mk (Kd.R_below (by (with_reducible repeat (first | apply Kd.R_alloc | apply Kd.R_drewN | apply Kd.R_drew)); exact HO130.out) hb); have n4_ := Aside0.mk (Kd.R_below (by (with_reducible repeat (first | apply Kd.R_alloc | apply Kd.R_drewN | apply Kd.R_drew)); exact HO136.out) hb); have n5_ := Aside0.mk (Kd.R_below (by (with_reducible repeat (first | apply Kd.R_alloc | apply Kd.R_drewN | apply Kd.R_drew)); exact HO139.out) hb); have n6_ := Aside0.mk (Kd.R_below (by (with_reducible repeat (first | apply Kd.R_alloc | apply Kd.R_drewN | apply Kd.R_drew)); exact HO142.out) hb); have n7_ := Aside0.mk (blk_below (g := gb132) (o := .cells #[.bool true, .slice Aoz10 t122.length coz11, .slice Aoz13 t125.length coz14, .slice Aoz16 t128.length coz17] 46 (0, 0)) (kX BK132.out) hb); have n8_ := Aside0.mk (blk_below (g := gb144) (o := .cells #[.bool false, .slice Aoz21 t134.length coz22, .slice Aoz24 t137.length coz25, .slice Aoz27 t140.length coz28] 46 (0, 0)) (kX BK144.out) hb); have n9_ := Aside0.mk (Kd.C_below (by repeat (first | (with_reducible exact HR150.out) | (with_reducible refine Kd.C_alloc ?_ _) | (with_reducible refine Kd.C_drewN ?_ _) | (with_reducible refine Kd.C_drew ?_) | exact HR150.out)) hb); have n10_ := Aside0.mk (below_step lB hb); clear HO120; clear HO124; clear HO127; clear HO130; clear HO136; clear HO139; clear HO142; clear BK132; clear BK144; clear HR150; clear HB; have HO120 := n0_; have HO124 := n1_; have HO127 := n2_; have HO130 := n3_; have HO136 := n4_; have HO139 := n5_; have HO142 := n6_; have BK132 := n7_; have BK144 := n8_; have HR150 := n9_; have HB := n10_; clear n0_ n1_ n2_ n3_ n4_ n5_ n6_ n7_ n8_ n9_ n10_; (try clear hb); (try clear hb2); (try clear hk); (try clear hi); have hcz54_0 : wz31.cell? ⟨gb132, 0, none⟩ = some (.bool true) := (blk_cell BK132.out 0).trans rfl; have hcz54_1 : wz31.cell? ⟨gb132, 1, none⟩ = some (.slice Aoz10 t122.length coz11) := (blk_cell BK132.out 1).trans rfl; have hcz54_2 : wz31.cell? ⟨gb132, 2, none⟩ = some (.slice Aoz13 t125.length coz14) := (blk_cell BK132.out 2).trans rfl; have hcz54_3 : wz31.cell? ⟨gb132, 3, none⟩ = some (.slice Aoz16 t128.length coz17) := (blk_cell BK132.out 3).trans rfl; have hfz54_0 := blk_frozen BK132.out 0; have hfz54_1 := blk_frozen BK132.out 1; have hfz54_2 := blk_frozen BK132.out 2; have hfz54_3 := blk_frozen BK132.out 3; have hcz55_0 : wz31.cell? ⟨gb144, 0, none⟩ = some (.bool false) := (blk_cell BK144.out 0).trans rfl; have hcz55_1 : wz31.cell? ⟨gb144, 1, none⟩ = some (.slice Aoz21 t134.length coz22) := (blk_cell BK144.out 1).trans rfl; have hcz55_2 : wz31.cell? ⟨gb144, 2, none⟩ = some (.slice Aoz24 t137.length coz25) := (blk_cell BK144.out 2).trans rfl; have hcz55_3 : wz31.cell? ⟨gb144, 3, none⟩ = some (.slice Aoz27 t140.length coz28) := (blk_cell BK144.out 3).trans rfl; have hfz55_0 := blk_frozen BK144.out 0; have hfz55_1 := blk_frozen BK144.out 1; have hfz55_2 := blk_frozen BK144.out 2; have hfz55_3 := blk_frozen BK144.out 3))
 all_goals first
   | (go_ret
      exact en)

end Go.Proofs.YtmnhcbaocoofoaaDoor.P
namespace Go.Proofs.YtmnhcbaocoofoaaDoor.P
open Go.RowKit YtmnhcbaocoofoaaDoorW.PrintWords
theorem mod_is (a : Int) (n : Int) (h0 : 1 ≤ n) (hn : n ≤ 1000000) : ∃ r : Int, (0 ≤ r ∧ r < n) ∧ L4_mod.f a n = some r := by
  unfold L4_mod.f
  have e1 : IntKind.u64.wrap n = n := IntWalk.u64_in n (by omega)
  rw [e1, if_neg (by omega)]
  have h1 : 0 ≤ IntKind.u64.wrap a := by
    unfold IntKind.wrap
    simp [IntKind.bits, IntKind.signed]
    omega
  generalize IntKind.u64.wrap a = x at *
  rw [Int.tmod_eq_emod_of_nonneg h1]
  have h2 := Int.emod_nonneg x (show n ≠ 0 by omega)
  have h3 := Int.emod_lt_of_pos x (show 0 < n by omega)
  refine ⟨x % n, ⟨h2, h3⟩, ?_⟩
  rw [w64i (by omega) (by omega)]
theorem job_is (a b c : Int) : R4_Job.f a b c = some (decide (0 ≤ a ∧ a < b ∧ b ≤ 1048576 ∧ 1 ≤ c ∧ c ≤ 1048576)) := by
  unfold R4_Job.f
  by_cases h1 : a ≥ 0
  · rw [if_pos h1]
    by_cases h2 : a < b
    · rw [if_pos h2]
      by_cases h3 : b ≤ 1048576
      · rw [if_pos h3]
        by_cases h4 : c ≥ 1
        · rw [if_pos h4]; congr 1; rw [decide_eq_decide]; omega
        · rw [if_neg h4, decide_eq_false (by omega)]
      · rw [if_neg h3, decide_eq_false (by omega)]
    · rw [if_neg h2, decide_eq_false (by omega)]
  · rw [if_neg h1, decide_eq_false (by omega)]
theorem gJ_append (xs ys : List S40) (k : Nat) : gJ (xs ++ ys) k = if k < xs.length then gJ xs k else gJ ys (k - xs.length) := by
  unfold gJ
  simp only [List.getD_eq_getElem?_getD, List.getElem?_append]
  split <;> rfl
def JobsA (js : List S40) : Prop := ∀ k, k < js.length → 0 ≤ (gJ js k).ready ∧ (gJ js k).ready < (gJ js k).due ∧ (gJ js k).due ≤ 1048576 ∧ 1 ≤ (gJ js k).work ∧ (gJ js k).work ≤ 1048576
theorem JobsA.snoc {js : List S40} (h : JobsA js) {j : S40} (hj : 0 ≤ j.f0 ∧ j.f0 < j.f1 ∧ j.f1 ≤ 1048576 ∧ 1 ≤ j.f2 ∧ j.f2 ≤ 1048576) : JobsA (js ++ [j]) := by
  intro k hk
  rw [gJ_append]
  by_cases e : k < js.length
  · rw [if_pos e]; exact h k e
  · rw [if_neg e]
    have : k = js.length := by simp at hk; omega
    subst this
    rw [Nat.sub_self]
    exact hj
theorem task_of {B : Int} {js : List S40} (hB : 1 ≤ B ∧ B ≤ 8) (hm : js.length ≤ 32) (h : JobsA js) : TaskOk B js := ⟨hB, hm, h⟩
theorem tame_from (a : Int) (l : List S40) (most : Nat) (hm : most ≤ 32) (hl : l.length ≤ 9223372036854775807) : ∀ n i (out : List S40), i + n = min l.length most → out.length = i → JobsA out →
    ∃ B own, (1 ≤ B ∧ B ≤ 8) ∧ own.length ≤ most ∧ JobsA own ∧ Ev (fun k => L4_tame.l0 k a l (most : Int) out (i : Int)) (B, own)
  | 0, i, out, hi, ho, hj => by
    have h0 : ∀ k, L4_tame.l0 (k + 2) a l (most : Int) out (i : Int) = if a < 1 then ((L4_mod.f a 8).bind fun t188 => (some (wrap64 (1 + t188), out))) else (if a > 8 then ((L4_mod.f a 8).bind fun t189 => (some (wrap64 (1 + t189), out))) else (some (a, out))) := by
      intro k
      rw [L4_tame.l0]
      by_cases c : (i : Int) < (l.length : Int)
      · rw [if_pos c, decide_eq_false (by omega), L4_tame.j1, if_neg (by decide)]
      · rw [if_neg c, L4_tame.j1, if_neg (by decide)]
    obtain ⟨r, hr, he⟩ := mod_is a 8 (by omega) (by omega)
    rw [he] at h0
    simp only [Option.bind_some] at h0
    by_cases c1 : a < 1
    · exact ⟨wrap64 (1 + r), out, by rw [w64i (by omega) (by omega)]; omega, by omega, hj, 2, fun k hk => by
        obtain ⟨q, rfl⟩ : ∃ q, k = q + 2 := ⟨k - 2, by omega⟩
        show L4_tame.l0 _ _ _ _ _ _ = _
        rw [h0, if_pos c1]⟩
    · by_cases c2 : a > 8
      · exact ⟨wrap64 (1 + r), out, by rw [w64i (by omega) (by omega)]; omega, by omega, hj, 2, fun k hk => by
          obtain ⟨q, rfl⟩ : ∃ q, k = q + 2 := ⟨k - 2, by omega⟩
          show L4_tame.l0 _ _ _ _ _ _ = _
          rw [h0, if_neg c1, if_pos c2]⟩
      · exact ⟨a, out, by omega, by omega, hj, 2, fun k hk => by
          obtain ⟨q, rfl⟩ : ∃ q, k = q + 2 := ⟨k - 2, by omega⟩
          show L4_tame.l0 _ _ _ _ _ _ = _
          rw [h0, if_neg c1, if_neg c2]⟩
  | n + 1, i, out, hi, ho, hj => by
    have hil : i < l.length := by omega
    have him : i < most := by omega
    obtain ⟨r0, hr0, e0⟩ := mod_is (rd_T40 l (i : Int)).f0 12 (by omega) (by omega)
    obtain ⟨r1, hr1, e1⟩ := mod_is (rd_T40 l (i : Int)).f1 9 (by omega) (by omega)
    obtain ⟨r2, hr2, e2⟩ := mod_is (rd_T40 l (i : Int)).f2 6 (by omega) (by omega)
    have h0 : ∀ k, L4_tame.l0 (k + 2) a l (most : Int) out (i : Int) = if (0 ≤ (rd_T40 l (i : Int)).f0 ∧ (rd_T40 l (i : Int)).f0 < (rd_T40 l (i : Int)).f1 ∧ (rd_T40 l (i : Int)).f1 ≤ 1048576 ∧ 1 ≤ (rd_T40 l (i : Int)).f2 ∧ (rd_T40 l (i : Int)).f2 ≤ 1048576) then L4_tame.l0 k a l (most : Int) (out ++ [(⟨(rd_T40 l (i : Int)).f0, (rd_T40 l (i : Int)).f1, (rd_T40 l (i : Int)).f2⟩ : S40)]) ((i + 1 : Nat) : Int) else L4_tame.l0 k a l (most : Int) (out ++ [(⟨r0, wrap64 ((wrap64 (r0 + 1)) + r1), wrap64 (1 + r2)⟩ : S40)]) ((i + 1 : Nat) : Int) := by
      intro k
      rw [L4_tame.l0, if_pos (by omega), decide_eq_true (by omega), L4_tame.j1, if_pos rfl, if_pos (by omega), if_pos (by omega), job_is, Option.bind_some, e0, e1, e2, w1 i (by omega)]
      simp only [Option.bind_some, decide_eq_true_eq]
      rw [if_pos (show out.length < 5864062014805 by omega), if_pos (show out.length < 5864062014805 by omega)]
    by_cases c : (0 ≤ (rd_T40 l (i : Int)).f0 ∧ (rd_T40 l (i : Int)).f0 < (rd_T40 l (i : Int)).f1 ∧ (rd_T40 l (i : Int)).f1 ≤ 1048576 ∧ 1 ≤ (rd_T40 l (i : Int)).f2 ∧ (rd_T40 l (i : Int)).f2 ≤ 1048576)
    · obtain ⟨B, own, h1, h2, h3, K, h4⟩ := tame_from a l most hm hl n (i + 1) (out ++ [(⟨(rd_T40 l (i : Int)).f0, (rd_T40 l (i : Int)).f1, (rd_T40 l (i : Int)).f2⟩ : S40)]) (by omega) (by simp; omega) (hj.snoc c)
      exact ⟨B, own, h1, h2, h3, K + 2, fun k hk => by
        obtain ⟨q, rfl⟩ : ∃ q, k = q + 2 := ⟨k - 2, by omega⟩
        show L4_tame.l0 _ _ _ _ _ _ = _
        rw [h0, if_pos c]; exact h4 q (by omega)⟩
    · obtain ⟨B, own, h1, h2, h3, K, h4⟩ := tame_from a l most hm hl n (i + 1) (out ++ [(⟨r0, wrap64 ((wrap64 (r0 + 1)) + r1), wrap64 (1 + r2)⟩ : S40)]) (by omega) (by simp; omega) (hj.snoc (by
        simp only
        rw [w64i (x := r0 + 1) (by omega) (by omega), w64i (x := r0 + 1 + r1) (by omega) (by omega), w64i (x := 1 + r2) (by omega) (by omega)]
        omega))
      exact ⟨B, own, h1, h2, h3, K + 2, fun k hk => by
        obtain ⟨q, rfl⟩ : ∃ q, k = q + 2 := ⟨k - 2, by omega⟩
        show L4_tame.l0 _ _ _ _ _ _ = _
        rw [h0, if_neg c]; exact h4 q (by omega)⟩
theorem tame_ev (a : Int) (l : List S40) (most : Nat) (hm : most ≤ 32) (hl : l.length ≤ 9223372036854775807) : ∃ B own, TaskOk B own ∧ own.length ≤ most ∧ Ev (fun k => L4_tame.f k a l (most : Int)) (B, own) := by
  obtain ⟨B, own, h1, h2, h3, h4⟩ := tame_from a l most hm hl (min l.length most) 0 [] (by omega) rfl (fun k hk => absurd hk (Nat.not_lt_zero k))
  exact ⟨B, own, task_of h1 (by omega) h3, h2, h4⟩
theorem plan_is {B : Int} {js : List S40} (h : TaskOk B js) : bench_Plan.f B js = some ((planA B js).1, (planA B js).2.1, (planA B js).2.2.1, (planA B js).2.2.2, 0) := by unfold bench_Plan.f; rw [if_pos h]
theorem few_is {js : List S40} (h : TaskOk 1 js) : bench_Fewest.f js = some (fewL js 8 1, 0) := by unfold bench_Fewest.f; rw [if_pos h]
theorem lat_is {B : Int} {js : List S40} (h : TaskOk B js) : bench_Latest.f B js = some (latL B js 21 (-1) 1048576, 0) := by unfold bench_Latest.f; rw [if_pos h]
theorem planA_len {B : Int} {js : List S40} (h : TaskOk B js) : (planA B js).2.2.1.length ≤ 32 ∧ (planA B js).2.2.2.length ≤ 63 := by
  have h1 := chosen_len (Ben.nearJ (tk B js)) js.length
  have h2 := chosen_len (Ben.nearP (tk B js)) (tk B js).K
  have := h.m
  have := h.K
  unfold planA
  split
  · simp
  · simp only [ofN_len, nsp, List.length_map]; omega
theorem planA_1 (B : Int) (js : List S40) : (planA B js).1 = Ben.canW B js.length (gJ js) := by
  unfold planA
  cases h : Ben.canW B js.length (gJ js) <;> simp
theorem right_is {B : Int} {js : List S40} (h : TaskOk B js) {p : Bool} {ss : List S50} {jobs : List Int} {sp : List S34} (hl : jobs.length ≤ 100000) : R4_Right.f B js p ss jobs sp = some (rightB B js p ss jobs sp) := by unfold R4_Right.f; rw [if_pos ⟨h, hl⟩]
def canI (B : Int) (js : List S40) : Int := if Ben.canW B js.length (gJ js) = true then 1 else 0
theorem can_ev {B : Int} {js : List S40} (h : TaskOk B js) : Ev (fun k => L4_can.f k B js) (canI B js) := by
  unfold L4_can.f
  have hl := planA_len h
  rw [plan_is h]
  simp only [Option.bind_some, if_true]
  rw [right_is h (by omega), right_plan h]
  simp only [Option.bind_some, Bool.not_true]
  refine Ev.step (f := fun _ => some (canI B js)) (fun k => ?_) (Ev.now _)
  rw [L4_can.j0, if_neg (by decide), planA_1]
  unfold canI
  cases Ben.canW B js.length (gJ js) <;> rfl
def jA : List S40 := [(⟨0, 3, 2⟩ : S40), (⟨0, 3, 2⟩ : S40), (⟨0, 3, 2⟩ : S40)]
theorem can2 : Ben.canW 2 3 (gJ jA) = true := by kernel_rfl
theorem can1 : Ben.canW 1 3 (gJ jA) = false := by kernel_rfl
theorem lat1 : latL 2 (jA.take 2) 21 (-1) 1048576 = 1 := by kernel_rfl
theorem few2 : fewL jA 8 1 = 2 := by
  have h1 : Ben.canW 1 jA.length (gJ jA) = false := can1
  have h2 : Ben.canW (1 + 1) jA.length (gJ jA) = true := can2
  rw [fewL, if_neg (by rw [h1]; decide), fewL, if_pos h2]; rfl
theorem jobsA (m : Nat) (hm : m ≤ 3) : JobsA (jA.take m) := by
  intro k hk
  have hk3 : k < 3 ∧ k < m := by simp [jA] at hk; omega
  have e : gJ (jA.take m) k = ⟨0, 3, 2⟩ := by
    obtain ⟨h3, h4⟩ := hk3
    unfold gJ
    rw [List.getD_eq_getElem?_getD, List.getElem?_take, if_pos h4]
    match k, h3 with
    | 0, _ => rfl
    | 1, _ => rfl
    | 2, _ => rfl
  rw [e]
  decide
theorem taskA (B : Int) (hB : 1 ≤ B ∧ B ≤ 8) : TaskOk B jA := task_of hB (by decide) (jobsA 3 (Nat.le_refl _))
theorem taskA2 (B : Int) (hB : 1 ≤ B ∧ B ≤ 8) : TaskOk B (jA.take 2) := task_of hB (by decide) (jobsA 2 (by decide))
theorem awake_is : L4_awake.f = some true := by
  unfold L4_awake.f
  have hj : [(⟨0, 3, 2⟩ : S40), (⟨0, 3, 2⟩ : S40), (⟨0, 3, 2⟩ : S40)] = jA := rfl
  have e2 : (planA 2 jA).1 = true := (planA_1 2 jA).trans can2
  have e1 : (planA 1 jA).1 = false := (planA_1 1 jA).trans can1
  rw [hj, Option.bind_some, plan_is (taskA 2 (by decide)), Option.bind_some, plan_is (taskA 1 (by decide)), Option.bind_some, few_is (taskA 1 (by decide)), Option.bind_some, if_pos (by decide), lat_is (taskA2 2 (by decide)), Option.bind_some]
  simp only [e1, e2, few2, lat1]
  decide
theorem awake_bind : (L4_awake.f).bind (fun t => some t) = some true := by rw [awake_is]; rfl
end Go.Proofs.YtmnhcbaocoofoaaDoor.P
namespace Go.Proofs.YtmnhcbaocoofoaaDoor.P
open Go.ChangeShapes Go.WideShapes Go.ChangeAt Go.RowKit Go.Deep Go.Joins YtmnhcbaocoofoaaDoorW.PrintWords
set_option maxRecDepth 100000
theorem laid_out : laidOutB Tryd.prog = true := by kernel_rfl
theorem may_enter : Tryd.prog.mayEnter = true := by kernel_rfl
theorem lifts_not : Tryd.prog.liftsFinal = false := by kernel_rfl
theorem make_cut : Tryd.prog.make = some .cut := by kernel_rfl
section
variable {H : Type} {enc : TypeId × Value → H} {w : World} {base : Nat} {spare : Nat → Bool} {held : Bool}
theorem op_cells40 : Tryd.prog.cellsOf 40 = 3 := by kernel_rfl
theorem open_jobs {r : Reach} {b0 : Nat} {v : Value} {d : DataW H} {p : List MemPlace} (hv : Value.okWide Tryd.prog w r b0 22 v) (h : DataW.Trod enc Tryd.prog w base spare held 22 v d p) :
    ∃ (A : Option Addr) (c : Nat) (l : List S40), v = .slice A l.length c ∧ Kd.C k40 w A l.length l ∧ l.length ≤ c ∧ l.length ≤ 9223372036854775807 := by
  obtain ⟨a, len, cap, rfl⟩ := okWide_slice Tryd.underlying22 hv
  obtain ⟨fuel, hf⟩ := h
  rcases open_slice Tryd.underlying22 hf with ⟨hcs, _⟩ | ⟨ad, ln, cp, m, n, D, Pl, hcs, _, hl, hm, hmm, _, hi⟩
  · simp [Value.cells] at hcs
    obtain ⟨rfl, rfl, rfl⟩ := hcs
    exact ⟨none, 0, [], rfl, ⟨rfl, by simp, fun h => absurd h (by simp)⟩, Nat.le_refl _, by simp⟩
  · simp [Value.cells] at hcs
    obtain ⟨rfl, rfl, rfl⟩ := hcs
    have hlm : len ≤ m := by rw [hmm]; split <;> omega
    have each : ∀ i, i < len → ∃ q : S40, w.cell? (ad.add (i * 3)) = some (.int .i64 q.f0) ∧ w.cell? (ad.add (i * 3 + 1)) = some (.int .i64 q.f1) ∧ w.cell? (ad.add (i * 3 + 2)) = some (.int .i64 q.f2) := by
      intro i hil
      obtain ⟨cs', h1, h2⟩ := hi i (by omega)
      rw [op_cells40] at h1
      obtain ⟨_, hlen, hcell⟩ := World.cells?_some h1
      obtain ⟨xs, k, _, _, _, hxl, hx⟩ := DataW.trod_struct Tryd.underlying40 h2
      match cs', hlen, xs, hxl with
      | [v0, v1, v2], _, [y0, y1, y2], _ =>
        have g0 : DataW.trod enc Tryd.prog w base spare held k 3 [v0] = some y0 := hx 0 _ rfl; have g1 : DataW.trod enc Tryd.prog w base spare held k 3 [v1] = some y1 := hx 1 _ rfl; have g2 : DataW.trod enc Tryd.prog w base spare held k 3 [v2] = some y2 := hx 2 _ rfl
        have e0 := hcell 0 (by omega); have e1 := hcell 1 (by omega); have e2 := hcell 2 (by omega)
        rw [Deep.add_add] at e0 e1 e2
        obtain ⟨x0, q0, _, _⟩ := DataW.trod_int Tryd.underlying3 g0
        obtain ⟨x1, q1, _, _⟩ := DataW.trod_int Tryd.underlying3 g1
        obtain ⟨x2, q2, _, _⟩ := DataW.trod_int Tryd.underlying3 g2
        simp only [List.cons.injEq, and_true] at q0 q1 q2
        subst q0 q1 q2
        exact ⟨⟨x0, x1, x2⟩, by simpa using e0, by simpa using e1, by simpa using e2⟩
    haveI : Inhabited S40 := ⟨z40⟩
    obtain ⟨q, hq⟩ := choose_lt each
    have hlen : ((List.range len).map q).length = len := by simp
    refine ⟨some ad, cap, (List.range len).map q, by rw [hlen], ⟨by rw [hlen], ?_, fun _ => ⟨ad, rfl, fun j p hp => ?_⟩⟩, by rw [hlen]; exact hl, ?_⟩
    · rw [hlen]; have : maxLen ≤ 9223372036854775807 := by decide
      omega
    · have hj : j < len := by
        have := (List.getElem?_eq_some_iff.1 hp).1
        simpa using this
      have hp' : q j = p := by
        rw [List.getElem?_map, List.getElem?_range hj] at hp
        exact Option.some.inj hp
      subst hp'
      refine ⟨[.int .i64 (q j).f0, .int .i64 (q j).f1, .int .i64 (q j).f2], rfl, k40_mkM w 0 (fun _ => True) _, fun i u hu => ?_⟩
      have h2 := hq j hj
      match i, hu with
      | 0, hu => rw [← Option.some.inj hu]; exact h2.1
      | 1, hu => rw [← Option.some.inj hu]; exact h2.2.1
      | 2, hu => rw [← Option.some.inj hu]; exact h2.2.2
    · rw [hlen]; have : maxLen ≤ 9223372036854775807 := by decide
      omega
theorem op_cells34 : Tryd.prog.cellsOf 34 = 2 := by kernel_rfl
theorem okWide_row {P : Program} {w : World} {r : Reach} {b0 : Nat} {t e : TypeId} {n : Nat} {v : Value} (ht : P.underlying t = some (.array n e)) (h : Value.okWide P w r b0 t v) : ∃ cs, v = .agg cs ∧ cs.size = P.cellsOf t := by
  simp only [Value.okWide, ht] at h
  obtain ⟨cs, h1, h2, _⟩ := h
  exact ⟨cs, h1, h2⟩
theorem open_two {r : Reach} {b0 : Nat} {v : Value} {d : DataW H} {p : List MemPlace} (hv : Value.okWide Tryd.prog w r b0 34 v) (h : DataW.Trod enc Tryd.prog w base spare held 34 v d p) :
    ∃ x y : Int, v = .agg #[.int .i64 x, .int .i64 y] := by
  obtain ⟨⟨cs⟩, rfl, hsz⟩ := okWide_row Tryd.underlying34 hv
  obtain ⟨fuel, hf⟩ := h
  obtain ⟨xs, n, _, _, hl, hlen, hi⟩ := DataW.trod_array Tryd.underlying34 hf
  have hsz2 : cs.length = 2 := by simpa [op_cells34] using hsz
  match cs, hsz2, xs, hlen with
  | [c0, c1], _, [y0, y1], _ =>
    obtain ⟨x, e0, _⟩ := DataW.trod_int Tryd.underlying3 (show DataW.trod enc Tryd.prog w base spare held n 3 [c0] = some y0 from hi 0 (by decide))
    obtain ⟨y, e1, _⟩ := DataW.trod_int Tryd.underlying3 (show DataW.trod enc Tryd.prog w base spare held n 3 [c1] = some y1 from hi 1 (by decide))
    simp only [List.cons.injEq, and_true] at e0 e1
    subst e0 e1
    exact ⟨x, y, rfl⟩
end
theorem gNone : Tryd.prog.globalNamed "silverside/bench.none" = some 0 := by kernel_rfl
theorem tNone : (Tryd.prog.globals[0]?).map (·.type) = some 106 := by kernel_rfl
theorem none_of_laid {W : World} (h : laidMetH Tryd.prog [("silverside/bench.none", Rows.laid_silverside_bench_none)] W) : None_ W := by
  rw [MakeChecks.laidMetH_plain _ _ _ (by kernel_rfl)] at h
  obtain ⟨ps, ⟨g0, t0, cs0, f0, p0, q0, hg0, ht0, hv0, hd0, _, _⟩, _, _⟩ := h
  obtain rfl := Option.some.inj (gNone.symm.trans hg0)
  obtain rfl := Option.some.inj (tNone.symm.trans ht0)
  obtain ⟨y0, y1, n, hx, hl, h0, h1⟩ := ChangeShapes.trod_struct2 Tryd.underlying106 hd0
  have hl2 : cs0.toList.length = 2 := hl.trans (by kernel_rfl)
  obtain ⟨cs⟩ := cs0
  match cs, hl2 with
  | [c0, c1], _ =>
    obtain ⟨x, e0, hy0, _⟩ := DataW.trod_int Tryd.underlying3 (show DataW.trod _ Tryd.prog W _ _ _ n 3 [c0] = some y0 from h0)
    obtain ⟨y, e1, hy1, _⟩ := DataW.trod_int Tryd.underlying3 (show DataW.trod _ Tryd.prog W _ _ _ n 3 [c1] = some y1 from h1)
    simp only [List.cons.injEq, and_true] at e0 e1
    subst e0 e1
    rw [hy0, hy1] at hx
    have hxx : (x = -1 ∧ y = -1) ∧ p0 = [] := by simpa [Rows.laid_silverside_bench_none, eq_comm] using hx
    obtain ⟨⟨rfl, rfl⟩, _⟩ := hxx
    exact ⟨World.var?_cell hg0 hv0 0, World.var?_cell hg0 hv0 1⟩
theorem door_met (os : Os) (args : Array Value) : laidMetH Tryd.prog [("silverside/bench.none", Rows.laid_silverside_bench_none)] ((World.doorLaid Tryd.prog 400 os).forCall (fun _ _ => 0) ⟨#[], args, []⟩).memory :=
  laidMetH_of_parts3 (fuel := 8) (laidMet_of_run' 8 (by kernel_rfl) (by kernel_rfl)) (by kernel_rfl) (by kernel_rfl)
end Go.Proofs.YtmnhcbaocoofoaaDoor.P
