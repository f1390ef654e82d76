/- Proved here: what functions that the law reaches compute, and plain laws of that. -/
import Derived.Test.YtmnhcbaocoofoaaDoorProg
import Derived.Below
import Derived.Deep.Draws
import Derived.Deep.AppendLies
import Derived.Maps.AppendAt
import Derived.OwnWalk
import Derived.Laws.BytesArg
import Derived.Laws.MakeOwn
import Derived.Laws.OwnMore
import Derived.Deep.OwnRows
import Derived.Tactics
import Derived.Lib.ConvBytes
import Derived.Laws.Slices
import Derived.WalkKit
import Derived.KernelRfl
import Derived.RowKit3
import Derived.Deep.LoopGhost
import Derived.Deep.QuietTactic
import Derived.BigQuiet
import Derived.WideLaws
import Derived.Deep.DeepCutAuto
import Derived.Deep.CutBlock
import Derived.Deep.RegionHeld3
import Derived.Laws.Rows
import Derived.Lib.AppendStr
import Derived.ArgAppend
import Derived.Laws.IdiomCopy
import Derived.OrdersHeld
import Derived.Laws.BitsLemmas
import Derived.RowKit
import Derived.Test.YtmnhcbaocoofoaaDoorVQ11
import Derived.Outline
import Derived.Shelf.Small.Bits
import Derived.Shelf.Small.Wraps
import Derived.Shelf.Strconv.Itoa0
import Derived.Shelf.Sort.Plain
import Derived.Ground.Names2Prog
import Derived.Shelf.Slices.CompactI
import Derived.Shelf.Slices.SearchI
import Derived.Shelf.Slices.Cells
import Derived.Shelf.Slices.In.SortNone
import Derived.Shelf.SlicesE.Clone
import Derived.Ground.SlgnProg
set_option linter.unusedVariables false
set_option linter.unusedSimpArgs false
namespace Go.Proofs.YtmnhcbaocoofoaaDoor.P
open Go.RowKit YtmnhcbaocoofoaaDoorW.PrintWords YtmnhcbaocoofoaaDoorW.PrintLast YtmnhcbaocoofoaaDoorW.PrintMore
attribute [local go_sem] max2_int min2_int max_two min_two max_three min_three max_four min_four



def errW : Option Int → Value
  | none => .nilIface
  | some c => .iface 0 (.int .i64 c)
theorem errW_none : errW none = .nilIface := rfl
theorem errW_some (c : Int) : errW (some c) = .iface 0 (.int .i64 c) := rfl

theorem info3 : (Tryd.prog.info? 3).map (fun i => (i.zero, i.size, i.bytes)) = some (some (.int .i64 0), 1, 8) := by kernel_rfl
theorem info34 : (Tryd.prog.info? 34).map (fun i => (i.zero, i.size, i.bytes)) = some (some (.agg #[(.int .i64 0), (.int .i64 0)]), 2, 16) := by kernel_rfl
theorem info40 : (Tryd.prog.info? 40).map (fun i => (i.zero, i.size, i.bytes)) = some (some (.agg #[(.int .i64 0), (.int .i64 0), (.int .i64 0)]), 3, 24) := by kernel_rfl
theorem info50 : (Tryd.prog.info? 50).map (fun i => (i.zero, i.size, i.bytes)) = some (some (.agg #[(.int .i64 0), (.int .i64 0), (.int .i64 0), (.int .i64 0)]), 4, 32) := by kernel_rfl
structure S40 where
  f0 : Int
  f1 : Int
  f2 : Int
def z40 : S40 := ⟨(0 : Int), (0 : Int), (0 : Int)⟩
def k40 : Kd S40 := Kd.iso (Kd.pair (Kd.int .i64) (Kd.pair (Kd.int .i64) (Kd.int .i64))) (fun x : S40 => (x.f0, x.f1, x.f2))
theorem k40_open {w : World} {x : S40} {cs : List Value} (h : k40.K w x cs) : cs = [.int .i64 x.f0, .int .i64 x.f1, .int .i64 x.f2] := by
  obtain ⟨_, _, rfl, rfl, ⟨_, _, rfl, rfl, rfl⟩⟩ := h
  exact rfl
theorem k40_mkM (w : World) (base : Nat) (ok : Nat → Prop) (x : S40)  : k40.M w base ok x [.int .i64 x.f0, .int .i64 x.f1, .int .i64 x.f2] := ⟨[.int .i64 x.f0], [.int .i64 x.f1, .int .i64 x.f2], rfl, rfl, ⟨[.int .i64 x.f1], [.int .i64 x.f2], rfl, rfl, rfl⟩⟩
def rd_T40 (xs : List S40) (i : Int) : S40 := xs.getD i.toNat z40
theorem at_T40 {w : World} {A : Option Addr} {n : Nat} {xs : List S40} (h : Kd.C k40 w A n xs) (i : Int) (h0 : 0 ≤ i) (h1 : i < n) : ∃ ad , A = some ad ∧ w.cell? (ad.add (i.toNat * 3)) = some (.int .i64 (rd_T40 xs i).f0) ∧ w.cell? ⟨(ad.add (i.toNat * 3)).block, (ad.add (i.toNat * 3)).off + 1, none⟩ = some (.int .i64 (rd_T40 xs i).f1) ∧ w.cell? ⟨(ad.add (i.toNat * 3)).block, (ad.add (i.toNat * 3)).off + 2, none⟩ = some (.int .i64 (rd_T40 xs i).f2) := by
  obtain ⟨ad, c, e, _, hK, hc0⟩ := Kd.C_get h z40 i h0 h1
  have hc : ∀ j u, c[j]? = some u → w.cell? (ad.add (i.toNat * 3 + j)) = some u := hc0
  obtain rfl := k40_open hK
  exact ⟨ad, e, hc 0 _ rfl, by rw [← add_field _ _ 1 (by omega)]; exact hc 1 _ rfl, by rw [← add_field _ _ 2 (by omega)]; exact hc 2 _ rfl⟩

structure S50 where
  f0 : Int
  f1 : Int
  f2 : Int
  f3 : Int
def z50 : S50 := ⟨(0 : Int), (0 : Int), (0 : Int), (0 : Int)⟩
def k50 : Kd S50 := Kd.iso (Kd.pair (Kd.int .i64) (Kd.pair (Kd.int .i64) (Kd.pair (Kd.int .i64) (Kd.int .i64)))) (fun x : S50 => (x.f0, x.f1, x.f2, x.f3))
theorem k50_open {w : World} {x : S50} {cs : List Value} (h : k50.K w x cs) : cs = [.int .i64 x.f0, .int .i64 x.f1, .int .i64 x.f2, .int .i64 x.f3] := by
  obtain ⟨_, _, rfl, rfl, ⟨_, _, rfl, rfl, ⟨_, _, rfl, rfl, rfl⟩⟩⟩ := h
  exact rfl
theorem k50_openM {w : World} {base : Nat} {ok : Nat → Prop} {x : S50} {cs : List Value} (h : k50.M w base ok x cs) : cs = [.int .i64 x.f0, .int .i64 x.f1, .int .i64 x.f2, .int .i64 x.f3] := by
  obtain ⟨_, _, rfl, rfl, ⟨_, _, rfl, rfl, ⟨_, _, rfl, rfl, rfl⟩⟩⟩ := h
  exact rfl
theorem k50_mkM (w : World) (base : Nat) (ok : Nat → Prop) (x : S50)  : k50.M w base ok x [.int .i64 x.f0, .int .i64 x.f1, .int .i64 x.f2, .int .i64 x.f3] := ⟨[.int .i64 x.f0], [.int .i64 x.f1, .int .i64 x.f2, .int .i64 x.f3], rfl, rfl, ⟨[.int .i64 x.f1], [.int .i64 x.f2, .int .i64 x.f3], rfl, rfl, ⟨[.int .i64 x.f2], [.int .i64 x.f3], rfl, rfl, rfl⟩⟩⟩
def rd_T50 (xs : List S50) (i : Int) : S50 := xs.getD i.toNat z50
theorem at_T50 {w : World} {A : Option Addr} {n : Nat} {xs : List S50} (h : Kd.C k50 w A n xs) (i : Int) (h0 : 0 ≤ i) (h1 : i < n) : ∃ ad , A = some ad ∧ w.cell? (ad.add (i.toNat * 4)) = some (.int .i64 (rd_T50 xs i).f0) ∧ w.cell? ⟨(ad.add (i.toNat * 4)).block, (ad.add (i.toNat * 4)).off + 1, none⟩ = some (.int .i64 (rd_T50 xs i).f1) ∧ w.cell? ⟨(ad.add (i.toNat * 4)).block, (ad.add (i.toNat * 4)).off + 2, none⟩ = some (.int .i64 (rd_T50 xs i).f2) ∧ w.cell? ⟨(ad.add (i.toNat * 4)).block, (ad.add (i.toNat * 4)).off + 3, none⟩ = some (.int .i64 (rd_T50 xs i).f3) := by
  obtain ⟨ad, c, e, _, hK, hc0⟩ := Kd.C_get h z50 i h0 h1
  have hc : ∀ j u, c[j]? = some u → w.cell? (ad.add (i.toNat * 4 + j)) = some u := hc0
  obtain rfl := k50_open hK
  exact ⟨ad, e, hc 0 _ rfl, by rw [← add_field _ _ 1 (by omega)]; exact hc 1 _ rfl, by rw [← add_field _ _ 2 (by omega)]; exact hc 2 _ rfl, by rw [← add_field _ _ 3 (by omega)]; exact hc 3 _ rfl⟩

structure S34 where
  f0 : Int
  f1 : Int
def z34 : S34 := ⟨(0 : Int), (0 : Int)⟩
def k34 : Kd S34 := Kd.iso (Kd.pair (Kd.int .i64) (Kd.int .i64)) (fun x : S34 => (x.f0, x.f1))
theorem k34_open {w : World} {x : S34} {cs : List Value} (h : k34.K w x cs) : cs = [.int .i64 x.f0, .int .i64 x.f1] := by
  obtain ⟨_, _, rfl, rfl, rfl⟩ := h
  exact rfl
theorem k34_openM {w : World} {base : Nat} {ok : Nat → Prop} {x : S34} {cs : List Value} (h : k34.M w base ok x cs) : cs = [.int .i64 x.f0, .int .i64 x.f1] := by
  obtain ⟨_, _, rfl, rfl, rfl⟩ := h
  exact rfl
theorem k34_mkM (w : World) (base : Nat) (ok : Nat → Prop) (x : S34)  : k34.M w base ok x [.int .i64 x.f0, .int .i64 x.f1] := ⟨[.int .i64 x.f0], [.int .i64 x.f1], rfl, rfl, rfl⟩
def rd_T34 (xs : List S34) (i : Int) : S34 := xs.getD i.toNat z34
theorem at_T34 {w : World} {A : Option Addr} {n : Nat} {xs : List S34} (h : Kd.C k34 w A n xs) (i : Int) (h0 : 0 ≤ i) (h1 : i < n) : ∃ ad , A = some ad ∧ w.cell? (ad.add (i.toNat * 2)) = some (.int .i64 (rd_T34 xs i).f0) ∧ w.cell? ⟨(ad.add (i.toNat * 2)).block, (ad.add (i.toNat * 2)).off + 1, none⟩ = some (.int .i64 (rd_T34 xs i).f1) := by
  obtain ⟨ad, c, e, _, hK, hc0⟩ := Kd.C_get h z34 i h0 h1
  have hc : ∀ j u, c[j]? = some u → w.cell? (ad.add (i.toNat * 2 + j)) = some u := hc0
  obtain rfl := k34_open hK
  exact ⟨ad, e, hc 0 _ rfl, by rw [← add_field _ _ 1 (by omega)]; exact hc 1 _ rfl⟩


def bench_span_length.f (a0_0 : Int) (a0_1 : Int) : Option (Int) := some (wrap64 (a0_1 - a0_0))
set_option maxHeartbeats 8000000 in
set_option maxRecDepth 100000 in
theorem bench_span_length.calls (a0_0 : Int) (a0_1 : Int) (r : Int) (w : World) (h : bench_span_length.f a0_0 a0_1 = some r) :
  Calls Tryd.prog 62 #[.agg #[.int .i64 a0_0, .int .i64 a0_1]] w fun e w' => e = .returned (.int .i64 r) ∧ Below w.heap.size w w' := by
 have hu97 := Tryd.underlying97
 have HB := Aside0.mk (Below.refl w.heap.size w)
 have H : (some (wrap64 (a0_1 - a0_0))) = some r := h
 clear h
 obtain rfl := Option.some.inj H
 go_enter Tryd.func62, Tryd.ntmps62
 go_wp2_with (first | ((with_reducible refine gate_dst (N := 1) rfl ?_); refine box_event ?hg (N := 1) ?hd (cs := #[.int .i64 a0_0, .int .i64 a0_1]) (t := 97) ?hr ?_; (case hd => rfl); (case hg => rfl); (case hr => first | (go_simp; done) | (go_simp; rfl)); intro gb260 hg w2 hbox hb; have n0_ := Aside0.mk (below_step (by repeat (first | (with_reducible first | exact HB.out | apply below_alloc | apply pw_below_drewN | apply below_drew1) | exact HB.out)) hb); have n1_ := Aside0.mk (hbox); have n2_ := Aside0.mk ((by rw [hg]; exact (below_size (by repeat (first | (with_reducible first | exact HB.out | apply below_alloc | apply pw_below_drewN | apply below_drew1) | exact HB.out))) : w.heap.size ≤ gb260)); have n3_ := Aside0.mk ((by rw [hg]; exact (below_size (by repeat (first | (with_reducible first | exact HB.out | apply below_alloc | apply pw_below_drewN | apply below_drew1) | exact HB.out))) : w.heap.size ≤ gb260)); clear HB; have HB := n0_; have BK260 := n1_; have GW260 := n2_; have GE260 := n3_; clear n0_ n1_ n2_ n3_; clear hb hbox hg; have hcz3_0 : w2.cell? ⟨gb260, 0, none⟩ = some (.int .i64 a0_0) := (blk_cell BK260.out 0).trans rfl; have hcz3_1 : w2.cell? ⟨gb260, 1, none⟩ = some (.int .i64 a0_1) := (blk_cell BK260.out 1).trans rfl; have hfz3_0 := blk_frozen BK260.out 0; have hfz3_1 := blk_frozen BK260.out 1))
 go_ret
 exact ⟨by first | rfl | (simp [errW_none, errW_some] <;> rfl) | (simp [*, errW_none, errW_some] <;> rfl), by repeat (first | (with_reducible first | exact HB.out | apply below_alloc | apply pw_below_drewN | apply below_drew1 | refine below_set ?_ GE260.out) | exact HB.out)⟩


def bench_within.f (a0 : Int) (a1 : Int) (a2 : Int) : Option (Bool) := if a0 ≥ a1 then (some (decide (a0 ≤ a2))) else (some false)
set_option maxHeartbeats 8000000 in
set_option maxRecDepth 100000 in
theorem bench_within.calls (a0 : Int) (a1 : Int) (a2 : Int) (r : Bool) (w : World) (h : bench_within.f a0 a1 a2 = some r) :
  Calls Tryd.prog 39 #[.int .i64 a0, .int .i64 a1, .int .i64 a2] w fun e w' => e = .returned (.bool r) ∧ Drawn0 w w' := by
 have H : (if a0 ≥ a1 then (some (decide (a0 ≤ a2))) else (some false)) = some r := h
 clear h
 by_cases c4 : a0 ≥ a1
 ·rw [if_pos c4] at H
  have c4b0 : decide (a1 ≤ a0) = true := decide_eq_true c4
  clear c4
  obtain rfl := Option.some.inj H
  go_enter Tryd.func39, Tryd.ntmps39
  go_wp2
  go_ret
  exact ⟨by first | rfl | (simp; done) | (simp [*]; done), by repeat (first | exact Drawn0.refl _ | apply Drawn0.step)⟩
 ·rw [if_neg c4] at H
  have c4b0 : decide (a1 ≤ a0) = false := decide_eq_false c4
  clear c4
  obtain rfl := Option.some.inj H
  go_enter Tryd.func39, Tryd.ntmps39
  go_wp2
  go_ret
  exact ⟨by first | rfl | (simp; done) | (simp [*]; done), by repeat (first | exact Drawn0.refl _ | apply Drawn0.step)⟩


def R4_overlap.f (a0 : Int) (a1 : Int) (a2 : Int) (a3 : Int) : Option (Int) := some (mx 0 (wrap64 ((mn a1 a3) - (mx a0 a2))))
set_option maxHeartbeats 8000000 in
set_option maxRecDepth 100000 in
theorem R4_overlap.calls (a0 : Int) (a1 : Int) (a2 : Int) (a3 : Int) (r : Int) (w : World) (h : R4_overlap.f a0 a1 a2 a3 = some r) :
  Calls Tryd.prog 50 #[.int .i64 a0, .int .i64 a1, .int .i64 a2, .int .i64 a3] w fun e w' => e = .returned (.int .i64 r) ∧ Below w.heap.size w w' := by
 have HB := Aside0.mk (Below.refl w.heap.size w)
 have H : (some (mx 0 (wrap64 ((mn a1 a3) - (mx a0 a2))))) = some r := h
 clear h
 obtain ⟨ji5, hji5⟩ : ∃ j_ : Int, (mn a1 a3) = j_ := ⟨_, rfl⟩
 replace H : (some (mx 0 (wrap64 ((ji5) - (mx a0 a2))))) = some r := by first | (rw [hji5] at H; exact H) | (simp only [hji5] at H ⊢; exact H)
 have hji5_ : (if a3 < a1 then a3 else a1) = ji5 := hji5
 obtain ⟨ji6, hji6⟩ : ∃ j_ : Int, (mx a0 a2) = j_ := ⟨_, rfl⟩
 replace H : (some (mx 0 (wrap64 ((ji5) - (ji6))))) = some r := by first | (rw [hji6] at H; exact H) | (simp only [hji6] at H ⊢; exact H)
 have hji6_ : (if a0 < a2 then a2 else a0) = ji6 := hji6
 obtain ⟨ji7, hji7⟩ : ∃ j_ : Int, (mx 0 (wrap64 ((ji5) - (ji6)))) = j_ := ⟨_, rfl⟩
 replace H : (some ji7) = some r := by first | (rw [hji7] at H; exact H) | (simp only [hji7] at H ⊢; exact H)
 have hji7_ : (if 0 < (wrap64 ((ji5) - (ji6))) then (wrap64 ((ji5) - (ji6))) else 0) = ji7 := hji7
 obtain rfl := Option.some.inj H
 go_enter Tryd.func50, Tryd.ntmps50
 go_wp2
 go_ret
 exact ⟨by first | rfl | (simp [errW_none, errW_some] <;> rfl) | (simp only [← hji5, ← hji6, ← hji7]; first | rfl | (simp [errW_none, errW_some] <;> rfl)) | (simp [*, errW_none, errW_some] <;> rfl), by repeat (first | (with_reducible first | exact HB.out | apply below_alloc | apply pw_below_drewN | apply below_drew1) | exact HB.out)⟩



def L4_jobs.f (l0 : List (S40)) (a1 : Int) : Option ((List (S40))) := if (l0.length : Int) > 32 then (if 33 ≤ (l0.length : Int) then ((some (l0.take 33 : List (S40))).bind fun y101 => (if ([] : List (S40)).length + y101.length < 5864062014805 then (some (([] : List (S40)) ++ y101)) else (none))) else (none)) else (if 0 ≤ (mn (l0.length : Int) a1) then (if (mn (l0.length : Int) a1) ≤ (l0.length : Int) then ((some (l0.take ((mn (l0.length : Int) a1) : Int).toNat : List (S40))).bind fun y108 => (if ([] : List (S40)).length + y108.length < 5864062014805 then (some (([] : List (S40)) ++ y108)) else (none))) else (none)) else (none))
set_option maxHeartbeats 8000000 in
set_option maxRecDepth 100000 in
theorem L4_jobs.calls (A0 : Option Addr) (c0 : Nat) (l0 : List (S40)) (a1 : Int) (r : List (S40)) (w : World) (hr0 : Kd.C k40 w A0 l0.length l0) (hc0 : l0.length ≤ c0) (h : L4_jobs.f l0 a1 = some r) :
  Calls Tryd.prog 13 #[.slice A0 l0.length c0, .int .i64 a1] w fun e w' => ∃ v0_ : Value, e = .returned (v0_) ∧ Kd.R k40 40 w' w.heap.size (fun _ => True) v0_ r ∧ Below w.heap.size w w' := by
 have HR0 := Aside0.mk hr0
 have HC0 := Aside0.mk hc0
 clear hr0 hc0
 have HB := Aside0.mk (Below.refl w.heap.size w)
 have H : (if (l0.length : Int) > 32 then (if 33 ≤ (l0.length : Int) then ((some (l0.take 33 : List (S40))).bind fun y101 => (if ([] : List (S40)).length + y101.length < 5864062014805 then (some (([] : List (S40)) ++ y101)) else (none))) else (none)) else (if 0 ≤ (mn (l0.length : Int) a1) then (if (mn (l0.length : Int) a1) ≤ (l0.length : Int) then ((some (l0.take ((mn (l0.length : Int) a1) : Int).toNat : List (S40))).bind fun y108 => (if ([] : List (S40)).length + y108.length < 5864062014805 then (some (([] : List (S40)) ++ y108)) else (none))) else (none)) else (none))) = some r := h
 clear h
 obtain ⟨ji3, hji3⟩ : ∃ j_ : Int, (mn (l0.length : Int) a1) = j_ := ⟨_, rfl⟩
 replace H : (if (l0.length : Int) > 32 then (if 33 ≤ (l0.length : Int) then ((some (l0.take 33 : List (S40))).bind fun y101 => (if ([] : List (S40)).length + y101.length < 5864062014805 then (some (([] : List (S40)) ++ y101)) else (none))) else (none)) else (if 0 ≤ (ji3) then (if (ji3) ≤ (l0.length : Int) then ((some (l0.take ((ji3) : Int).toNat : List (S40))).bind fun y108 => (if ([] : List (S40)).length + y108.length < 5864062014805 then (some (([] : List (S40)) ++ y108)) else (none))) else (none)) else (none))) = some r := by first | (rw [hji3] at H; exact H) | (simp only [hji3] at H ⊢; exact H)
 have hji3_ : (if a1 < (l0.length : Int) then a1 else (l0.length : Int)) = ji3 := hji3
 by_cases c4 : (l0.length : Int) > 32
 ·rw [if_pos c4] at H
  have c4b0 : decide (32 < (l0.length : Int)) = true := decide_eq_true c4
  have c4b1 : decide (32 < l0.length) = true := decide_eq_true (by omega)
  clear c4
  by_cases c5 : 33 ≤ (l0.length : Int)
  ·rw [if_pos c5] at H
   have c5b0 := eq_true c5
   have c5b1 : decide (33 ≤ (l0.length : Int)) = true := decide_eq_true c5
   clear c5
   obtain ⟨y101, hy101⟩ : ∃ y_ : List (S40), y_ = (l0.take 33) := ⟨_, rfl⟩
   replace H : (if ([] : List (S40)).length + y101.length < 5864062014805 then (some (([] : List (S40)) ++ y101)) else (none)) = some r := by first | (rw [hy101]; with_reducible exact H) | (have H2_ := (Option.bind_some _ _).symm.trans H; rw [hy101]; with_reducible exact H2_) | (have H2_ := (Option.bind_some _ _).symm.trans H; with_reducible exact H2_) | with_reducible exact H | (rw [hy101]; exact H) | exact H
   have Ny101 := Aside0.mk hy101
   clear hy101
   by_cases c6 : ([] : List (S40)).length + y101.length < 5864062014805
   ·rw [if_pos c6] at H
    have LMc6 := Aside0.mk c6
    clear c6
    obtain ⟨y105, hy105⟩ : ∃ y_ : List (S40), y_ = (([] : List (S40)) ++ y101) := ⟨_, rfl⟩
    replace H : (some y105) = some r := by first | (rw [hy105]; with_reducible exact H) | (have H2_ := (Option.bind_some _ _).symm.trans H; rw [hy105]; with_reducible exact H2_) | (have H2_ := (Option.bind_some _ _).symm.trans H; with_reducible exact H2_) | with_reducible exact H | (rw [hy105]; exact H) | exact H
    have Ny105 := Aside0.mk hy105
    clear hy105
    obtain rfl := Option.some.inj H
    have q7 : (33 : Int) ≤ ((l0.length : Int) : Int) := of_decide_eq_true (by first | (with_reducible assumption) | assumption)
    obtain ⟨i07, hi07, _, hsz7, _⟩ := info_parts info40
    have hroom7 : l0.length ≤ c0 := HC0.out
    have hC7 : Kd.C k40 _ A0 l0.length l0 := HR0.out
    have hcut7 := cut_to (P := Tryd.prog) 22 40 .i64 Tryd.underlying22 hi07 A0 l0.length c0 33 (by omega) q7 hroom7
    have hr7 := Kd.C_take (m := 33) hC7 (by omega)
    have hy7 : y101.length = (33 : Int).toNat := (by rw [Ny101.out, List.length_take]; omega)
    rw [← Ny101.out] at hr7
    rw [← hy7] at hcut7
    have HR104 := Aside0.mk hr7
    have HC104 := Aside0.mk (show y101.length ≤ c0 from by omega)
    clear hr7 hC7 hroom7 hi07 hsz7
    have KY7 := Aside0.mk hy7
    clear hy7
    replace q7 := eq_true q7
    go_enter Tryd.func13, Tryd.ntmps13
    go_wp2_with (first | ((with_reducible refine gate_builtin (b := .append) (xs := #[.tmp 14, .tmp 17]) rfl ?_); at_builtin; refine Kd.R_append_rows k40 (w0 := w) w.heap.size rfl (.tmp 14) (.tmp 17) 22 40 (.agg #[(.int .i64 0), (.int .i64 0), (.int .i64 0)]) 24 rfl Tryd.underlying22 info40 rfl (by decide) (by omega) (.slice none 0 0) ([] : List (S40)) y101 _ _ _ (fun _ => True) (fun _ => False) rfl rfl ?aO ?aR (fun _ _ h => h) (fun _ h => h.elim) ?aF ?aB ?aS ?aL ?_; (case aR => repeat (first | exact HR104.out | (with_reducible refine Kd.C_alloc ?_ _) | (with_reducible refine Kd.C_drewN ?_ _) | (with_reducible refine Kd.C_drew ?_))); (case aB => exact (by repeat (first | (with_reducible first | exact HB.out | apply below_alloc | apply pw_below_drewN | apply below_drew1) | exact HB.out))); (case aF => exact (fun _ _ => trivial)); (case aO => exact ((Kd.R_nil _ _ _ _ (fun _ => True)))); (case aS => exact (below_size (by repeat (first | (with_reducible first | exact HB.out | apply below_alloc | apply pw_below_drewN | apply below_drew1) | exact HB.out)))); (case aL => have := LMc6.out; omega); intro v106 w8 ho hb hg hat; rw [← Ny105.out] at ho; have n0_ := Aside0.mk (hb); have n1_ := Aside0.mk (ho); clear HB; have HB := n0_; have HO107 := n1_; clear n0_ n1_; clear ho hb hg hat))
    go_ret
    exact ⟨_, by first | rfl | (simp [errW_none, errW_some] <;> rfl) | (simp only [← hji3]; first | rfl | (simp [errW_none, errW_some] <;> rfl)) | (simp [*, errW_none, errW_some] <;> rfl), by (with_reducible repeat (first | apply Kd.R_alloc | apply Kd.R_drewN | apply Kd.R_drew)); exact HO107.out, by repeat (first | (with_reducible first | exact HB.out | apply below_alloc | apply pw_below_drewN | apply below_drew1) | exact HB.out)⟩
   ·rw [if_neg c6] at H
    exact absurd H (by simp)
  ·rw [if_neg c5] at H
   exact absurd H (by simp)
 ·rw [if_neg c4] at H
  have c4b0 : decide (32 < (l0.length : Int)) = false := decide_eq_false c4
  have c4b1 : decide (32 < l0.length) = false := decide_eq_false (by omega)
  clear c4
  by_cases c9 : 0 ≤ (ji3)
  ·rw [if_pos c9] at H
   have c9b0 := eq_true c9
   have c9b1 : decide (0 ≤ (ji3)) = true := decide_eq_true c9
   clear c9
   by_cases c10 : (ji3) ≤ (l0.length : Int)
   ·rw [if_pos c10] at H
    have c10b0 := eq_true c10
    have c10b1 : decide ((ji3) ≤ (l0.length : Int)) = true := decide_eq_true c10
    clear c10
    obtain ⟨y108, hy108⟩ : ∃ y_ : List (S40), y_ = (l0.take ((ji3) : Int).toNat) := ⟨_, rfl⟩
    replace H : (if ([] : List (S40)).length + y108.length < 5864062014805 then (some (([] : List (S40)) ++ y108)) else (none)) = some r := by first | (rw [hy108]; with_reducible exact H) | (have H2_ := (Option.bind_some _ _).symm.trans H; rw [hy108]; with_reducible exact H2_) | (have H2_ := (Option.bind_some _ _).symm.trans H; with_reducible exact H2_) | with_reducible exact H | (rw [hy108]; exact H) | exact H
    have Ny108 := Aside0.mk hy108
    clear hy108
    by_cases c11 : ([] : List (S40)).length + y108.length < 5864062014805
    ·rw [if_pos c11] at H
     have LMc11 := Aside0.mk c11
     clear c11
     obtain ⟨y112, hy112⟩ : ∃ y_ : List (S40), y_ = (([] : List (S40)) ++ y108) := ⟨_, rfl⟩
     replace H : (some y112) = some r := by first | (rw [hy112]; with_reducible exact H) | (have H2_ := (Option.bind_some _ _).symm.trans H; rw [hy112]; with_reducible exact H2_) | (have H2_ := (Option.bind_some _ _).symm.trans H; with_reducible exact H2_) | with_reducible exact H | (rw [hy112]; exact H) | exact H
     have Ny112 := Aside0.mk hy112
     clear hy112
     obtain rfl := Option.some.inj H
     have q12 : ((ji3) : Int) ≤ ((l0.length : Int) : Int) := of_decide_eq_true (by first | (with_reducible assumption) | assumption)
     obtain ⟨i012, hi012, _, hsz12, _⟩ := info_parts info40
     have hroom12 : l0.length ≤ c0 := HC0.out
     have hC12 : Kd.C k40 _ A0 l0.length l0 := HR0.out
     have hcut12 := cut_to (P := Tryd.prog) 22 40 .i64 Tryd.underlying22 hi012 A0 l0.length c0 (ji3) (of_decide_eq_true (by first | (with_reducible assumption) | assumption)) q12 hroom12
     have hr12 := Kd.C_take (m := ((ji3) : Int).toNat) hC12 (by omega)
     have hy12 : y108.length = ((ji3) : Int).toNat := (by rw [Ny108.out, List.length_take]; omega)
     rw [← Ny108.out] at hr12
     rw [← hy12] at hcut12
     have HR111 := Aside0.mk hr12
     have HC111 := Aside0.mk (show y108.length ≤ c0 from by omega)
     clear hr12 hC12 hroom12 hi012 hsz12
     have KY12 := Aside0.mk hy12
     clear hy12
     replace q12 := eq_true q12
     go_enter Tryd.func13, Tryd.ntmps13
     go_wp2_with (first | ((with_reducible refine gate_builtin (b := .append) (xs := #[.tmp 14, .tmp 17]) rfl ?_); at_builtin; refine Kd.R_append_rows k40 (w0 := w) w.heap.size rfl (.tmp 14) (.tmp 17) 22 40 (.agg #[(.int .i64 0), (.int .i64 0), (.int .i64 0)]) 24 rfl Tryd.underlying22 info40 rfl (by decide) (by omega) (.slice none 0 0) ([] : List (S40)) y108 _ _ _ (fun _ => True) (fun _ => False) rfl rfl ?aO ?aR (fun _ _ h => h) (fun _ h => h.elim) ?aF ?aB ?aS ?aL ?_; (case aR => repeat (first | exact HR111.out | (with_reducible refine Kd.C_alloc ?_ _) | (with_reducible refine Kd.C_drewN ?_ _) | (with_reducible refine Kd.C_drew ?_))); (case aB => exact (by repeat (first | (with_reducible first | exact HB.out | apply below_alloc | apply pw_below_drewN | apply below_drew1) | exact HB.out))); (case aF => exact (fun _ _ => trivial)); (case aO => exact ((Kd.R_nil _ _ _ _ (fun _ => True)))); (case aS => exact (below_size (by repeat (first | (with_reducible first | exact HB.out | apply below_alloc | apply pw_below_drewN | apply below_drew1) | exact HB.out)))); (case aL => have := LMc11.out; omega); intro v113 w13 ho hb hg hat; rw [← Ny112.out] at ho; have n0_ := Aside0.mk (hb); have n1_ := Aside0.mk (ho); clear HB; have HB := n0_; have HO114 := n1_; clear n0_ n1_; clear ho hb hg hat))
     go_ret
     exact ⟨_, by first | rfl | (simp [errW_none, errW_some] <;> rfl) | (simp only [← hji3]; first | rfl | (simp [errW_none, errW_some] <;> rfl)) | (simp [*, errW_none, errW_some] <;> rfl), by (with_reducible repeat (first | apply Kd.R_alloc | apply Kd.R_drewN | apply Kd.R_drew)); exact HO114.out, by repeat (first | (with_reducible first | exact HB.out | apply below_alloc | apply pw_below_drewN | apply below_drew1) | exact HB.out)⟩
    ·rw [if_neg c11] at H
     exact absurd H (by simp)
   ·rw [if_neg c10] at H
    exact absurd H (by simp)
  ·rw [if_neg c9] at H
   exact absurd H (by simp)


def R4_Job.f (a0_0 : Int) (a0_1 : Int) (a0_2 : Int) : Option (Bool) := if a0_0 ≥ 0 then (if a0_0 < a0_1 then (if a0_1 ≤ 1048576 then (if a0_2 ≥ 1 then (some (decide (a0_2 ≤ 1048576))) else (some false)) else (some false)) else (some false)) else (some false)
set_option maxHeartbeats 8000000 in
set_option maxRecDepth 100000 in
theorem R4_Job.calls (a0_0 : Int) (a0_1 : Int) (a0_2 : Int) (r : Bool) (w : World) (h : R4_Job.f a0_0 a0_1 a0_2 = some r) :
  Calls Tryd.prog 30 #[.agg #[.int .i64 a0_0, .int .i64 a0_1, .int .i64 a0_2]] w fun e w' => e = .returned (.bool r) ∧ Below w.heap.size w w' := by
 have hu40 := Tryd.underlying40
 have HB := Aside0.mk (Below.refl w.heap.size w)
 have H : (if a0_0 ≥ 0 then (if a0_0 < a0_1 then (if a0_1 ≤ 1048576 then (if a0_2 ≥ 1 then (some (decide (a0_2 ≤ 1048576))) else (some false)) else (some false)) else (some false)) else (some false)) = some r := h
 clear h
 by_cases c2 : a0_0 ≥ 0
 ·rw [if_pos c2] at H
  have c2b0 : decide (0 ≤ a0_0) = true := decide_eq_true c2
  clear c2
  by_cases c3 : a0_0 < a0_1
  ·rw [if_pos c3] at H
   have c3b0 : decide (a0_0 < a0_1) = true := decide_eq_true c3
   clear c3
   by_cases c4 : a0_1 ≤ 1048576
   ·rw [if_pos c4] at H
    have c4b0 : decide (a0_1 ≤ 1048576) = true := decide_eq_true c4
    clear c4
    by_cases c5 : a0_2 ≥ 1
    ·rw [if_pos c5] at H
     have c5b0 : decide (1 ≤ a0_2) = true := decide_eq_true c5
     clear c5
     obtain rfl := Option.some.inj H
     go_enter Tryd.func30, Tryd.ntmps30
     go_wp2_with (first | ((with_reducible refine gate_dst (N := 1) rfl ?_); refine box_event ?hg (N := 1) ?hd (cs := #[.int .i64 a0_0, .int .i64 a0_1, .int .i64 a0_2]) (t := 40) ?hr ?_; (case hd => rfl); (case hg => rfl); (case hr => first | (go_simp; done) | (go_simp; rfl)); intro gb115 hg w6 hbox hb; have n0_ := Aside0.mk (below_step (by repeat (first | (with_reducible first | exact HB.out | apply below_alloc | apply pw_below_drewN | apply below_drew1) | exact HB.out)) hb); have n1_ := Aside0.mk (hbox); have n2_ := Aside0.mk ((by rw [hg]; exact (below_size (by repeat (first | (with_reducible first | exact HB.out | apply below_alloc | apply pw_below_drewN | apply below_drew1) | exact HB.out))) : w.heap.size ≤ gb115)); have n3_ := Aside0.mk ((by rw [hg]; exact (below_size (by repeat (first | (with_reducible first | exact HB.out | apply below_alloc | apply pw_below_drewN | apply below_drew1) | exact HB.out))) : w.heap.size ≤ gb115)); clear HB; have HB := n0_; have BK115 := n1_; have GW115 := n2_; have GE115 := n3_; clear n0_ n1_ n2_ n3_; clear hb hbox hg; have hcz7_0 : w6.cell? ⟨gb115, 0, none⟩ = some (.int .i64 a0_0) := (blk_cell BK115.out 0).trans rfl; have hcz7_1 : w6.cell? ⟨gb115, 1, none⟩ = some (.int .i64 a0_1) := (blk_cell BK115.out 1).trans rfl; have hcz7_2 : w6.cell? ⟨gb115, 2, none⟩ = some (.int .i64 a0_2) := (blk_cell BK115.out 2).trans rfl; have hfz7_0 := blk_frozen BK115.out 0; have hfz7_1 := blk_frozen BK115.out 1; have hfz7_2 := blk_frozen BK115.out 2))
     go_ret
     exact ⟨by first | rfl | (simp [errW_none, errW_some] <;> rfl) | (simp [*, errW_none, errW_some] <;> rfl), by repeat (first | (with_reducible first | exact HB.out | apply below_alloc | apply pw_below_drewN | apply below_drew1 | refine below_set ?_ GE115.out) | exact HB.out)⟩
    ·rw [if_neg c5] at H
     have c5b0 : decide (1 ≤ a0_2) = false := decide_eq_false c5
     clear c5
     obtain rfl := Option.some.inj H
     go_enter Tryd.func30, Tryd.ntmps30
     go_wp2_with (first | ((with_reducible refine gate_dst (N := 1) rfl ?_); refine box_event ?hg (N := 1) ?hd (cs := #[.int .i64 a0_0, .int .i64 a0_1, .int .i64 a0_2]) (t := 40) ?hr ?_; (case hd => rfl); (case hg => rfl); (case hr => first | (go_simp; done) | (go_simp; rfl)); intro gb115 hg w8 hbox hb; have n0_ := Aside0.mk (below_step (by repeat (first | (with_reducible first | exact HB.out | apply below_alloc | apply pw_below_drewN | apply below_drew1) | exact HB.out)) hb); have n1_ := Aside0.mk (hbox); have n2_ := Aside0.mk ((by rw [hg]; exact (below_size (by repeat (first | (with_reducible first | exact HB.out | apply below_alloc | apply pw_below_drewN | apply below_drew1) | exact HB.out))) : w.heap.size ≤ gb115)); have n3_ := Aside0.mk ((by rw [hg]; exact (below_size (by repeat (first | (with_reducible first | exact HB.out | apply below_alloc | apply pw_below_drewN | apply below_drew1) | exact HB.out))) : w.heap.size ≤ gb115)); clear HB; have HB := n0_; have BK115 := n1_; have GW115 := n2_; have GE115 := n3_; clear n0_ n1_ n2_ n3_; clear hb hbox hg; have hcz9_0 : w8.cell? ⟨gb115, 0, none⟩ = some (.int .i64 a0_0) := (blk_cell BK115.out 0).trans rfl; have hcz9_1 : w8.cell? ⟨gb115, 1, none⟩ = some (.int .i64 a0_1) := (blk_cell BK115.out 1).trans rfl; have hcz9_2 : w8.cell? ⟨gb115, 2, none⟩ = some (.int .i64 a0_2) := (blk_cell BK115.out 2).trans rfl; have hfz9_0 := blk_frozen BK115.out 0; have hfz9_1 := blk_frozen BK115.out 1; have hfz9_2 := blk_frozen BK115.out 2))
     go_ret
     exact ⟨by first | rfl | (simp [errW_none, errW_some] <;> rfl) | (simp [*, errW_none, errW_some] <;> rfl), by repeat (first | (with_reducible first | exact HB.out | apply below_alloc | apply pw_below_drewN | apply below_drew1 | refine below_set ?_ GE115.out) | exact HB.out)⟩
   ·rw [if_neg c4] at H
    have c4b0 : decide (a0_1 ≤ 1048576) = false := decide_eq_false c4
    clear c4
    obtain rfl := Option.some.inj H
    go_enter Tryd.func30, Tryd.ntmps30
    go_wp2_with (first | ((with_reducible refine gate_dst (N := 1) rfl ?_); refine box_event ?hg (N := 1) ?hd (cs := #[.int .i64 a0_0, .int .i64 a0_1, .int .i64 a0_2]) (t := 40) ?hr ?_; (case hd => rfl); (case hg => rfl); (case hr => first | (go_simp; done) | (go_simp; rfl)); intro gb115 hg w10 hbox hb; have n0_ := Aside0.mk (below_step (by repeat (first | (with_reducible first | exact HB.out | apply below_alloc | apply pw_below_drewN | apply below_drew1) | exact HB.out)) hb); have n1_ := Aside0.mk (hbox); have n2_ := Aside0.mk ((by rw [hg]; exact (below_size (by repeat (first | (with_reducible first | exact HB.out | apply below_alloc | apply pw_below_drewN | apply below_drew1) | exact HB.out))) : w.heap.size ≤ gb115)); have n3_ := Aside0.mk ((by rw [hg]; exact (below_size (by repeat (first | (with_reducible first | exact HB.out | apply below_alloc | apply pw_below_drewN | apply below_drew1) | exact HB.out))) : w.heap.size ≤ gb115)); clear HB; have HB := n0_; have BK115 := n1_; have GW115 := n2_; have GE115 := n3_; clear n0_ n1_ n2_ n3_; clear hb hbox hg; have hcz11_0 : w10.cell? ⟨gb115, 0, none⟩ = some (.int .i64 a0_0) := (blk_cell BK115.out 0).trans rfl; have hcz11_1 : w10.cell? ⟨gb115, 1, none⟩ = some (.int .i64 a0_1) := (blk_cell BK115.out 1).trans rfl; have hcz11_2 : w10.cell? ⟨gb115, 2, none⟩ = some (.int .i64 a0_2) := (blk_cell BK115.out 2).trans rfl; have hfz11_0 := blk_frozen BK115.out 0; have hfz11_1 := blk_frozen BK115.out 1; have hfz11_2 := blk_frozen BK115.out 2))
    go_ret
    exact ⟨by first | rfl | (simp [errW_none, errW_some] <;> rfl) | (simp [*, errW_none, errW_some] <;> rfl), by repeat (first | (with_reducible first | exact HB.out | apply below_alloc | apply pw_below_drewN | apply below_drew1 | refine below_set ?_ GE115.out) | exact HB.out)⟩
  ·rw [if_neg c3] at H
   have c3b0 : decide (a0_0 < a0_1) = false := decide_eq_false c3
   clear c3
   obtain rfl := Option.some.inj H
   go_enter Tryd.func30, Tryd.ntmps30
   go_wp2_with (first | ((with_reducible refine gate_dst (N := 1) rfl ?_); refine box_event ?hg (N := 1) ?hd (cs := #[.int .i64 a0_0, .int .i64 a0_1, .int .i64 a0_2]) (t := 40) ?hr ?_; (case hd => rfl); (case hg => rfl); (case hr => first | (go_simp; done) | (go_simp; rfl)); intro gb115 hg w12 hbox hb; have n0_ := Aside0.mk (below_step (by repeat (first | (with_reducible first | exact HB.out | apply below_alloc | apply pw_below_drewN | apply below_drew1) | exact HB.out)) hb); have n1_ := Aside0.mk (hbox); have n2_ := Aside0.mk ((by rw [hg]; exact (below_size (by repeat (first | (with_reducible first | exact HB.out | apply below_alloc | apply pw_below_drewN | apply below_drew1) | exact HB.out))) : w.heap.size ≤ gb115)); have n3_ := Aside0.mk ((by rw [hg]; exact (below_size (by repeat (first | (with_reducible first | exact HB.out | apply below_alloc | apply pw_below_drewN | apply below_drew1) | exact HB.out))) : w.heap.size ≤ gb115)); clear HB; have HB := n0_; have BK115 := n1_; have GW115 := n2_; have GE115 := n3_; clear n0_ n1_ n2_ n3_; clear hb hbox hg; have hcz13_0 : w12.cell? ⟨gb115, 0, none⟩ = some (.int .i64 a0_0) := (blk_cell BK115.out 0).trans rfl; have hcz13_1 : w12.cell? ⟨gb115, 1, none⟩ = some (.int .i64 a0_1) := (blk_cell BK115.out 1).trans rfl; have hcz13_2 : w12.cell? ⟨gb115, 2, none⟩ = some (.int .i64 a0_2) := (blk_cell BK115.out 2).trans rfl; have hfz13_0 := blk_frozen BK115.out 0; have hfz13_1 := blk_frozen BK115.out 1; have hfz13_2 := blk_frozen BK115.out 2))
   go_ret
   exact ⟨by first | rfl | (simp [errW_none, errW_some] <;> rfl) | (simp [*, errW_none, errW_some] <;> rfl), by repeat (first | (with_reducible first | exact HB.out | apply below_alloc | apply pw_below_drewN | apply below_drew1 | refine below_set ?_ GE115.out) | exact HB.out)⟩
 ·rw [if_neg c2] at H
  have c2b0 : decide (0 ≤ a0_0) = false := decide_eq_false c2
  clear c2
  obtain rfl := Option.some.inj H
  go_enter Tryd.func30, Tryd.ntmps30
  go_wp2_with (first | ((with_reducible refine gate_dst (N := 1) rfl ?_); refine box_event ?hg (N := 1) ?hd (cs := #[.int .i64 a0_0, .int .i64 a0_1, .int .i64 a0_2]) (t := 40) ?hr ?_; (case hd => rfl); (case hg => rfl); (case hr => first | (go_simp; done) | (go_simp; rfl)); intro gb115 hg w14 hbox hb; have n0_ := Aside0.mk (below_step (by repeat (first | (with_reducible first | exact HB.out | apply below_alloc | apply pw_below_drewN | apply below_drew1) | exact HB.out)) hb); have n1_ := Aside0.mk (hbox); have n2_ := Aside0.mk ((by rw [hg]; exact (below_size (by repeat (first | (with_reducible first | exact HB.out | apply below_alloc | apply pw_below_drewN | apply below_drew1) | exact HB.out))) : w.heap.size ≤ gb115)); have n3_ := Aside0.mk ((by rw [hg]; exact (below_size (by repeat (first | (with_reducible first | exact HB.out | apply below_alloc | apply pw_below_drewN | apply below_drew1) | exact HB.out))) : w.heap.size ≤ gb115)); clear HB; have HB := n0_; have BK115 := n1_; have GW115 := n2_; have GE115 := n3_; clear n0_ n1_ n2_ n3_; clear hb hbox hg; have hcz15_0 : w14.cell? ⟨gb115, 0, none⟩ = some (.int .i64 a0_0) := (blk_cell BK115.out 0).trans rfl; have hcz15_1 : w14.cell? ⟨gb115, 1, none⟩ = some (.int .i64 a0_1) := (blk_cell BK115.out 1).trans rfl; have hcz15_2 : w14.cell? ⟨gb115, 2, none⟩ = some (.int .i64 a0_2) := (blk_cell BK115.out 2).trans rfl; have hfz15_0 := blk_frozen BK115.out 0; have hfz15_1 := blk_frozen BK115.out 1; have hfz15_2 := blk_frozen BK115.out 2))
  go_ret
  exact ⟨by first | rfl | (simp [errW_none, errW_some] <;> rfl) | (simp [*, errW_none, errW_some] <;> rfl), by repeat (first | (with_reducible first | exact HB.out | apply below_alloc | apply pw_below_drewN | apply below_drew1 | refine below_set ?_ GE115.out) | exact HB.out)⟩


def L4_mod.f (a0 : Int) (a1 : Int) : Option (Int) := if (IntKind.u64.wrap (a1)) = 0 then (none) else (some (wrap64 (Int.tmod (IntKind.u64.wrap (a0)) (IntKind.u64.wrap (a1)))))
set_option maxHeartbeats 8000000 in
set_option maxRecDepth 100000 in
theorem L4_mod.calls (a0 : Int) (a1 : Int) (r : Int) (w : World) (h : L4_mod.f a0 a1 = some r) :
  Calls Tryd.prog 23 #[.int .i64 a0, .int .i64 a1] w fun e w' => e = .returned (.int .i64 r) ∧ Drawn0 w w' := by
 have H : (if (IntKind.u64.wrap (a1)) = 0 then (none) else (some (wrap64 (Int.tmod (IntKind.u64.wrap (a0)) (IntKind.u64.wrap (a1)))))) = some r := h
 clear h
 by_cases c3 : (IntKind.u64.wrap (a1)) = 0
 ·rw [if_pos c3] at H
  exact absurd H (by simp)
 ·rw [if_neg c3] at H
  have c3b0 : ((IntKind.u64.wrap (a1)) == 0) = false := beq_eq_false_iff_ne.mpr c3
  have c3b1 : ((IntKind.u64.wrap (a1)) != 0) = true := bne_iff_ne.mpr c3
  obtain rfl := Option.some.inj H
  go_enter Tryd.func23, Tryd.ntmps23
  go_wp2
  go_ret
  exact ⟨by first | rfl | (simp; done) | (simp [*]; done), by repeat (first | exact Drawn0.refl _ | apply Drawn0.step)⟩


end Go.Proofs.YtmnhcbaocoofoaaDoor.P
namespace Go.Proofs.YtmnhcbaocoofoaaDoor.P
open Go.RowKit YtmnhcbaocoofoaaDoorW.PrintWords
abbrev τ : Bool := true
abbrev φ : Bool := false
def Bs (k n : Nat) : Array Bool := ⟨List.replicate k true ++ List.replicate (n - k) false⟩
def brL : Bool → List Nat → List Bool
  | _, [] => []
  | b, n :: r => List.replicate n b ++ brL (!b) r
def Br (l : List Nat) : Array Bool := ⟨brL true l⟩
theorem sA {α : Type _} {l : List α} {i : Nat} {a : α} : l.toArray.setIfInBounds i a = (l.set i a).toArray := List.setIfInBounds_toArray ..
theorem sB {α : Type _} {a b : α} {l : List α} : (a :: l).set 0 b = b :: l := rfl
theorem sC {α : Type _} {a b : α} {l : List α} {n : Nat} : (a :: l).set (n + 1) b = a :: l.set n b := rfl
theorem kN {w : World} {g : Nat} {o : Obj} (h : w.heap[g]? = some o) (n : Nat) : (w.drewN n).heap[g]? = some o := h
theorem kD {w : World} {g : Nat} {o : Obj} (h : w.heap[g]? = some o) : w.drew.heap[g]? = some o := h
theorem kA {w : World} {g : Nat} {o : Obj} (h : w.heap[g]? = some o) (o' : Obj) : (w.alloc o').heap[g]? = some o := blk_alloc h o'
theorem lA {w W : World} (h : Below w.heap.size w W) (o : Obj) : Below w.heap.size w (W.alloc o) := below_alloc h o
theorem lN {B : Nat} {w W : World} (h : Below B w W) (n : Nat) : Below B w (W.drewN n) := pw_below_drewN h n
theorem lD {base : Nat} {w W : World} (h : Below base w W) : Below base w W.drew := below_drew1 h
theorem lS {w W : World} {g j : Nat} {v : Value} (h : Below w.heap.size w W) (hg : w.heap.size ≤ g) : Below w.heap.size w (W.setCell ⟨g, j, none⟩ v) := below_set h hg
theorem cB {w W : World} (h : Below w.heap.size w W) {a : Addr} {v : Value} (hc : w.cell? a = some v) : W.cell? a = some v := pw_cell_below h hc
theorem lB {w W : World} (h : Below w.heap.size w W := by repeat (first | (with_reducible first | exact HB.out | apply lA | apply lN | apply lD | refine lS ?_ (Aside0.out (by assumption))) | exact HB.out)) : Below w.heap.size w W := h
theorem lG {w W : World} {g : Nat} (hg : g = W.heap.size) (h : Below w.heap.size w W := by repeat (first | (with_reducible first | exact HB.out | apply lA | apply lN | apply lD | refine lS ?_ (Aside0.out (by assumption))) | exact HB.out)) : w.heap.size ≤ g := by
  rw [hg]; exact below_size h
class On (w W : World) : Prop where
  at_ : ∀ {g : Nat} {o : Obj}, w.heap[g]? = some o → W.heap[g]? = some o
instance (w : World) : On w w := ⟨fun h => h⟩
instance (w W : World) (n : Nat) [h : On w W] : On w (W.drewN n) := ⟨fun k => kN (h.at_ k) n⟩
instance (w W : World) [h : On w W] : On w W.drew := ⟨fun k => kD (h.at_ k)⟩
instance (w W : World) (o : Obj) [h : On w W] : On w (W.alloc o) := ⟨fun k => kA (h.at_ k) o⟩
theorem kX {w W : World} [h : On w W] {g : Nat} {o : Obj} (k : w.heap[g]? = some o) : W.heap[g]? = some o := h.at_ k
end Go.Proofs.YtmnhcbaocoofoaaDoor.P
namespace Go.Proofs
open Go.Shelf
def Tryd.lays122_ren : Go.Shelf.Ren := ⟨fun | 122 => 68 | 215 => 75 | n => n, fun | 3 => 3 | 4 => 4 | n => n, fun | n => n⟩
theorem Tryd.lays122 : Go.Proofs.Lays.n122 Tryd.prog Tryd.lays122_ren := {
  mixed := by kernel_rfl
  f122 := Tryd.func68.trans (congrArg some (by kernel_rfl))
  f215 := Tryd.func75.trans (congrArg some (by kernel_rfl))
  t3 := Tryd.underlying3
  a3 := Tryd.isAgg3
  z3 := Tryd.sizeOf3
  v3 := Tryd.zeroValue3
  t4 := Tryd.underlying4
  a4 := Tryd.isAgg4
  z4 := Tryd.sizeOf4
  v4 := Tryd.zeroValue4 }
open Go.RowKit in
theorem Tryd.cmp_Compare_int (x y : Int) (w : World) :
    Calls Tryd.prog 68 #[.int .i64 x, .int .i64 y] w fun e w' => e = .returned (.int .i64 (Lib.compareInt x y)) ∧ w' = w := Any.cmp_Compare_int Tryd.lays122 x y w
def Tryd.lays189_ren : Go.Shelf.Ren := ⟨fun | 189 => 71 | 125 => 77 | 257 => 76 | 128 => 88 | 129 => 89 | 294 => 79 | 295 => 80 | 296 => 81 | 297 => 82 | 298 => 83 | 299 => 84 | 216 => 85 | 300 => 86 | 301 => 87 | 328 => 92 | 329 => 93 | 330 => 94 | 331 => 95 | 332 => 96 | 215 => 75 | 343 => 98 | n => n, fun | 28 => 43 | 3 => 3 | 46 => 66 | 0 => 0 | 51 => 127 | 53 => 129 | 4 => 4 | 183 => 120 | 182 => 119 | 131 => 98 | 5 => 5 | 9 => 9 | 218 => 132 | 222 => 136 | 228 => 138 | 229 => 139 | n => n, fun | n => n⟩
theorem Tryd.lays189 : Go.Proofs.Lays.n189 Tryd.prog Tryd.lays189_ren := {
  mixed := by kernel_rfl
  f125 := Tryd.func77.trans (congrArg some (by kernel_rfl))
  f128 := Tryd.func88.trans (congrArg some (by kernel_rfl))
  f129 := Tryd.func89.trans (congrArg some (by kernel_rfl))
  f189 := Tryd.func71.trans (congrArg some (by kernel_rfl))
  f215 := Tryd.func75.trans (congrArg some (by kernel_rfl))
  f216 := Tryd.func85.trans (congrArg some (by kernel_rfl))
  f257 := Tryd.func76.trans (congrArg some (by kernel_rfl))
  f294 := Tryd.func79.trans (congrArg some (by kernel_rfl))
  f295 := Tryd.func80.trans (congrArg some (by kernel_rfl))
  f296 := Tryd.func81.trans (congrArg some (by kernel_rfl))
  f297 := Tryd.func82.trans (congrArg some (by kernel_rfl))
  f298 := Tryd.func83.trans (congrArg some (by kernel_rfl))
  f299 := Tryd.func84.trans (congrArg some (by kernel_rfl))
  f300 := Tryd.func86.trans (congrArg some (by kernel_rfl))
  f301 := Tryd.func87.trans (congrArg some (by kernel_rfl))
  f328 := Tryd.func92.trans (congrArg some (by kernel_rfl))
  f329 := Tryd.func93.trans (congrArg some (by kernel_rfl))
  f330 := Tryd.func94.trans (congrArg some (by kernel_rfl))
  f331 := Tryd.func95.trans (congrArg some (by kernel_rfl))
  f332 := Tryd.func96.trans (congrArg some (by kernel_rfl))
  f343 := Tryd.func98.trans (congrArg some (by kernel_rfl))
  t0 := Tryd.underlying0
  a0 := Tryd.isAgg0
  z0 := Tryd.sizeOf0
  v0 := Tryd.zeroValue0
  t3 := Tryd.underlying3
  a3 := Tryd.isAgg3
  z3 := Tryd.sizeOf3
  v3 := Tryd.zeroValue3
  t4 := Tryd.underlying4
  a4 := Tryd.isAgg4
  z4 := Tryd.sizeOf4
  v4 := Tryd.zeroValue4
  t5 := Tryd.underlying5
  a5 := Tryd.isAgg5
  z5 := Tryd.sizeOf5
  v5 := Tryd.zeroValue5
  t9 := Tryd.underlying9
  a9 := Tryd.isAgg9
  z9 := Tryd.sizeOf9
  v9 := Tryd.zeroValue9
  t28 := Tryd.underlying43
  a28 := Tryd.isAgg43
  z28 := Tryd.sizeOf43
  v28 := Tryd.zeroValue43
  t46 := Tryd.underlying66
  a46 := Tryd.isAgg66
  z46 := Tryd.sizeOf66
  v46 := Tryd.zeroValue66
  t51 := Tryd.underlying127
  a51 := Tryd.isAgg127
  z51 := Tryd.sizeOf127
  v51 := Tryd.zeroValue127
  t53 := Tryd.underlying129
  a53 := Tryd.isAgg129
  z53 := Tryd.sizeOf129
  v53 := Tryd.zeroValue129
  t131 := Tryd.underlying98
  a131 := Tryd.isAgg98
  z131 := Tryd.sizeOf98
  v131 := Tryd.zeroValue98
  t182 := Tryd.underlying119
  a182 := Tryd.isAgg119
  z182 := Tryd.sizeOf119
  v182 := Tryd.zeroValue119
  t183 := Tryd.underlying120
  a183 := Tryd.isAgg120
  z183 := Tryd.sizeOf120
  v183 := Tryd.zeroValue120
  t218 := Tryd.underlying132
  a218 := Tryd.isAgg132
  z218 := Tryd.sizeOf132
  v218 := Tryd.zeroValue132
  t222 := Tryd.underlying136
  a222 := Tryd.isAgg136
  z222 := Tryd.sizeOf136
  v222 := Tryd.zeroValue136
  t228 := Tryd.underlying138
  a228 := Tryd.isAgg138
  z228 := Tryd.sizeOf138
  v228 := Tryd.zeroValue138
  t229 := Tryd.underlying139
  a229 := Tryd.isAgg139
  z229 := Tryd.sizeOf139
  v229 := Tryd.zeroValue139 }
open Go.Sort Go.RowKit in
theorem Tryd.slices_Sort_int (blk off cap : Nat) (zs : List Int) (w : World) (hH : Holds (Value.int .i64) w blk off zs.toArray) (hblk : blk < w.heap.size) (hsz : zs.length < 4611686018427387904) :
    Calls Tryd.prog 71 #[.slice (some ⟨blk, off, none⟩) zs.length cap] w fun e w' =>
      e = .returned (.tuple #[]) ∧ ∃ n os, w' = grow (putRow (Value.int .i64) (Sort.ahead w n) blk off (zs.mergeSort fun x y => decide (x ≤ y)).toArray) os := Any.slices_Sort_int Tryd.lays189 blk off cap zs w hH hblk hsz
def Tryd.laysNm220_ren : Go.Shelf.Ren := ⟨fun | 20 => 72 | n => n, fun | 22 => 43 | 3 => 3 | 4 => 4 | 0 => 0 | n => n, fun | n => n⟩
theorem Tryd.laysNm220 : Go.Proofs.Lays2.n20 Tryd.prog Tryd.laysNm220_ren := {
  mixed := by kernel_rfl
  f20 := Tryd.func72.trans (congrArg some (by kernel_rfl))
  t0 := Tryd.underlying0
  a0 := Tryd.isAgg0
  z0 := Tryd.sizeOf0
  v0 := Tryd.zeroValue0
  t3 := Tryd.underlying3
  a3 := Tryd.isAgg3
  z3 := Tryd.sizeOf3
  v3 := Tryd.zeroValue3
  t4 := Tryd.underlying4
  a4 := Tryd.isAgg4
  z4 := Tryd.sizeOf4
  v4 := Tryd.zeroValue4
  t22 := Tryd.underlying43
  a22 := Tryd.isAgg43
  z22 := Tryd.sizeOf43
  v22 := Tryd.zeroValue43
  i3 := by kernel_rfl }
open Go.RowKit Go.Lib Go.Sort in
theorem Tryd.slices_Compact_int (blk off cap : Nat) (zs : List Int) (w : World) (hH : Holds (Value.int .i64) w blk off zs.toArray) (hsz : zs.length ≤ 9223372036854775807) (hcap : zs.length ≤ cap) :
    Calls Tryd.prog 72 #[.slice (some ⟨blk, off, none⟩) zs.length cap] w fun e w' => e = .returned (.slice (some ⟨blk, off, none⟩) (Lib.compact zs).length cap) ∧ ∃ q, w' = putRow (Value.int .i64) (Sort.ahead w q) blk off (Lib.compact zs ++ List.replicate (zs.length - (Lib.compact zs).length) 0).toArray := Any.slices_Compact_int Tryd.laysNm220 blk off cap zs w hH hsz hcap
open Go.RowKit Go.Lib Go.Sort in
theorem Tryd.slices_Compact_int_empty (a : Option Addr) (cap : Nat) (w : World) :
    Calls Tryd.prog 72 #[.slice a 0 cap] w fun e w' => e = .returned (.slice a 0 cap) ∧ w' = w := Any.slices_Compact_int_empty Tryd.laysNm220 a cap w
open Go.RowKit Go.Sort in
theorem Tryd.slices_Sort_int_none (p : Option Addr) (cap : Nat) (w : World) :
    Calls Tryd.prog 71 #[.slice p 0 cap] w fun e w' => e = .returned (.tuple #[]) ∧ w' = w := Any.slices_Sort_int_none Tryd.lays189 p cap w
def Tryd.cloneP_ren : Go.Shelf.Ren := ⟨fun | 41 => 73 | n => n, fun | 22 => 42 | 23 => 50 | 4 => 4 | n => n, fun | n => n⟩
theorem Tryd.cloneP : Go.Proofs.SlLaysE0.n41 Tryd.prog Tryd.cloneP_ren := {
  mixed := by kernel_rfl
  f41 := ⟨Tryd.f73.name, by decide, Tryd.func73.trans (congrArg some (by kernel_rfl))⟩
  t4 := Tryd.underlying4
  a4 := Tryd.isAgg4
  z4 := Tryd.sizeOf4
  v4 := Tryd.zeroValue4
  t22 := Tryd.underlying42
  a22 := Tryd.isAgg42
  z22 := Tryd.sizeOf42
  v22 := Tryd.zeroValue42 }
end Go.Proofs
namespace Go.Proofs.YtmnhcbaocoofoaaDoor.P
open Go.RowKit YtmnhcbaocoofoaaDoorW.PrintWords YtmnhcbaocoofoaaDoorW.PrintLast YtmnhcbaocoofoaaDoorW.PrintMore
section
variable {P : Program} {ops : Array Oper} {Q : Exit → Act → World → Prop} {md : Region.Mode} {S : World → Prop} {ds : List Nat}
theorem pu {T : Bool × List (List Nat × List Nat)} {oi : Oper} {v : Value} {fuel : Nat} {l : Array Bool} {a a' : Act} {w : World} (i N : Nat) (l' : Array Bool) (hT : Aside0 (rtab md ops = T))
    (h : wpAnyLast P md ops Q S ds fuel l' a' w)
    (hi : ops[i]? = some oi := by rfl) (hN : oi.dst = some N := by rfl) (hc : anyT T l.toList l'.toList i = true := by kernel_rfl)
    (hw : Region.wanted oi (yielded ops a.tmps) = true := by rfl) (hy : ∀ w, (execOp a.eval oi).run P w = .ok (.value v) w := by intro w'; go_simp; with_reducible rfl)
    (hQ : ∀ c a w, Q (.panic c) (a.put oi.dst v) w → Q (.panic c) a w := by exact fun _ _ _ h => h)
    (ha : a.put (some N) v = a' := by simp only [Act.put, sA, sB, sC, i64_w, i32_w]; rfl) : wpAnyLast P md ops Q S ds (fuel + 1) l a w :=
  pure_ l' hi hN (any_of hT.out hc) hQ (Or.inl ⟨hw, hy⟩) ha h
theorem po {T : Bool × List (List Nat × List Nat)} {oi : Oper} {fuel : Nat} {l : Array Bool} {a a' : Act} {w : World} (i N : Nat) (l' : Array Bool) (hT : Aside0 (rtab md ops = T))
    (h : wpAnyLast P md ops Q S ds fuel l' a' w)
    (hi : ops[i]? = some oi := by rfl) (hN : oi.dst = some N := by rfl) (hc : anyT T l.toList l'.toList i = true := by kernel_rfl)
    (hw : Region.wanted oi (yielded ops a.tmps) = false := by rfl)
    (hQ : ∀ c a w, Q (.panic c) (a.put oi.dst undef) w → Q (.panic c) a w := by exact fun _ _ _ h => h)
    (ha : a.put (some N) undef = a' := by simp only [Act.put, sA, sB, sC, i64_w, i32_w]; rfl) : wpAnyLast P md ops Q S ds (fuel + 1) l a w :=
  pure_ l' hi hN (any_of hT.out hc) hQ (Or.inr ⟨hw, rfl⟩) ha h
theorem ta {T : Bool × List (List Nat × List Nat)} {B : List Nat} {oi : Oper} {v : Value} {fuel : Nat} {l : Array Bool} {a a' : Act} {w : World} (i N : Nat) (l' : Array Bool) (hT : Aside0 (rtab md ops = T)) (hB : Aside0 (waitsOk T.2 B = true)) (hS : S w)
    (h : wpAnyLast P md ops Q S ds fuel l' a' w)
    (hi : ops[i]? = some oi := by rfl) (hN : oi.dst = some N := by rfl) (hc : takeW T B ds l.toList l'.toList i = true := by kernel_rfl)
    (hw : Region.wanted oi (yielded ops a.tmps) = true := by rfl) (hy : ∀ w, S w → (execOp a.eval oi).run P w = .ok (.value v) w := by intro w' hs_; repeat (obtain ⟨_, hs_⟩ := hs_); go_simp; with_reducible rfl)
    (hQ : ∀ c a w, Q (.panic c) (a.put oi.dst v) w → Q (.panic c) a w := by exact fun _ _ _ h => h)
    (ha : a.put (some N) v = a' := by simp only [Act.put, sA, sB, sC, i64_w, i32_w]; rfl) : wpAnyLast P md ops Q S ds (fuel + 1) l a w :=
  take_ l' hi hN (take_ofW hT.out hB.out hc) hQ (Or.inl ⟨hw, hy⟩) hS ha h
theorem nm {fuel : Nat} {l : Array Bool} {a a' : Act} {v : Value} {w : World} (N : Nat) (h : wpAnyLast P md ops Q S ds fuel l a' w) (ha : a.put (some N) v = a' := by simp only [Act.put, sA, sB, sC, i64_w, i32_w]; rfl) :
    wpAnyLast P md ops Q S ds fuel l (a.put (some N) v) w := norm_ ha h
end
theorem bxe {P : Program} {ops : Array Oper} {Q : Exit → Act → World → Prop} {rest : List Oper} {a : Act} {o : Oper} {W : World} (N : Tmp) (cs : Array Value) (t : TypeId)
    (h : ∀ g, g = W.heap.size → ∀ w1, w1.heap[g]? = some (.cells cs t (0, 0)) → Below W.heap.size W w1 → wpList P ops Q rest (a.put o.dst (.pointer (some ⟨g, 0, none⟩))) w1)
    (hgd : o.guard = none := by rfl) (hd : o.dst = some N := by rfl)
    (hrun : (execOp a.eval o).run P W = .ok (.value (.pointer (some ⟨W.heap.size, 0, none⟩))) (W.alloc (.cells cs t (0, 0))) := by first | (go_simp; done) | (go_simp; rfl)) : wpList P ops Q (o :: rest) a W := box_event hgd hd hrun h
theorem en {p q : Prop} (h1 : p := by first | rfl | (simp [errW_none, errW_some] <;> rfl) | (simp [*, errW_none, errW_some] <;> rfl)) (h2 : q := by exact lB) : p ∧ q := ⟨h1, h2⟩
end Go.Proofs.YtmnhcbaocoofoaaDoor.P
namespace Go.Proofs.YtmnhcbaocoofoaaDoor.P
open Go.RowKit YtmnhcbaocoofoaaDoorW.PrintWords YtmnhcbaocoofoaaDoorW.PrintLast YtmnhcbaocoofoaaDoorW.PrintMore
attribute [local go_sem] max2_int min2_int max_two min_two max_three min_three max_four min_four



mutual
def R4_Refusal.l0 : Nat → Int → List (S40) → List Int → List (S34) → Int → Int → Option (Bool)
 | 0, _, _, _, _, _, _ => none
 | k + 1, x0, x1, x2, x3, x9, x10 => if x10 < (x3.length : Int) then (if 0 ≤ x10 then (if ((rd_T34 x3 x10).f0) < 0 then (some false) else (if ((rd_T34 x3 x10).f0) ≥ ((rd_T34 x3 x10).f1) then (some false) else (if ((rd_T34 x3 x10).f1) > 1048576 then (some false) else (if x10 > 0 then (if 0 ≤ (wrap64 (x10 - 1)) then (if (wrap64 (x10 - 1)) < (x3.length : Int) then (if ((rd_T34 x3 (wrap64 (x10 - 1))).f1) > ((rd_T34 x3 x10).f0) then (some false) else (R4_Refusal.l0 k x0 x1 x2 x3 (wrap64 (x9 + (wrap64 (x0 * (wrap64 (((rd_T34 x3 x10).f1) - ((rd_T34 x3 x10).f0))))))) (wrap64 (x10 + 1)))) else (none)) else (none)) else (R4_Refusal.l0 k x0 x1 x2 x3 (wrap64 (x9 + (wrap64 (x0 * (wrap64 (((rd_T34 x3 x10).f1) - ((rd_T34 x3 x10).f0))))))) (wrap64 (x10 + 1))))))) else (none)) else (R4_Refusal.l1 k x1 x2 x3 x9 0 0)
def R4_Refusal.l1 : Nat → List (S40) → List Int → List (S34) → Int → Int → Int → Option (Bool)
 | 0, _, _, _, _, _, _ => none
 | k + 1, x1, x2, x3, x9, x13, x14 => if x14 < (x2.length : Int) then (if 0 ≤ x14 then (if (rd x2 x14) < 0 then (R4_Refusal.j2 k x1 x2 x3 x9 x13 x14 true) else (if (rd x2 x14) ≥ (x1.length : Int) then (R4_Refusal.j2 k x1 x2 x3 x9 x13 x14 true) else (if x14 > 0 then (if 0 ≤ (wrap64 (x14 - 1)) then (if (wrap64 (x14 - 1)) < (x2.length : Int) then (R4_Refusal.j2 k x1 x2 x3 x9 x13 x14 (decide ((rd x2 (wrap64 (x14 - 1))) ≥ (rd x2 x14)))) else (none)) else (none)) else (R4_Refusal.j2 k x1 x2 x3 x9 x13 x14 false)))) else (none)) else (some (decide (x13 > x9)))
def R4_Refusal.j2 : Nat → List (S40) → List Int → List (S34) → Int → Int → Int → Bool → Option (Bool)
 | 0, _, _, _, _, _, _, _ => none
 | k + 1, x1, x2, x3, x9, x13, x14, x103 => if x103 = true then (some false) else (if 0 ≤ x14 then (if x14 < (x2.length : Int) then (if 0 ≤ (rd x2 x14) then (if (rd x2 x14) < (x1.length : Int) then (R4_Refusal.l2 k x1 x2 x3 (wrap64 ((wrap64 (x9 + ((rd_T40 x1 (rd x2 x14)).f1))) - ((rd_T40 x1 (rd x2 x14)).f0))) (wrap64 (x13 + ((rd_T40 x1 (rd x2 x14)).f2))) x14 0 ((rd_T40 x1 (rd x2 x14)).f0) ((rd_T40 x1 (rd x2 x14)).f1) ((rd_T40 x1 (rd x2 x14)).f2)) else (none)) else (none)) else (none)) else (none))
def R4_Refusal.l2 : Nat → List (S40) → List Int → List (S34) → Int → Int → Int → Int → Int → Int → Int → Option (Bool)
 | 0, _, _, _, _, _, _, _, _, _, _ => none
 | k + 1, x1, x2, x3, x9, x13, x14, x16, x427000, x427001, x427002 => if x16 < (x3.length : Int) then (if 0 ≤ x16 then ((R4_overlap.f x427000 x427001 ((rd_T34 x3 x16).f0) ((rd_T34 x3 x16).f1)).bind fun t429 => (R4_Refusal.l2 k x1 x2 x3 (wrap64 (x9 - t429)) x13 x14 (wrap64 (x16 + 1)) x427000 x427001 x427002)) else (none)) else (R4_Refusal.l1 k x1 x2 x3 x9 x13 (wrap64 (x14 + 1)))
end
def R4_Refusal.f (k : Nat) (a0 : Int) (l1 : List (S40)) (l2 : List Int) (l3 : List (S34)) : Option (Bool) := if (l3.length : Int) > 4096 then (some false) else (R4_Refusal.l0 k a0 l1 l2 l3 0 0)
theorem R4_Refusal.mono_l : ∀ k, (∀ y0 y1 y2 y3 y4 y5, LeO (R4_Refusal.l0 k y0 y1 y2 y3 y4 y5) (R4_Refusal.l0 (k + 1) y0 y1 y2 y3 y4 y5)) ∧ (∀ y0 y1 y2 y3 y4 y5, LeO (R4_Refusal.l1 k y0 y1 y2 y3 y4 y5) (R4_Refusal.l1 (k + 1) y0 y1 y2 y3 y4 y5)) ∧ (∀ y0 y1 y2 y3 y4 y5 y6, LeO (R4_Refusal.j2 k y0 y1 y2 y3 y4 y5 y6) (R4_Refusal.j2 (k + 1) y0 y1 y2 y3 y4 y5 y6)) ∧ (∀ y0 y1 y2 y3 y4 y5 y6 y7 y8 y9, LeO (R4_Refusal.l2 k y0 y1 y2 y3 y4 y5 y6 y7 y8 y9) (R4_Refusal.l2 (k + 1) y0 y1 y2 y3 y4 y5 y6 y7 y8 y9))
 | 0 => ⟨fun _ _ _ _ _ _ r h => by simp [R4_Refusal.l0] at h, fun _ _ _ _ _ _ r h => by simp [R4_Refusal.l1] at h, fun _ _ _ _ _ _ _ r h => by simp [R4_Refusal.j2] at h, fun _ _ _ _ _ _ _ _ _ _ r h => by simp [R4_Refusal.l2] at h⟩
 | k + 1 => by
  obtain ⟨ih0, ih1, ih2, ih3⟩ := R4_Refusal.mono_l k
  refine ⟨?_, ?_, ?_, ?_⟩
  ·intro y0 y1 y2 y3 y4 y5
   unfold R4_Refusal.l0
   repeat' first
   | (with_reducible exact ih0 _ _ _ _ _ _)
   | (with_reducible exact ih1 _ _ _ _ _ _)
   | (with_reducible exact ih2 _ _ _ _ _ _ _)
   | (with_reducible exact ih3 _ _ _ _ _ _ _ _ _ _)
   | (with_reducible first | exact LeO.refl _ | exact LeO.none _ | refine LeO.ite ?_ ?_ | refine LeO.bind ?_ (fun _ => ?_))
   | exact ih0 _ _ _ _ _ _
   | exact ih1 _ _ _ _ _ _
   | exact ih2 _ _ _ _ _ _ _
   | exact ih3 _ _ _ _ _ _ _ _ _ _
   | exact LeO.none _ | refine LeO.ite ?_ ?_ | refine LeO.bind ?_ (fun _ => ?_)
  ·intro y0 y1 y2 y3 y4 y5
   unfold R4_Refusal.l1
   repeat' first
   | (with_reducible exact ih0 _ _ _ _ _ _)
   | (with_reducible exact ih1 _ _ _ _ _ _)
   | (with_reducible exact ih2 _ _ _ _ _ _ _)
   | (with_reducible exact ih3 _ _ _ _ _ _ _ _ _ _)
   | (with_reducible first | exact LeO.refl _ | exact LeO.none _ | refine LeO.ite ?_ ?_ | refine LeO.bind ?_ (fun _ => ?_))
   | exact ih0 _ _ _ _ _ _
   | exact ih1 _ _ _ _ _ _
   | exact ih2 _ _ _ _ _ _ _
   | exact ih3 _ _ _ _ _ _ _ _ _ _
   | exact LeO.none _ | refine LeO.ite ?_ ?_ | refine LeO.bind ?_ (fun _ => ?_)
  ·intro y0 y1 y2 y3 y4 y5 y6
   unfold R4_Refusal.j2
   repeat' first
   | (with_reducible exact ih0 _ _ _ _ _ _)
   | (with_reducible exact ih1 _ _ _ _ _ _)
   | (with_reducible exact ih2 _ _ _ _ _ _ _)
   | (with_reducible exact ih3 _ _ _ _ _ _ _ _ _ _)
   | (with_reducible first | exact LeO.refl _ | exact LeO.none _ | refine LeO.ite ?_ ?_ | refine LeO.bind ?_ (fun _ => ?_))
   | exact ih0 _ _ _ _ _ _
   | exact ih1 _ _ _ _ _ _
   | exact ih2 _ _ _ _ _ _ _
   | exact ih3 _ _ _ _ _ _ _ _ _ _
   | exact LeO.none _ | refine LeO.ite ?_ ?_ | refine LeO.bind ?_ (fun _ => ?_)
  ·intro y0 y1 y2 y3 y4 y5 y6 y7 y8 y9
   unfold R4_Refusal.l2
   repeat' first
   | (with_reducible exact ih0 _ _ _ _ _ _)
   | (with_reducible exact ih1 _ _ _ _ _ _)
   | (with_reducible exact ih2 _ _ _ _ _ _ _)
   | (with_reducible exact ih3 _ _ _ _ _ _ _ _ _ _)
   | (with_reducible first | exact LeO.refl _ | exact LeO.none _ | refine LeO.ite ?_ ?_ | refine LeO.bind ?_ (fun _ => ?_))
   | exact ih0 _ _ _ _ _ _
   | exact ih1 _ _ _ _ _ _
   | exact ih2 _ _ _ _ _ _ _
   | exact ih3 _ _ _ _ _ _ _ _ _ _
   | exact LeO.none _ | refine LeO.ite ?_ ?_ | refine LeO.bind ?_ (fun _ => ?_)
theorem R4_Refusal.mono : ∀ a0 a1 a2 a3 k, LeO (R4_Refusal.f k a0 a1 a2 a3) (R4_Refusal.f (k + 1) a0 a1 a2 a3) := by
 intro a0 a1 a2 a3 k
 obtain ⟨ih0, ih1, ih2, ih3⟩ := R4_Refusal.mono_l k
 unfold R4_Refusal.f
 repeat' first
   | (with_reducible exact ih0 _ _ _ _ _ _)
   | (with_reducible exact ih1 _ _ _ _ _ _)
   | (with_reducible exact ih2 _ _ _ _ _ _ _)
   | (with_reducible exact ih3 _ _ _ _ _ _ _ _ _ _)
   | (with_reducible first | exact LeO.refl _ | exact LeO.none _ | refine LeO.ite ?_ ?_ | refine LeO.bind ?_ (fun _ => ?_))
   | exact ih0 _ _ _ _ _ _
   | exact ih1 _ _ _ _ _ _
   | exact ih2 _ _ _ _ _ _ _
   | exact ih3 _ _ _ _ _ _ _ _ _ _
   | exact LeO.none _ | refine LeO.ite ?_ ?_ | refine LeO.bind ?_ (fun _ => ?_)
def R4_Refusal.T7 : Bool × List (List Nat × List Nat) := (true, [([], []), ([], []), ([0, 1], [0, 1]), ([2], [2]), ([3], [3]), ([], []), ([], []), ([5, 6], [5, 6]), ([7], [7]), ([8], [8]), ([4, 0, 1, 2, 3, 4], [4]), ([9, 10, 0, 1, 2, 3, 4, 5, 6, 7, 8, 9, 10], [9])])
def R4_Refusal.B7 : List Nat := [0, 0, 3, 7, 15, 0, 0, 96, 224, 480, 31, 2047]
theorem R4_Refusal.tab7 : rtab .any (opsOf Tryd.f36 7) = R4_Refusal.T7 := by kernel_rfl
theorem R4_Refusal.bits7 : waitsOk R4_Refusal.T7.2 R4_Refusal.B7 = true := by kernel_rfl
def R4_Refusal.T15 : Bool × List (List Nat × List Nat) := (true, [([], []), ([], []), ([0, 1], [0, 1]), ([2], [2]), ([3], [3]), ([4], [4]), ([5], [5]), ([5], [5]), ([6, 7, 5], [5, 6, 7]), ([8, 5], [5, 8]), ([5], [5]), ([10, 5], [5, 10]), ([9, 11, 5], [5, 9, 11]), ([5, 12], [5, 12]), ([13, 5], [13]), ([14], [14]), ([15, 14], [14, 15]), ([16, 14, 14], [14, 16]), ([17], [17]), ([17], [17]), ([19, 17], [17, 19]), ([18, 20, 17], [17, 18, 20]), ([21, 17], [17, 21]), ([17], [17]), ([17], [17]), ([23, 24, 17], [17, 23, 24]), ([25, 17], [17, 25]), ([22, 26, 17], [17, 22, 26]), ([17, 27, 14], [14, 17, 27]), ([14, 28], [14, 28])])
def R4_Refusal.B15 : List Nat := [0, 0, 3, 7, 15, 31, 63, 63, 255, 511, 63, 1087, 4095, 8191, 16383, 32767, 65535, 131071, 262143, 262143, 786431, 2097151, 4194303, 262143, 262143, 25427967, 58982399, 134217727, 268435455, 536870911]
theorem R4_Refusal.tab15 : rtab .any (opsOf Tryd.f36 15) = R4_Refusal.T15 := by kernel_rfl
theorem R4_Refusal.bits15 : waitsOk R4_Refusal.T15.2 R4_Refusal.B15 = true := by kernel_rfl
def R4_Refusal.T23 : Bool × List (List Nat × List Nat) := (true, [([], []), ([], []), ([1], [1]), ([], []), ([3], [3]), ([], []), ([], []), ([5, 6], [5, 6]), ([7], [7]), ([8], [8]), ([], []), ([], []), ([10, 11], [10, 11]), ([12], [12]), ([13], [13]), ([2, 4, 9, 14], [2, 4, 9, 14]), ([0, 15], [0, 15]), ([16, 15, 0, 1, 2, 3, 4, 5, 6, 7, 8, 9, 10, 11, 12, 13, 14, 15, 16], [0, 16])])
def R4_Refusal.B23 : List Nat := [0, 0, 2, 0, 8, 0, 0, 96, 224, 480, 0, 0, 3072, 7168, 15360, 32766, 65535, 131071]
theorem R4_Refusal.tab23 : rtab .any (opsOf Tryd.f36 23) = R4_Refusal.T23 := by kernel_rfl
theorem R4_Refusal.bits23 : waitsOk R4_Refusal.T23.2 R4_Refusal.B23 = true := by kernel_rfl
set_option maxHeartbeats 8000000 in
set_option maxRecDepth 100000 in
theorem R4_Refusal.calls (k : Nat) (a0 : Int) (A1 : Option Addr) (c1 : Nat) (l1 : List (S40)) (A2 : Option Addr) (c2 : Nat) (l2 : List Int) (A3 : Option Addr) (c3 : Nat) (l3 : List (S34)) (r : Bool) (w : World) (hr1 : Kd.C k40 w A1 l1.length l1) (hc1 : l1.length ≤ c1) (hr2 : Kd.C (Kd.int .i64) w A2 l2.length l2) (hc2 : l2.length ≤ c2) (hr3 : Kd.C k34 w A3 l3.length l3) (hc3 : l3.length ≤ c3) (h : R4_Refusal.f k a0 l1 l2 l3 = some r) :
  Calls Tryd.prog 36 #[.int .i64 a0, .slice A1 l1.length c1, .slice A2 l2.length c2, .slice A3 l3.length c3] w fun e w' => e = .returned (.bool r) ∧ Below w.heap.size w w' := by
 have hu40 := Tryd.underlying40
 have HR1 := Aside0.mk hr1
 have HC1 := Aside0.mk hc1
 clear hr1 hc1
 have HR2 := Aside0.mk hr2
 have HC2 := Aside0.mk hc2
 clear hr2 hc2
 have HR3 := Aside0.mk hr3
 have HC3 := Aside0.mk hc3
 clear hr3 hc3
 have HB := Aside0.mk (Below.refl w.heap.size w)
 have H : (if (l3.length : Int) > 4096 then (some false) else (R4_Refusal.l0 k a0 l1 l2 l3 0 0)) = some r := h
 clear h
 by_cases c5 : (l3.length : Int) > 4096
 ·rw [if_pos c5] at H
  have c5b0 : decide (4096 < (l3.length : Int)) = true := decide_eq_true c5
  have c5b1 : decide (4096 < l3.length) = true := decide_eq_true (by omega)
  clear c5
  obtain rfl := Option.some.inj H
  go_enter Tryd.func36, Tryd.ntmps36
  go_wp2
  go_ret
  exact en
 rw [if_neg c5] at H
 have c5b0 : decide (4096 < (l3.length : Int)) = false := decide_eq_false c5
 have c5b1 : decide (4096 < l3.length) = false := decide_eq_false (by omega)
 clear c5
 have H' := Aside0.mk H
 clear H
 go_enter Tryd.func36, Tryd.ntmps36
 go_wp2
 go_loopg [9, 10] k (fun kq v9 v10 w' => ∃ (x9_1 : Int) (x10_1 : Int), v9 = .int .i64 x9_1 ∧ v10 = .int .i64 x10_1 ∧ Aside0 (R4_Refusal.l0 kq a0 l1 l2 l3 x9_1 x10_1 = some r) ∧ Aside0 (kq ≤ k) ∧ Aside0 (Below w.heap.size w w'))
 case atStart => exact ⟨(0), (0), (by first | rfl | (simp; done) | (simp [*]; done)), (by first | rfl | (simp; done) | (simp [*]; done)), H', ⟨Nat.le_refl _⟩, ⟨by repeat (first | (with_reducible first | exact HB.out | apply lA | apply lN | apply lD) | exact HB.out)⟩⟩
 case round =>
  clear H'
  try clear c1
  try clear c2
  try clear p2
  try clear c3
  try clear c5
  try clear c5b0
  try clear c5b1
  obtain ⟨x9_1, x10_1, rfl, rfl, HA, HK1, HB⟩ := hrel
  cases gk with
  | zero => exact absurd HA.out (by simp [R4_Refusal.l0])
  | succ k1 =>
   have H := HA.out
   clear HA
   simp only [R4_Refusal.l0] at H
   by_cases c6 : x10_1 < (l3.length : Int)
   ·rw [if_pos c6] at H
    have c6b0 : decide (x10_1 < (l3.length : Int)) = true := decide_eq_true c6
    clear c6
    by_cases c7 : 0 ≤ x10_1
    ·rw [if_pos c7] at H
     have c7b0 : decide (0 ≤ x10_1) = true := decide_eq_true c7
     clear c7
     by_cases c8 : ((rd_T34 l3 x10_1).f0) < 0
     ·rw [if_pos c8] at H
      have c8b0 : decide (((rd_T34 l3 x10_1).f0) < 0) = true := decide_eq_true c8
      clear c8
      obtain rfl := Option.some.inj H
      try go_wp2
      replace HB := Aside0.mk (lD HB.out)
      have p417 : 0 ≤ (x10_1 : Int) := of_decide_eq_true (by first | (with_reducible assumption) | assumption)
      have q417 : x10_1 < (l3.length : Int) := of_decide_eq_true (by first | (with_reducible assumption) | assumption)
      obtain ⟨ad417, e417, hx417_0, hx417_1⟩ := at_T34 HR3.out x10_1 p417 q417
      have hw417_1 := hx417_1
      have hw417_0 := hx417_0
      cases e417
      replace hx417_0 := cB HB.out hx417_0
      replace hx417_1 := cB HB.out hx417_1
      replace p417 := eq_true p417
      replace q417 := eq_true q417
      have p418 : 0 ≤ (x10_1 : Int) := of_decide_eq_true (by first | (with_reducible assumption) | assumption)
      have q418 : x10_1 < (l3.length : Int) := of_decide_eq_true (by first | (with_reducible assumption) | assumption)
      obtain ⟨ad418, e418, hx418_0, hx418_1⟩ := at_T34 HR3.out x10_1 p418 q418
      have hw418_1 := hx418_1
      have hw418_0 := hx418_0
      obtain rfl : ad417 = ad418 := (by injection e418)
      replace hx418_0 := cB HB.out hx418_0
      replace hx418_1 := cB HB.out hx418_1
      replace p418 := eq_true p418
      replace q418 := eq_true q418
      refine start_ (n := 12) (S := fun w' => w'.cell? (ad417.add ((x10_1).toNat * 2)) = some (.int .i64 ((rd_T34 l3 x10_1).f0)) ∧ w'.cell? ⟨(ad417.add ((x10_1).toNat * 2)).block, (ad417.add ((x10_1).toNat * 2)).off + 1, none⟩ = some (.int .i64 ((rd_T34 l3 x10_1).f1)) ∧ w'.cell? (ad417.add ((x10_1).toNat * 2)) = some (.int .i64 ((rd_T34 l3 x10_1).f0)) ∧ w'.cell? ⟨(ad417.add ((x10_1).toNat * 2)).block, (ad417.add ((x10_1).toNat * 2)).off + 1, none⟩ = some (.int .i64 ((rd_T34 l3 x10_1).f1))) (ds := []) (Bs 0 12) (by kernel_rfl) rfl rfl ⟨(cB HB.out hw417_0), (cB HB.out hw417_1), (cB HB.out hw418_0), (cB HB.out hw418_1)⟩ (fun hHeld => ?_); refine with_tabW R4_Refusal.tab7 R4_Refusal.bits7 (fun HT_ HW_ => ?_)
      generalize wr.drew = w9 at HB hx417_0 hx417_1 hx418_0 hx418_1 hHeld ⊢
      refine pu 0 26 (Bs 1 12) HT_ ?_
      refine pu 1 27 (Bs 2 12) HT_ ?_
      refine pu 2 28 (Bs 3 12) HT_ ?_
      refine pu 3 29 (Bs 4 12) HT_ ?_
      refine pu 5 31 (Br [4,1,1,6]) HT_ ?_
      refine pu 6 32 (Br [4,1,2,5]) HT_ ?_
      refine pu 7 33 (Br [4,1,3,4]) HT_ ?_
      refine pu 8 34 (Br [4,1,4,3]) HT_ ?_
      refine ta 4 30 (Bs 9 12) HT_ HW_ hHeld ?_
      refine pu 10 11 (Br [9,1,1,1]) HT_ ?_
      refine ta 9 35 (Bs 11 12) HT_ HW_ hHeld ?_
      refine pu 11 12 (Bs 12 12) HT_ ?_
      refine done_ (done_of HT_.out (by kernel_rfl)) ?_
      try go_wp2
      go_ret
      exact en
     ·rw [if_neg c8] at H
      have c8b0 : decide (((rd_T34 l3 x10_1).f0) < 0) = false := decide_eq_false c8
      clear c8
      by_cases c10 : ((rd_T34 l3 x10_1).f0) ≥ ((rd_T34 l3 x10_1).f1)
      ·rw [if_pos c10] at H
       have c10b0 : decide (((rd_T34 l3 x10_1).f1) ≤ ((rd_T34 l3 x10_1).f0)) = true := decide_eq_true c10
       clear c10
       obtain rfl := Option.some.inj H
       try go_wp2
       replace HB := Aside0.mk (lD HB.out)
       have p417 : 0 ≤ (x10_1 : Int) := of_decide_eq_true (by first | (with_reducible assumption) | assumption)
       have q417 : x10_1 < (l3.length : Int) := of_decide_eq_true (by first | (with_reducible assumption) | assumption)
       obtain ⟨ad417, e417, hx417_0, hx417_1⟩ := at_T34 HR3.out x10_1 p417 q417
       have hw417_1 := hx417_1
       have hw417_0 := hx417_0
       cases e417
       replace hx417_0 := cB HB.out hx417_0
       replace hx417_1 := cB HB.out hx417_1
       replace p417 := eq_true p417
       replace q417 := eq_true q417
       have p418 : 0 ≤ (x10_1 : Int) := of_decide_eq_true (by first | (with_reducible assumption) | assumption)
       have q418 : x10_1 < (l3.length : Int) := of_decide_eq_true (by first | (with_reducible assumption) | assumption)
       obtain ⟨ad418, e418, hx418_0, hx418_1⟩ := at_T34 HR3.out x10_1 p418 q418
       have hw418_1 := hx418_1
       have hw418_0 := hx418_0
       obtain rfl : ad417 = ad418 := (by injection e418)
       replace hx418_0 := cB HB.out hx418_0
       replace hx418_1 := cB HB.out hx418_1
       replace p418 := eq_true p418
       replace q418 := eq_true q418
       refine start_ (n := 12) (S := fun w' => w'.cell? (ad417.add ((x10_1).toNat * 2)) = some (.int .i64 ((rd_T34 l3 x10_1).f0)) ∧ w'.cell? ⟨(ad417.add ((x10_1).toNat * 2)).block, (ad417.add ((x10_1).toNat * 2)).off + 1, none⟩ = some (.int .i64 ((rd_T34 l3 x10_1).f1)) ∧ w'.cell? (ad417.add ((x10_1).toNat * 2)) = some (.int .i64 ((rd_T34 l3 x10_1).f0)) ∧ w'.cell? ⟨(ad417.add ((x10_1).toNat * 2)).block, (ad417.add ((x10_1).toNat * 2)).off + 1, none⟩ = some (.int .i64 ((rd_T34 l3 x10_1).f1))) (ds := []) (Bs 0 12) (by kernel_rfl) rfl rfl ⟨(cB HB.out hw417_0), (cB HB.out hw417_1), (cB HB.out hw418_0), (cB HB.out hw418_1)⟩ (fun hHeld => ?_); refine with_tabW R4_Refusal.tab7 R4_Refusal.bits7 (fun HT_ HW_ => ?_)
       generalize wr.drew = w11 at HB hx417_0 hx417_1 hx418_0 hx418_1 hHeld ⊢
       refine pu 0 26 (Bs 1 12) HT_ ?_
       refine pu 1 27 (Bs 2 12) HT_ ?_
       refine pu 2 28 (Bs 3 12) HT_ ?_
       refine pu 3 29 (Bs 4 12) HT_ ?_
       refine pu 5 31 (Br [4,1,1,6]) HT_ ?_
       refine pu 6 32 (Br [4,1,2,5]) HT_ ?_
       refine pu 7 33 (Br [4,1,3,4]) HT_ ?_
       refine pu 8 34 (Br [4,1,4,3]) HT_ ?_
       refine ta 4 30 (Bs 9 12) HT_ HW_ hHeld ?_
       refine pu 10 11 (Br [9,1,1,1]) HT_ ?_
       refine ta 9 35 (Bs 11 12) HT_ HW_ hHeld ?_
       refine pu 11 12 (Bs 12 12) HT_ ?_
       refine done_ (done_of HT_.out (by kernel_rfl)) ?_
       try go_wp2
       go_ret
       exact en
      ·rw [if_neg c10] at H
       have c10b0 : decide (((rd_T34 l3 x10_1).f1) ≤ ((rd_T34 l3 x10_1).f0)) = false := decide_eq_false c10
       clear c10
       by_cases c12 : ((rd_T34 l3 x10_1).f1) > 1048576
       ·rw [if_pos c12] at H
        have c12b0 : decide (1048576 < ((rd_T34 l3 x10_1).f1)) = true := decide_eq_true c12
        clear c12
        obtain rfl := Option.some.inj H
        try go_wp2
        replace HB := Aside0.mk (lD HB.out)
        have p417 : 0 ≤ (x10_1 : Int) := of_decide_eq_true (by first | (with_reducible assumption) | assumption)
        have q417 : x10_1 < (l3.length : Int) := of_decide_eq_true (by first | (with_reducible assumption) | assumption)
        obtain ⟨ad417, e417, hx417_0, hx417_1⟩ := at_T34 HR3.out x10_1 p417 q417
        have hw417_1 := hx417_1
        have hw417_0 := hx417_0
        cases e417
        replace hx417_0 := cB HB.out hx417_0
        replace hx417_1 := cB HB.out hx417_1
        replace p417 := eq_true p417
        replace q417 := eq_true q417
        have p418 : 0 ≤ (x10_1 : Int) := of_decide_eq_true (by first | (with_reducible assumption) | assumption)
        have q418 : x10_1 < (l3.length : Int) := of_decide_eq_true (by first | (with_reducible assumption) | assumption)
        obtain ⟨ad418, e418, hx418_0, hx418_1⟩ := at_T34 HR3.out x10_1 p418 q418
        have hw418_1 := hx418_1
        have hw418_0 := hx418_0
        obtain rfl : ad417 = ad418 := (by injection e418)
        replace hx418_0 := cB HB.out hx418_0
        replace hx418_1 := cB HB.out hx418_1
        replace p418 := eq_true p418
        replace q418 := eq_true q418
        refine start_ (n := 12) (S := fun w' => w'.cell? (ad417.add ((x10_1).toNat * 2)) = some (.int .i64 ((rd_T34 l3 x10_1).f0)) ∧ w'.cell? ⟨(ad417.add ((x10_1).toNat * 2)).block, (ad417.add ((x10_1).toNat * 2)).off + 1, none⟩ = some (.int .i64 ((rd_T34 l3 x10_1).f1)) ∧ w'.cell? (ad417.add ((x10_1).toNat * 2)) = some (.int .i64 ((rd_T34 l3 x10_1).f0)) ∧ w'.cell? ⟨(ad417.add ((x10_1).toNat * 2)).block, (ad417.add ((x10_1).toNat * 2)).off + 1, none⟩ = some (.int .i64 ((rd_T34 l3 x10_1).f1))) (ds := []) (Bs 0 12) (by kernel_rfl) rfl rfl ⟨(cB HB.out hw417_0), (cB HB.out hw417_1), (cB HB.out hw418_0), (cB HB.out hw418_1)⟩ (fun hHeld => ?_); refine with_tabW R4_Refusal.tab7 R4_Refusal.bits7 (fun HT_ HW_ => ?_)
        generalize wr.drew = w13 at HB hx417_0 hx417_1 hx418_0 hx418_1 hHeld ⊢
        refine pu 0 26 (Bs 1 12) HT_ ?_
        refine pu 1 27 (Bs 2 12) HT_ ?_
        refine pu 2 28 (Bs 3 12) HT_ ?_
        refine pu 3 29 (Bs 4 12) HT_ ?_
        refine pu 5 31 (Br [4,1,1,6]) HT_ ?_
        refine pu 6 32 (Br [4,1,2,5]) HT_ ?_
        refine pu 7 33 (Br [4,1,3,4]) HT_ ?_
        refine pu 8 34 (Br [4,1,4,3]) HT_ ?_
        refine ta 4 30 (Bs 9 12) HT_ HW_ hHeld ?_
        refine pu 10 11 (Br [9,1,1,1]) HT_ ?_
        refine ta 9 35 (Bs 11 12) HT_ HW_ hHeld ?_
        refine pu 11 12 (Bs 12 12) HT_ ?_
        refine done_ (done_of HT_.out (by kernel_rfl)) ?_
        try go_wp2
        go_ret
        exact en
       ·rw [if_neg c12] at H
        have c12b0 : decide (1048576 < ((rd_T34 l3 x10_1).f1)) = false := decide_eq_false c12
        clear c12
        by_cases c14 : x10_1 > 0
        ·rw [if_pos c14] at H
         have c14b0 : decide (0 < x10_1) = true := decide_eq_true c14
         clear c14
         obtain ⟨ji15, hji15⟩ : ∃ j_ : Int, (wrap64 (x10_1 - 1)) = j_ := ⟨_, rfl⟩
         replace H : (if 0 ≤ (ji15) then (if (ji15) < (l3.length : Int) then (if ((rd_T34 l3 (ji15)).f1) > ((rd_T34 l3 x10_1).f0) then (some false) else (R4_Refusal.l0 k1 a0 l1 l2 l3 (wrap64 (x9_1 + (wrap64 (a0 * (wrap64 (((rd_T34 l3 x10_1).f1) - ((rd_T34 l3 x10_1).f0))))))) (wrap64 (x10_1 + 1)))) else (none)) else (none)) = some r := by first | (rw [hji15] at H; exact H) | (simp only [hji15] at H ⊢; exact H)
         have hji15w : (IntKind.i64.wrap (x10_1 - 1)) = ji15 := (i64_w _).trans hji15
         by_cases c16 : 0 ≤ (ji15)
         ·rw [if_pos c16] at H
          have c16b0 : decide (0 ≤ (ji15)) = true := decide_eq_true c16
          clear c16
          by_cases c17 : (ji15) < (l3.length : Int)
          ·rw [if_pos c17] at H
           have c17b0 : decide ((ji15) < (l3.length : Int)) = true := decide_eq_true c17
           clear c17
           by_cases c18 : ((rd_T34 l3 (ji15)).f1) > ((rd_T34 l3 x10_1).f0)
           ·rw [if_pos c18] at H
            have c18b0 : decide (((rd_T34 l3 x10_1).f0) < ((rd_T34 l3 (ji15)).f1)) = true := decide_eq_true c18
            clear c18
            obtain rfl := Option.some.inj H
            try go_wp2
            replace HB := Aside0.mk (lD HB.out)
            have p417 : 0 ≤ (x10_1 : Int) := of_decide_eq_true (by first | (with_reducible assumption) | assumption)
            have q417 : x10_1 < (l3.length : Int) := of_decide_eq_true (by first | (with_reducible assumption) | assumption)
            obtain ⟨ad417, e417, hx417_0, hx417_1⟩ := at_T34 HR3.out x10_1 p417 q417
            have hw417_1 := hx417_1
            have hw417_0 := hx417_0
            cases e417
            replace hx417_0 := cB HB.out hx417_0
            replace hx417_1 := cB HB.out hx417_1
            replace p417 := eq_true p417
            replace q417 := eq_true q417
            have p418 : 0 ≤ (x10_1 : Int) := of_decide_eq_true (by first | (with_reducible assumption) | assumption)
            have q418 : x10_1 < (l3.length : Int) := of_decide_eq_true (by first | (with_reducible assumption) | assumption)
            obtain ⟨ad418, e418, hx418_0, hx418_1⟩ := at_T34 HR3.out x10_1 p418 q418
            have hw418_1 := hx418_1
            have hw418_0 := hx418_0
            obtain rfl : ad417 = ad418 := (by injection e418)
            replace hx418_0 := cB HB.out hx418_0
            replace hx418_1 := cB HB.out hx418_1
            replace p418 := eq_true p418
            replace q418 := eq_true q418
            refine start_ (n := 12) (S := fun w' => w'.cell? (ad417.add ((x10_1).toNat * 2)) = some (.int .i64 ((rd_T34 l3 x10_1).f0)) ∧ w'.cell? ⟨(ad417.add ((x10_1).toNat * 2)).block, (ad417.add ((x10_1).toNat * 2)).off + 1, none⟩ = some (.int .i64 ((rd_T34 l3 x10_1).f1)) ∧ w'.cell? (ad417.add ((x10_1).toNat * 2)) = some (.int .i64 ((rd_T34 l3 x10_1).f0)) ∧ w'.cell? ⟨(ad417.add ((x10_1).toNat * 2)).block, (ad417.add ((x10_1).toNat * 2)).off + 1, none⟩ = some (.int .i64 ((rd_T34 l3 x10_1).f1))) (ds := []) (Bs 0 12) (by kernel_rfl) rfl rfl ⟨(cB HB.out hw417_0), (cB HB.out hw417_1), (cB HB.out hw418_0), (cB HB.out hw418_1)⟩ (fun hHeld => ?_); refine with_tabW R4_Refusal.tab7 R4_Refusal.bits7 (fun HT_ HW_ => ?_)
            generalize wr.drew = w19 at HB hx417_0 hx417_1 hx418_0 hx418_1 hHeld ⊢
            refine pu 0 26 (Bs 1 12) HT_ ?_
            refine pu 1 27 (Bs 2 12) HT_ ?_
            refine pu 2 28 (Bs 3 12) HT_ ?_
            refine pu 3 29 (Bs 4 12) HT_ ?_
            refine pu 5 31 (Br [4,1,1,6]) HT_ ?_
            refine pu 6 32 (Br [4,1,2,5]) HT_ ?_
            refine pu 7 33 (Br [4,1,3,4]) HT_ ?_
            refine pu 8 34 (Br [4,1,4,3]) HT_ ?_
            refine ta 4 30 (Bs 9 12) HT_ HW_ hHeld ?_
            refine pu 10 11 (Br [9,1,1,1]) HT_ ?_
            refine ta 9 35 (Bs 11 12) HT_ HW_ hHeld ?_
            refine pu 11 12 (Bs 12 12) HT_ ?_
            refine done_ (done_of HT_.out (by kernel_rfl)) ?_
            have p419 : 0 ≤ ((ji15) : Int) := of_decide_eq_true (by first | (with_reducible assumption) | assumption)
            have q419 : (ji15) < (l3.length : Int) := of_decide_eq_true (by first | (with_reducible assumption) | assumption)
            obtain ⟨ad419, e419, hx419_0, hx419_1⟩ := at_T34 HR3.out (ji15) p419 q419
            obtain rfl : ad417 = ad419 := (by injection e419)
            replace hx419_0 := cB HB.out hx419_0
            replace hx419_1 := cB HB.out hx419_1
            replace p419 := eq_true p419
            replace q419 := eq_true q419
            try go_wp2
            go_ret
            exact ⟨by first | rfl | (simp [errW_none, errW_some] <;> rfl) | (simp only [← hji15]; first | rfl | (simp [errW_none, errW_some] <;> rfl)) | (simp [*, errW_none, errW_some] <;> rfl), lB⟩
           ·rw [if_neg c18] at H
            have c18b0 : decide (((rd_T34 l3 x10_1).f0) < ((rd_T34 l3 (ji15)).f1)) = false := decide_eq_false c18
            clear c18
            have H' := Aside0.mk H
            clear H
            try go_wp2
            replace HB := Aside0.mk (lD HB.out)
            have p417 : 0 ≤ (x10_1 : Int) := of_decide_eq_true (by first | (with_reducible assumption) | assumption)
            have q417 : x10_1 < (l3.length : Int) := of_decide_eq_true (by first | (with_reducible assumption) | assumption)
            obtain ⟨ad417, e417, hx417_0, hx417_1⟩ := at_T34 HR3.out x10_1 p417 q417
            have hw417_1 := hx417_1
            have hw417_0 := hx417_0
            cases e417
            replace hx417_0 := cB HB.out hx417_0
            replace hx417_1 := cB HB.out hx417_1
            replace p417 := eq_true p417
            replace q417 := eq_true q417
            have p418 : 0 ≤ (x10_1 : Int) := of_decide_eq_true (by first | (with_reducible assumption) | assumption)
            have q418 : x10_1 < (l3.length : Int) := of_decide_eq_true (by first | (with_reducible assumption) | assumption)
            obtain ⟨ad418, e418, hx418_0, hx418_1⟩ := at_T34 HR3.out x10_1 p418 q418
            have hw418_1 := hx418_1
            have hw418_0 := hx418_0
            obtain rfl : ad417 = ad418 := (by injection e418)
            replace hx418_0 := cB HB.out hx418_0
            replace hx418_1 := cB HB.out hx418_1
            replace p418 := eq_true p418
            replace q418 := eq_true q418
            refine start_ (n := 12) (S := fun w' => w'.cell? (ad417.add ((x10_1).toNat * 2)) = some (.int .i64 ((rd_T34 l3 x10_1).f0)) ∧ w'.cell? ⟨(ad417.add ((x10_1).toNat * 2)).block, (ad417.add ((x10_1).toNat * 2)).off + 1, none⟩ = some (.int .i64 ((rd_T34 l3 x10_1).f1)) ∧ w'.cell? (ad417.add ((x10_1).toNat * 2)) = some (.int .i64 ((rd_T34 l3 x10_1).f0)) ∧ w'.cell? ⟨(ad417.add ((x10_1).toNat * 2)).block, (ad417.add ((x10_1).toNat * 2)).off + 1, none⟩ = some (.int .i64 ((rd_T34 l3 x10_1).f1))) (ds := []) (Bs 0 12) (by kernel_rfl) rfl rfl ⟨(cB HB.out hw417_0), (cB HB.out hw417_1), (cB HB.out hw418_0), (cB HB.out hw418_1)⟩ (fun hHeld => ?_); refine with_tabW R4_Refusal.tab7 R4_Refusal.bits7 (fun HT_ HW_ => ?_)
            generalize wr.drew = w20 at HB hx417_0 hx417_1 hx418_0 hx418_1 hHeld ⊢
            refine pu 0 26 (Bs 1 12) HT_ ?_
            refine pu 1 27 (Bs 2 12) HT_ ?_
            refine pu 2 28 (Bs 3 12) HT_ ?_
            refine pu 3 29 (Bs 4 12) HT_ ?_
            refine pu 5 31 (Br [4,1,1,6]) HT_ ?_
            refine pu 6 32 (Br [4,1,2,5]) HT_ ?_
            refine pu 7 33 (Br [4,1,3,4]) HT_ ?_
            refine pu 8 34 (Br [4,1,4,3]) HT_ ?_
            refine ta 4 30 (Bs 9 12) HT_ HW_ hHeld ?_
            refine pu 10 11 (Br [9,1,1,1]) HT_ ?_
            refine ta 9 35 (Bs 11 12) HT_ HW_ hHeld ?_
            refine pu 11 12 (Bs 12 12) HT_ ?_
            refine done_ (done_of HT_.out (by kernel_rfl)) ?_
            have p419 : 0 ≤ ((ji15) : Int) := of_decide_eq_true (by first | (with_reducible assumption) | assumption)
            have q419 : (ji15) < (l3.length : Int) := of_decide_eq_true (by first | (with_reducible assumption) | assumption)
            obtain ⟨ad419, e419, hx419_0, hx419_1⟩ := at_T34 HR3.out (ji15) p419 q419
            obtain rfl : ad417 = ad419 := (by injection e419)
            replace hx419_0 := cB HB.out hx419_0
            replace hx419_1 := cB HB.out hx419_1
            replace p419 := eq_true p419
            replace q419 := eq_true q419
            try go_wp2
            go_roundg k1
            case measure => have := HK1.out; omega
            case rel => exact ⟨(wrap64 (x9_1 + (wrap64 (a0 * (wrap64 (((rd_T34 l3 x10_1).f1) - ((rd_T34 l3 x10_1).f0))))))), (wrap64 (x10_1 + 1)), (by first | rfl | (simp; done) | (simp [*]; done)), (by first | rfl | (simp; done) | (simp [*]; done)), H', ⟨by have := HK1.out; omega⟩, ⟨by repeat (first | (with_reducible first | exact HB.out | apply lA | apply lN | apply lD) | exact HB.out)⟩⟩
          ·rw [if_neg c17] at H
           exact absurd H (by simp)
         ·rw [if_neg c16] at H
          exact absurd H (by simp)
        ·rw [if_neg c14] at H
         have c14b0 : decide (0 < x10_1) = false := decide_eq_false c14
         clear c14
         have H' := Aside0.mk H
         clear H
         try go_wp2
         replace HB := Aside0.mk (lD HB.out)
         have p417 : 0 ≤ (x10_1 : Int) := of_decide_eq_true (by first | (with_reducible assumption) | assumption)
         have q417 : x10_1 < (l3.length : Int) := of_decide_eq_true (by first | (with_reducible assumption) | assumption)
         obtain ⟨ad417, e417, hx417_0, hx417_1⟩ := at_T34 HR3.out x10_1 p417 q417
         have hw417_1 := hx417_1
         have hw417_0 := hx417_0
         cases e417
         replace hx417_0 := cB HB.out hx417_0
         replace hx417_1 := cB HB.out hx417_1
         replace p417 := eq_true p417
         replace q417 := eq_true q417
         have p418 : 0 ≤ (x10_1 : Int) := of_decide_eq_true (by first | (with_reducible assumption) | assumption)
         have q418 : x10_1 < (l3.length : Int) := of_decide_eq_true (by first | (with_reducible assumption) | assumption)
         obtain ⟨ad418, e418, hx418_0, hx418_1⟩ := at_T34 HR3.out x10_1 p418 q418
         have hw418_1 := hx418_1
         have hw418_0 := hx418_0
         obtain rfl : ad417 = ad418 := (by injection e418)
         replace hx418_0 := cB HB.out hx418_0
         replace hx418_1 := cB HB.out hx418_1
         replace p418 := eq_true p418
         replace q418 := eq_true q418
         refine start_ (n := 12) (S := fun w' => w'.cell? (ad417.add ((x10_1).toNat * 2)) = some (.int .i64 ((rd_T34 l3 x10_1).f0)) ∧ w'.cell? ⟨(ad417.add ((x10_1).toNat * 2)).block, (ad417.add ((x10_1).toNat * 2)).off + 1, none⟩ = some (.int .i64 ((rd_T34 l3 x10_1).f1)) ∧ w'.cell? (ad417.add ((x10_1).toNat * 2)) = some (.int .i64 ((rd_T34 l3 x10_1).f0)) ∧ w'.cell? ⟨(ad417.add ((x10_1).toNat * 2)).block, (ad417.add ((x10_1).toNat * 2)).off + 1, none⟩ = some (.int .i64 ((rd_T34 l3 x10_1).f1))) (ds := []) (Bs 0 12) (by kernel_rfl) rfl rfl ⟨(cB HB.out hw417_0), (cB HB.out hw417_1), (cB HB.out hw418_0), (cB HB.out hw418_1)⟩ (fun hHeld => ?_); refine with_tabW R4_Refusal.tab7 R4_Refusal.bits7 (fun HT_ HW_ => ?_)
         generalize wr.drew = w21 at HB hx417_0 hx417_1 hx418_0 hx418_1 hHeld ⊢
         refine pu 0 26 (Bs 1 12) HT_ ?_
         refine pu 1 27 (Bs 2 12) HT_ ?_
         refine pu 2 28 (Bs 3 12) HT_ ?_
         refine pu 3 29 (Bs 4 12) HT_ ?_
         refine pu 5 31 (Br [4,1,1,6]) HT_ ?_
         refine pu 6 32 (Br [4,1,2,5]) HT_ ?_
         refine pu 7 33 (Br [4,1,3,4]) HT_ ?_
         refine pu 8 34 (Br [4,1,4,3]) HT_ ?_
         refine ta 4 30 (Bs 9 12) HT_ HW_ hHeld ?_
         refine pu 10 11 (Br [9,1,1,1]) HT_ ?_
         refine ta 9 35 (Bs 11 12) HT_ HW_ hHeld ?_
         refine pu 11 12 (Bs 12 12) HT_ ?_
         refine done_ (done_of HT_.out (by kernel_rfl)) ?_
         try go_wp2
         go_roundg k1
         case measure => have := HK1.out; omega
         case rel => exact ⟨(wrap64 (x9_1 + (wrap64 (a0 * (wrap64 (((rd_T34 l3 x10_1).f1) - ((rd_T34 l3 x10_1).f0))))))), (wrap64 (x10_1 + 1)), (by first | rfl | (simp; done) | (simp [*]; done)), (by first | rfl | (simp; done) | (simp [*]; done)), H', ⟨by have := HK1.out; omega⟩, ⟨by repeat (first | (with_reducible first | exact HB.out | apply lA | apply lN | apply lD) | exact HB.out)⟩⟩
    ·rw [if_neg c7] at H
     exact absurd H (by simp)
   ·rw [if_neg c6] at H
    have c6b0 : decide (x10_1 < (l3.length : Int)) = false := decide_eq_false c6
    clear c6
    have H' := Aside0.mk H
    clear H
    go_wp2
    go_loopg [9, 13, 14] k1 (fun kq v9 v13 v14 w' => ∃ (x9_2 : Int) (x13_2 : Int) (x14_2 : Int), v9 = .int .i64 x9_2 ∧ v13 = .int .i64 x13_2 ∧ v14 = .int .i64 x14_2 ∧ Aside0 (R4_Refusal.l1 kq l1 l2 l3 x9_2 x13_2 x14_2 = some r) ∧ Aside0 (kq ≤ k1) ∧ Aside0 (Below w.heap.size w w'))
    case atStart => exact ⟨(x9_1), (0), (0), (by first | rfl | (simp; done) | (simp [*]; done)), (by first | rfl | (simp; done) | (simp [*]; done)), (by first | rfl | (simp; done) | (simp [*]; done)), H', ⟨Nat.le_refl _⟩, ⟨by repeat (first | (with_reducible first | exact HB.out | apply lA | apply lN | apply lD) | exact HB.out)⟩⟩
    case round =>
     clear H'
     try clear c1
     try clear p2
     try clear p4
     try clear q4
     try clear hx4
     try clear c6
     try clear c6b0
     try clear p6
     try clear c7
     try clear c10
     try clear c10b0
     try clear c12
     try clear c12b0
     try clear c14
     try clear c14b0
     try clear c16
     try clear c16b0
     try clear c17
     try clear c17b0
     try clear c18
     try clear c18b0
     try clear hx417_0
     try clear hx417_1
     try clear hx418_0
     try clear hx418_1
     try clear hx419_0
     try clear hx419_1
     try clear p417
     try clear p418
     try clear p419
     try clear q417
     try clear q418
     try clear q419
     obtain ⟨x9_2, x13_2, x14_2, rfl, rfl, rfl, HA, HK2, HB⟩ := hrel
     cases gk with
     | zero => exact absurd HA.out (by simp [R4_Refusal.l1])
     | succ k2 =>
      have H := HA.out
      clear HA
      simp only [R4_Refusal.l1] at H
      by_cases c22 : x14_2 < (l2.length : Int)
      ·rw [if_pos c22] at H
       have c22b0 : decide (x14_2 < (l2.length : Int)) = true := decide_eq_true c22
       clear c22
       have HC23 := Aside0.mk H
       clear H
       go_upto_region 15 with (fail)
       go_cut [103] (fun v103 wc => ∃ (kq : Nat) (x103_22 : Bool), v103 = .bool x103_22 ∧ Aside0 (R4_Refusal.j2 kq l1 l2 l3 x9_2 x13_2 x14_2 x103_22 = some r) ∧ Aside0 (kq ≤ k2) ∧ Aside0 (Below w.heap.size w wc))
       case first =>
        have H := HC23.out
        clear HC23
        by_cases c24 : 0 ≤ x14_2
        ·rw [if_pos c24] at H
         have c24b0 : decide (0 ≤ x14_2) = true := decide_eq_true c24
         clear c24
         (first | rw [c24b0] | (simp only [i64_w, i32_w]; rw [c24b0]) | skip)
         by_cases c25 : (rd l2 x14_2) < 0
         ·rw [if_pos c25] at H
          have c25b0 : decide ((rd l2 x14_2) < 0) = true := decide_eq_true c25
          clear c25
          have H' := Aside0.mk H
          clear H
          try go_wp2
          replace HB := Aside0.mk (lD HB.out)
          have p420 : 0 ≤ (x14_2 : Int) := of_decide_eq_true (by first | (with_reducible assumption) | assumption)
          have q420 : x14_2 < (l2.length : Int) := of_decide_eq_true (by first | (with_reducible assumption) | assumption)
          obtain ⟨ad420, e420, hx420_0⟩ := Kd.at_int HR2.out x14_2 p420 q420
          have hw420_0 := hx420_0
          cases e420
          replace hx420_0 := cB HB.out hx420_0
          replace p420 := eq_true p420
          replace q420 := eq_true q420
          refine start_ (n := 30) (S := fun w' => w'.cell? (ad420.add (x14_2).toNat) = some (.int .i64 (rd l2 x14_2))) (ds := []) (Bs 0 30) (by kernel_rfl) rfl rfl ((cB HB.out hw420_0)) (fun hHeld => ?_); refine with_tabW R4_Refusal.tab15 R4_Refusal.bits15 (fun HT_ HW_ => ?_)
          generalize wr.drew = w26 at HB hx420_0 hHeld ⊢
          refine pu 0 74 (Bs 1 30) HT_ ?_
          refine pu 1 75 (Bs 2 30) HT_ ?_
          refine pu 2 76 (Bs 3 30) HT_ ?_
          refine take_ (i := 3) (N := some 77) (v := ?_) (a' := ?_) (Bs 4 30) rfl rfl (take_ofW HT_.out HW_.out (by kernel_rfl)) (fun _ _ _ h => h) (Or.inl ⟨by rfl, ?_⟩) hHeld ?_ ?_; rotate_left
          ·intro w' s0
           go_simp
           with_reducible rfl
          rotate_left
          ·simp only [Act.put, sA, sB, sC, i64_w, i32_w]; rfl
          refine pu 4 78 (Bs 5 30) HT_ ?_
          refine pu 5 79 (Bs 6 30) HT_ ?_
          refine po 6 80 (Bs 7 30) HT_ ?_
          refine po 7 81 (Bs 8 30) HT_ ?_
          refine po 8 82 (Bs 9 30) HT_ ?_
          refine po 9 83 (Bs 10 30) HT_ ?_
          refine po 10 84 (Bs 11 30) HT_ ?_
          refine po 11 85 (Bs 12 30) HT_ ?_
          refine po 12 86 (Bs 13 30) HT_ ?_
          refine pu 13 87 (Bs 14 30) HT_ ?_
          refine pu 14 88 (Bs 15 30) HT_ ?_
          refine po 15 89 (Bs 16 30) HT_ ?_
          refine po 16 90 (Bs 17 30) HT_ ?_
          refine po 17 91 (Bs 18 30) HT_ ?_
          refine po 18 92 (Bs 19 30) HT_ ?_
          refine po 19 93 (Bs 20 30) HT_ ?_
          refine po 20 94 (Bs 21 30) HT_ ?_
          refine po 21 95 (Bs 22 30) HT_ ?_
          refine po 22 96 (Bs 23 30) HT_ ?_
          refine po 23 97 (Bs 24 30) HT_ ?_
          refine po 24 98 (Bs 25 30) HT_ ?_
          refine po 25 99 (Bs 26 30) HT_ ?_
          refine po 26 100 (Bs 27 30) HT_ ?_
          refine po 27 101 (Bs 28 30) HT_ ?_
          refine po 28 102 (Bs 29 30) HT_ ?_
          refine pu 29 103 (Bs 30 30) HT_ ?_
          refine done_ (done_of HT_.out (by kernel_rfl)) ?_
          try go_wp2
          go_meet
          case rel => exact ⟨_, (true), (by first | rfl | (simp; done) | (simp [*]; done)), H', ⟨by have := HK1.out; have := HK2.out; first | omega | exact Nat.le_refl _⟩, ⟨by repeat (first | (with_reducible first | exact HB.out | apply lA | apply lN | apply lD) | exact HB.out)⟩⟩
         ·rw [if_neg c25] at H
          have c25b0 : decide ((rd l2 x14_2) < 0) = false := decide_eq_false c25
          clear c25
          by_cases c27 : (rd l2 x14_2) ≥ (l1.length : Int)
          ·rw [if_pos c27] at H
           have c27b0 : decide ((l1.length : Int) ≤ (rd l2 x14_2)) = true := decide_eq_true c27
           clear c27
           have H' := Aside0.mk H
           clear H
           try go_wp2
           replace HB := Aside0.mk (lD HB.out)
           have p420 : 0 ≤ (x14_2 : Int) := of_decide_eq_true (by first | (with_reducible assumption) | assumption)
           have q420 : x14_2 < (l2.length : Int) := of_decide_eq_true (by first | (with_reducible assumption) | assumption)
           obtain ⟨ad420, e420, hx420_0⟩ := Kd.at_int HR2.out x14_2 p420 q420
           have hw420_0 := hx420_0
           cases e420
           replace hx420_0 := cB HB.out hx420_0
           replace p420 := eq_true p420
           replace q420 := eq_true q420
           have p421 : 0 ≤ (x14_2 : Int) := of_decide_eq_true (by first | (with_reducible assumption) | assumption)
           have q421 : x14_2 < (l2.length : Int) := of_decide_eq_true (by first | (with_reducible assumption) | assumption)
           obtain ⟨ad421, e421, hx421_0⟩ := Kd.at_int HR2.out x14_2 p421 q421
           have hw421_0 := hx421_0
           obtain rfl : ad420 = ad421 := (by injection e421)
           replace hx421_0 := cB HB.out hx421_0
           replace p421 := eq_true p421
           replace q421 := eq_true q421
           refine start_ (n := 30) (S := fun w' => w'.cell? (ad420.add (x14_2).toNat) = some (.int .i64 (rd l2 x14_2)) ∧ w'.cell? (ad420.add (x14_2).toNat) = some (.int .i64 (rd l2 x14_2))) (ds := []) (Bs 0 30) (by kernel_rfl) rfl rfl ⟨(cB HB.out hw420_0), (cB HB.out hw421_0)⟩ (fun hHeld => ?_); refine with_tabW R4_Refusal.tab15 R4_Refusal.bits15 (fun HT_ HW_ => ?_)
           generalize wr.drew = w28 at HB hx420_0 hx421_0 hHeld ⊢
           refine pu 0 74 (Bs 1 30) HT_ ?_
           refine pu 1 75 (Bs 2 30) HT_ ?_
           refine pu 2 76 (Bs 3 30) HT_ ?_
           refine ta 3 77 (Bs 4 30) HT_ HW_ hHeld ?_
           refine pu 4 78 (Bs 5 30) HT_ ?_
           refine pu 5 79 (Bs 6 30) HT_ ?_
           refine pu 6 80 (Bs 7 30) HT_ ?_
           refine pu 7 81 (Bs 8 30) HT_ ?_
           refine pu 8 82 (Bs 9 30) HT_ ?_
           refine pu 10 84 (Br [9,1,1,19]) HT_ ?_
           refine pu 11 85 (Br [9,1,2,18]) HT_ ?_
           refine ta 9 83 (Bs 12 30) HT_ HW_ hHeld ?_
           refine pu 12 86 (Bs 13 30) HT_ ?_
           refine pu 13 87 (Bs 14 30) HT_ ?_
           refine pu 14 88 (Bs 15 30) HT_ ?_
           refine po 15 89 (Bs 16 30) HT_ ?_
           refine po 16 90 (Bs 17 30) HT_ ?_
           refine po 17 91 (Bs 18 30) HT_ ?_
           refine po 18 92 (Bs 19 30) HT_ ?_
           refine po 19 93 (Bs 20 30) HT_ ?_
           refine po 20 94 (Bs 21 30) HT_ ?_
           refine po 21 95 (Bs 22 30) HT_ ?_
           refine po 22 96 (Bs 23 30) HT_ ?_
           refine po 23 97 (Bs 24 30) HT_ ?_
           refine po 24 98 (Bs 25 30) HT_ ?_
           refine po 25 99 (Bs 26 30) HT_ ?_
           refine po 26 100 (Bs 27 30) HT_ ?_
           refine po 27 101 (Bs 28 30) HT_ ?_
           refine po 28 102 (Bs 29 30) HT_ ?_
           refine pu 29 103 (Bs 30 30) HT_ ?_
           refine done_ (done_of HT_.out (by kernel_rfl)) ?_
           try go_wp2
           go_meet
           case rel => exact ⟨_, (true), (by first | rfl | (simp; done) | (simp [*]; done)), H', ⟨by have := HK1.out; have := HK2.out; first | omega | exact Nat.le_refl _⟩, ⟨by repeat (first | (with_reducible first | exact HB.out | apply lA | apply lN | apply lD) | exact HB.out)⟩⟩
          ·rw [if_neg c27] at H
           have c27b0 : decide ((l1.length : Int) ≤ (rd l2 x14_2)) = false := decide_eq_false c27
           clear c27
           by_cases c29 : x14_2 > 0
           ·rw [if_pos c29] at H
            have c29b0 : decide (0 < x14_2) = true := decide_eq_true c29
            clear c29
            obtain ⟨ji30, hji30⟩ : ∃ j_ : Int, (wrap64 (x14_2 - 1)) = j_ := ⟨_, rfl⟩
            replace H : (if 0 ≤ (ji30) then (if (ji30) < (l2.length : Int) then (R4_Refusal.j2 k2 l1 l2 l3 x9_2 x13_2 x14_2 (decide ((rd l2 (ji30)) ≥ (rd l2 x14_2)))) else (none)) else (none)) = some r := by first | (rw [hji30] at H; exact H) | (simp only [hji30] at H ⊢; exact H)
            have hji30w : (IntKind.i64.wrap (x14_2 - 1)) = ji30 := (i64_w _).trans hji30
            by_cases c31 : 0 ≤ (ji30)
            ·rw [if_pos c31] at H
             have c31b0 : decide (0 ≤ (ji30)) = true := decide_eq_true c31
             clear c31
             by_cases c32 : (ji30) < (l2.length : Int)
             ·rw [if_pos c32] at H
              have c32b0 : decide ((ji30) < (l2.length : Int)) = true := decide_eq_true c32
              clear c32
              have H' := Aside0.mk H
              clear H
              try go_wp2
              replace HB := Aside0.mk (lD HB.out)
              have p420 : 0 ≤ (x14_2 : Int) := of_decide_eq_true (by first | (with_reducible assumption) | assumption)
              have q420 : x14_2 < (l2.length : Int) := of_decide_eq_true (by first | (with_reducible assumption) | assumption)
              obtain ⟨ad420, e420, hx420_0⟩ := Kd.at_int HR2.out x14_2 p420 q420
              have hw420_0 := hx420_0
              cases e420
              replace hx420_0 := cB HB.out hx420_0
              replace p420 := eq_true p420
              replace q420 := eq_true q420
              have p421 : 0 ≤ (x14_2 : Int) := of_decide_eq_true (by first | (with_reducible assumption) | assumption)
              have q421 : x14_2 < (l2.length : Int) := of_decide_eq_true (by first | (with_reducible assumption) | assumption)
              obtain ⟨ad421, e421, hx421_0⟩ := Kd.at_int HR2.out x14_2 p421 q421
              have hw421_0 := hx421_0
              obtain rfl : ad420 = ad421 := (by injection e421)
              replace hx421_0 := cB HB.out hx421_0
              replace p421 := eq_true p421
              replace q421 := eq_true q421
              have p422 : 0 ≤ ((ji30) : Int) := of_decide_eq_true (by first | (with_reducible assumption) | assumption)
              have q422 : (ji30) < (l2.length : Int) := of_decide_eq_true (by first | (with_reducible assumption) | assumption)
              obtain ⟨ad422, e422, hx422_0⟩ := Kd.at_int HR2.out (ji30) p422 q422
              have hw422_0 := hx422_0
              obtain rfl : ad420 = ad422 := (by injection e422)
              replace hx422_0 := cB HB.out hx422_0
              replace p422 := eq_true p422
              replace q422 := eq_true q422
              have p423 : 0 ≤ (x14_2 : Int) := of_decide_eq_true (by first | (with_reducible assumption) | assumption)
              have q423 : x14_2 < (l2.length : Int) := of_decide_eq_true (by first | (with_reducible assumption) | assumption)
              obtain ⟨ad423, e423, hx423_0⟩ := Kd.at_int HR2.out x14_2 p423 q423
              have hw423_0 := hx423_0
              obtain rfl : ad420 = ad423 := (by injection e423)
              replace hx423_0 := cB HB.out hx423_0
              replace p423 := eq_true p423
              replace q423 := eq_true q423
              refine start_ (n := 30) (S := fun w' => w'.cell? (ad420.add (x14_2).toNat) = some (.int .i64 (rd l2 x14_2)) ∧ w'.cell? (ad420.add (x14_2).toNat) = some (.int .i64 (rd l2 x14_2)) ∧ w'.cell? (ad420.add ((ji30)).toNat) = some (.int .i64 (rd l2 (ji30))) ∧ w'.cell? (ad420.add (x14_2).toNat) = some (.int .i64 (rd l2 x14_2))) (ds := []) (Bs 0 30) (by kernel_rfl) rfl rfl ⟨(cB HB.out hw420_0), (cB HB.out hw421_0), (cB HB.out hw422_0), (cB HB.out hw423_0)⟩ (fun hHeld => ?_); refine with_tabW R4_Refusal.tab15 R4_Refusal.bits15 (fun HT_ HW_ => ?_)
              generalize wr.drew = w33 at HB hx420_0 hx421_0 hx422_0 hx423_0 hHeld ⊢
              refine pu 0 74 (Bs 1 30) HT_ ?_
              refine pu 1 75 (Bs 2 30) HT_ ?_
              refine pu 2 76 (Bs 3 30) HT_ ?_
              refine ta 3 77 (Bs 4 30) HT_ HW_ hHeld ?_
              refine pu 4 78 (Bs 5 30) HT_ ?_
              refine pu 5 79 (Bs 6 30) HT_ ?_
              refine pu 6 80 (Bs 7 30) HT_ ?_
              refine pu 7 81 (Bs 8 30) HT_ ?_
              refine pu 8 82 (Bs 9 30) HT_ ?_
              refine pu 10 84 (Br [9,1,1,19]) HT_ ?_
              refine pu 11 85 (Br [9,1,2,18]) HT_ ?_
              refine ta 9 83 (Bs 12 30) HT_ HW_ hHeld ?_
              refine pu 12 86 (Bs 13 30) HT_ ?_
              refine pu 13 87 (Bs 14 30) HT_ ?_
              refine pu 14 88 (Bs 15 30) HT_ ?_
              refine pu 15 89 (Bs 16 30) HT_ ?_
              refine pu 16 90 (Bs 17 30) HT_ ?_
              refine pu 17 91 (Bs 18 30) HT_ ?_
              refine pu 18 92 (Bs 19 30) HT_ ?_
              refine pu 19 93 (Bs 20 30) HT_ ?_
              refine pu 20 94 (Bs 21 30) HT_ ?_
              refine pu 21 95 (Bs 22 30) HT_ ?_
              refine pu 23 97 (Br [22,1,1,6]) HT_ ?_
              refine pu 24 98 (Br [22,1,2,5]) HT_ ?_
              refine pu 25 99 (Br [22,1,3,4]) HT_ ?_
              refine ta 22 96 (Bs 26 30) HT_ HW_ hHeld ?_
              refine ta 26 100 (Bs 27 30) HT_ HW_ hHeld ?_
              refine pu 27 101 (Bs 28 30) HT_ ?_
              refine pu 28 102 (Bs 29 30) HT_ ?_
              refine pu 29 103 (Bs 30 30) HT_ ?_
              refine done_ (done_of HT_.out (by kernel_rfl)) ?_
              try go_wp2
              go_meet
              case rel => exact ⟨_, (decide ((rd l2 (ji30)) ≥ (rd l2 x14_2))), (by first | rfl | (simp; done) | (simp only [← hji30] <;> (first | rfl | simp)) | (simp [*]; done)), H', ⟨by have := HK1.out; have := HK2.out; first | omega | exact Nat.le_refl _⟩, ⟨by repeat (first | (with_reducible first | exact HB.out | apply lA | apply lN | apply lD) | exact HB.out)⟩⟩
             ·rw [if_neg c32] at H
              exact absurd H (by simp)
            ·rw [if_neg c31] at H
             exact absurd H (by simp)
           ·rw [if_neg c29] at H
            have c29b0 : decide (0 < x14_2) = false := decide_eq_false c29
            clear c29
            have H' := Aside0.mk H
            clear H
            try go_wp2
            replace HB := Aside0.mk (lD HB.out)
            have p420 : 0 ≤ (x14_2 : Int) := of_decide_eq_true (by first | (with_reducible assumption) | assumption)
            have q420 : x14_2 < (l2.length : Int) := of_decide_eq_true (by first | (with_reducible assumption) | assumption)
            obtain ⟨ad420, e420, hx420_0⟩ := Kd.at_int HR2.out x14_2 p420 q420
            have hw420_0 := hx420_0
            cases e420
            replace hx420_0 := cB HB.out hx420_0
            replace p420 := eq_true p420
            replace q420 := eq_true q420
            have p421 : 0 ≤ (x14_2 : Int) := of_decide_eq_true (by first | (with_reducible assumption) | assumption)
            have q421 : x14_2 < (l2.length : Int) := of_decide_eq_true (by first | (with_reducible assumption) | assumption)
            obtain ⟨ad421, e421, hx421_0⟩ := Kd.at_int HR2.out x14_2 p421 q421
            have hw421_0 := hx421_0
            obtain rfl : ad420 = ad421 := (by injection e421)
            replace hx421_0 := cB HB.out hx421_0
            replace p421 := eq_true p421
            replace q421 := eq_true q421
            refine start_ (n := 30) (S := fun w' => w'.cell? (ad420.add (x14_2).toNat) = some (.int .i64 (rd l2 x14_2)) ∧ w'.cell? (ad420.add (x14_2).toNat) = some (.int .i64 (rd l2 x14_2))) (ds := []) (Bs 0 30) (by kernel_rfl) rfl rfl ⟨(cB HB.out hw420_0), (cB HB.out hw421_0)⟩ (fun hHeld => ?_); refine with_tabW R4_Refusal.tab15 R4_Refusal.bits15 (fun HT_ HW_ => ?_)
            generalize wr.drew = w34 at HB hx420_0 hx421_0 hHeld ⊢
            refine pu 0 74 (Bs 1 30) HT_ ?_
            refine pu 1 75 (Bs 2 30) HT_ ?_
            refine pu 2 76 (Bs 3 30) HT_ ?_
            refine ta 3 77 (Bs 4 30) HT_ HW_ hHeld ?_
            refine pu 4 78 (Bs 5 30) HT_ ?_
            refine pu 5 79 (Bs 6 30) HT_ ?_
            refine pu 6 80 (Bs 7 30) HT_ ?_
            refine pu 7 81 (Bs 8 30) HT_ ?_
            refine pu 8 82 (Bs 9 30) HT_ ?_
            refine pu 10 84 (Br [9,1,1,19]) HT_ ?_
            refine pu 11 85 (Br [9,1,2,18]) HT_ ?_
            refine ta 9 83 (Bs 12 30) HT_ HW_ hHeld ?_
            refine pu 12 86 (Bs 13 30) HT_ ?_
            refine pu 13 87 (Bs 14 30) HT_ ?_
            refine pu 14 88 (Bs 15 30) HT_ ?_
            refine pu 15 89 (Bs 16 30) HT_ ?_
            refine pu 16 90 (Bs 17 30) HT_ ?_
            refine pu 17 91 (Bs 18 30) HT_ ?_
            refine po 18 92 (Bs 19 30) HT_ ?_
            refine po 19 93 (Bs 20 30) HT_ ?_
            refine po 20 94 (Bs 21 30) HT_ ?_
            refine po 21 95 (Bs 22 30) HT_ ?_
            refine po 22 96 (Bs 23 30) HT_ ?_
            refine po 23 97 (Bs 24 30) HT_ ?_
            refine po 24 98 (Bs 25 30) HT_ ?_
            refine po 25 99 (Bs 26 30) HT_ ?_
            refine po 26 100 (Bs 27 30) HT_ ?_
            refine po 27 101 (Bs 28 30) HT_ ?_
            refine pu 28 102 (Bs 29 30) HT_ ?_
            refine pu 29 103 (Bs 30 30) HT_ ?_
            refine done_ (done_of HT_.out (by kernel_rfl)) ?_
            try go_wp2
            go_meet
            case rel => exact ⟨_, (false), (by first | rfl | (simp; done) | (simp [*]; done)), H', ⟨by have := HK1.out; have := HK2.out; first | omega | exact Nat.le_refl _⟩, ⟨by repeat (first | (with_reducible first | exact HB.out | apply lA | apply lN | apply lD) | exact HB.out)⟩⟩
        ·rw [if_neg c24] at H
         exact absurd H (by simp)
       case rest =>
        clear HC23
        try clear c2
        try clear p2
        try clear c3
        try clear p4
        try clear q4
        try clear hx4
        try clear p6
        try clear c24
        try clear c27
        try clear c27b0
        try clear c29
        try clear c29b0
        try clear c31
        try clear c31b0
        try clear c32
        try clear c32b0
        try clear hx420_0
        try clear hx421_0
        try clear hx422_0
        try clear hx423_0
        try clear p420
        try clear p421
        try clear p422
        try clear p423
        try clear q420
        try clear q421
        try clear q422
        try clear q423
        obtain ⟨kq, x103_22, rfl, HA, HJ22, HB⟩ := hcut
        cases kq with
        | zero => exact absurd HA.out (by simp [R4_Refusal.j2])
        | succ kj22 =>
         have H := HA.out
         clear HA
         simp only [R4_Refusal.j2] at H
         by_cases c35 : x103_22 = true
         ·subst c35
          have H1 : (some false) = some r := by rw [if_pos rfl] at H; exact H
          clear H
          have H := H1
          clear H1
          obtain rfl := Option.some.inj H
          go_wp2
          go_ret
          exact en
         ·replace c35 := Bool.eq_false_iff.mpr c35
          subst c35
          have H1 : (if 0 ≤ x14_2 then (if x14_2 < (l2.length : Int) then (if 0 ≤ (rd l2 x14_2) then (if (rd l2 x14_2) < (l1.length : Int) then (R4_Refusal.l2 kj22 l1 l2 l3 (wrap64 ((wrap64 (x9_2 + ((rd_T40 l1 (rd l2 x14_2)).f1))) - ((rd_T40 l1 (rd l2 x14_2)).f0))) (wrap64 (x13_2 + ((rd_T40 l1 (rd l2 x14_2)).f2))) x14_2 0 ((rd_T40 l1 (rd l2 x14_2)).f0) ((rd_T40 l1 (rd l2 x14_2)).f1) ((rd_T40 l1 (rd l2 x14_2)).f2)) else (none)) else (none)) else (none)) else (none)) = some r := by rw [if_neg (show ¬ (false = true) by decide)] at H; exact H
          clear H
          have H := H1
          clear H1
          by_cases c36 : 0 ≤ x14_2
          ·rw [if_pos c36] at H
           have c36b0 : decide (0 ≤ x14_2) = true := decide_eq_true c36
           clear c36
           by_cases c37 : x14_2 < (l2.length : Int)
           ·rw [if_pos c37] at H
            have c37b0 : decide (x14_2 < (l2.length : Int)) = true := decide_eq_true c37
            clear c37
            by_cases c38 : 0 ≤ (rd l2 x14_2)
            ·rw [if_pos c38] at H
             have c38b0 : decide (0 ≤ (rd l2 x14_2)) = true := decide_eq_true c38
             clear c38
             by_cases c39 : (rd l2 x14_2) < (l1.length : Int)
             ·rw [if_pos c39] at H
              have c39b0 : decide ((rd l2 x14_2) < (l1.length : Int)) = true := decide_eq_true c39
              clear c39
              have H' := Aside0.mk H
              clear H
              have p424 : 0 ≤ (x14_2 : Int) := of_decide_eq_true (by first | (with_reducible assumption) | assumption)
              have q424 : x14_2 < (l2.length : Int) := of_decide_eq_true (by first | (with_reducible assumption) | assumption)
              obtain ⟨ad424, e424, hx424_0⟩ := Kd.at_int HR2.out x14_2 p424 q424
              cases e424
              replace hx424_0 := cB HB.out hx424_0
              replace p424 := eq_true p424
              replace q424 := eq_true q424
              have p425 : 0 ≤ ((rd l2 x14_2) : Int) := of_decide_eq_true (by first | (with_reducible assumption) | assumption)
              have q425 : (rd l2 x14_2) < (l1.length : Int) := of_decide_eq_true (by first | (with_reducible assumption) | assumption)
              obtain ⟨ad425, e425, hx425_0, hx425_1, hx425_2⟩ := at_T40 HR1.out (rd l2 x14_2) p425 q425
              cases e425
              replace hx425_0 := cB HB.out hx425_0
              replace hx425_1 := cB HB.out hx425_1
              replace hx425_2 := cB HB.out hx425_2
              replace p425 := eq_true p425
              replace q425 := eq_true q425
              go_wp2_with (first | ((with_reducible refine gate_dst (N := 15) rfl ?_); (try (refine gate_guard (by rfl) ?_; dsimp only)); refine bxe 15 #[.int .i64 0, .int .i64 0, .int .i64 0] 40 ?_; intro gb426 hg w40 hbox hb; have n0_ := Aside0.mk (below_step lB hb); have n1_ := Aside0.mk (hbox); have n2_ := Aside0.mk (lG (w := w) hg); have n3_ := Aside0.mk (lG (w := w) hg); clear HB; have HB := n0_; have BK426 := n1_; have GW426 := n2_; have GE426 := n3_; clear n0_ n1_ n2_ n3_; clear hb hbox hg; have hcz41_0 : w40.cell? ⟨gb426, 0, none⟩ = some (.int .i64 0) := (blk_cell BK426.out 0).trans rfl; have hcz41_1 : w40.cell? ⟨gb426, 1, none⟩ = some (.int .i64 0) := (blk_cell BK426.out 1).trans rfl; have hcz41_2 : w40.cell? ⟨gb426, 2, none⟩ = some (.int .i64 0) := (blk_cell BK426.out 2).trans rfl; have hfz41_0 := blk_frozen BK426.out 0; have hfz41_1 := blk_frozen BK426.out 1; have hfz41_2 := blk_frozen BK426.out 2))
              go_loopg [9, 16] kj22 (fun kq v9 v16 w' => ∃ (x9_4 : Int) (x16_4 : Int), v9 = .int .i64 x9_4 ∧ v16 = .int .i64 x16_4 ∧ Aside0 (R4_Refusal.l2 kq l1 l2 l3 x9_4 (wrap64 (x13_2 + ((rd_T40 l1 (rd l2 x14_2)).f2))) x14_2 x16_4 ((rd_T40 l1 (rd l2 x14_2)).f0) ((rd_T40 l1 (rd l2 x14_2)).f1) ((rd_T40 l1 (rd l2 x14_2)).f2) = some r) ∧ Aside0 (kq ≤ kj22) ∧ Aside0 (w'.heap[gb426]? = some (.cells #[.int .i64 ((rd_T40 l1 (rd l2 x14_2)).f0), .int .i64 ((rd_T40 l1 (rd l2 x14_2)).f1), .int .i64 ((rd_T40 l1 (rd l2 x14_2)).f2)] 40 (0, 0))) ∧ Aside0 (Below w.heap.size w w'))
              case atStart => exact ⟨(wrap64 ((wrap64 (x9_2 + ((rd_T40 l1 (rd l2 x14_2)).f1))) - ((rd_T40 l1 (rd l2 x14_2)).f0))), (0), (by first | rfl | (simp; done) | (simp [*]; done)), (by first | rfl | (simp; done) | (simp [*]; done)), H', ⟨Nat.le_refl _⟩, ⟨by (with_reducible repeat (first | refine kN ?_ _ | refine kD ?_ | refine kA ?_ _)); refine blk_put (cs := #[.int .i64 ((rd_T40 l1 (rd l2 x14_2)).f0), .int .i64 ((rd_T40 l1 (rd l2 x14_2)).f1), .int .i64 0]) ?_ 2 _ rfl; (with_reducible repeat (first | refine kN ?_ _ | refine kD ?_ | refine kA ?_ _)); refine blk_put (cs := #[.int .i64 ((rd_T40 l1 (rd l2 x14_2)).f0), .int .i64 0, .int .i64 0]) ?_ 1 _ rfl; (with_reducible repeat (first | refine kN ?_ _ | refine kD ?_ | refine kA ?_ _)); refine blk_put (cs := #[.int .i64 0, .int .i64 0, .int .i64 0]) ?_ 0 _ rfl; (with_reducible repeat (first | refine kN ?_ _ | refine kD ?_ | refine kA ?_ _)); exact BK426.out⟩, ⟨by repeat (first | (with_reducible first | exact HB.out | apply lA | apply lN | apply lD | refine lS ?_ GE426.out) | exact HB.out)⟩⟩
              case round =>
               clear H'
               try clear c2
               try clear p2
               try clear c3
               try clear p4
               try clear q4
               try clear hx4
               try clear p6
               try clear c24
               try clear c27
               try clear c27b0
               try clear c29
               try clear c29b0
               try clear c31
               try clear c31b0
               try clear c32
               try clear c32b0
               try clear c35
               try clear c36
               try clear c36b0
               try clear c37
               try clear c37b0
               try clear c38
               try clear c38b0
               try clear c39
               try clear c39b0
               try clear hcz41_0
               try clear hcz41_1
               try clear hcz41_2
               try clear hfz41_0
               try clear hfz41_1
               try clear hfz41_2
               try clear hx420_0
               try clear hx421_0
               try clear hx422_0
               try clear hx423_0
               try clear hx424_0
               try clear hx425_0
               try clear hx425_1
               try clear hx425_2
               try clear p2
               try clear p4
               try clear p420
               try clear p421
               try clear p422
               try clear p423
               try clear p424
               try clear p425
               try clear p6
               try clear q4
               try clear q420
               try clear q421
               try clear q422
               try clear q423
               try clear q424
               try clear q425
               obtain ⟨x9_4, x16_4, rfl, rfl, HA, HK4, BK426, HB⟩ := hrel
               cases gk with
               | zero => exact absurd HA.out (by simp [R4_Refusal.l2])
               | succ k4 =>
                have H := HA.out
                clear HA
                simp only [R4_Refusal.l2] at H
                by_cases c42 : x16_4 < (l3.length : Int)
                ·rw [if_pos c42] at H
                 have c42b0 : decide (x16_4 < (l3.length : Int)) = true := decide_eq_true c42
                 clear c42
                 by_cases c43 : 0 ≤ x16_4
                 ·rw [if_pos c43] at H
                  have c43b0 : decide (0 ≤ x16_4) = true := decide_eq_true c43
                  clear c43
                  replace H := Option.bind_eq_some_iff.mp H
                  obtain ⟨t429, A440, H⟩ := H
                  replace H : (R4_Refusal.l2 k4 l1 l2 l3 (wrap64 (x9_4 - t429)) (wrap64 (x13_2 + ((rd_T40 l1 (rd l2 x14_2)).f2))) x14_2 (wrap64 (x16_4 + 1)) ((rd_T40 l1 (rd l2 x14_2)).f0) ((rd_T40 l1 (rd l2 x14_2)).f1) ((rd_T40 l1 (rd l2 x14_2)).f2)) = some r := H
                  have A44 := Aside0.mk A440
                  clear A440
                  have H' := Aside0.mk H
                  clear H
                  try go_wp2
                  replace BK426 := Aside0.mk (kD BK426.out)
                  replace HB := Aside0.mk (lD HB.out)
                  have p427 : 0 ≤ (x16_4 : Int) := of_decide_eq_true (by first | (with_reducible assumption) | assumption)
                  have q427 : x16_4 < (l3.length : Int) := of_decide_eq_true (by first | (with_reducible assumption) | assumption)
                  obtain ⟨ad427, e427, hx427_0, hx427_1⟩ := at_T34 HR3.out x16_4 p427 q427
                  have hw427_1 := hx427_1
                  have hw427_0 := hx427_0
                  cases e427
                  replace hx427_0 := cB HB.out hx427_0
                  replace hx427_1 := cB HB.out hx427_1
                  replace p427 := eq_true p427
                  replace q427 := eq_true q427
                  have p428 : 0 ≤ (x16_4 : Int) := of_decide_eq_true (by first | (with_reducible assumption) | assumption)
                  have q428 : x16_4 < (l3.length : Int) := of_decide_eq_true (by first | (with_reducible assumption) | assumption)
                  obtain ⟨ad428, e428, hx428_0, hx428_1⟩ := at_T34 HR3.out x16_4 p428 q428
                  have hw428_1 := hx428_1
                  have hw428_0 := hx428_0
                  obtain rfl : ad427 = ad428 := (by injection e428)
                  replace hx428_0 := cB HB.out hx428_0
                  replace hx428_1 := cB HB.out hx428_1
                  replace p428 := eq_true p428
                  replace q428 := eq_true q428
                  refine start_ (n := 18) (S := fun w' => w'.cell? ⟨gb426, 0, none⟩ = some (.int .i64 ((rd_T40 l1 (rd l2 x14_2)).f0)) ∧ w'.cell? ⟨gb426, 1, none⟩ = some (.int .i64 ((rd_T40 l1 (rd l2 x14_2)).f1)) ∧ w'.cell? ⟨gb426, 2, none⟩ = some (.int .i64 ((rd_T40 l1 (rd l2 x14_2)).f2)) ∧ w'.cell? (ad427.add ((x16_4).toNat * 2)) = some (.int .i64 ((rd_T34 l3 x16_4).f0)) ∧ w'.cell? ⟨(ad427.add ((x16_4).toNat * 2)).block, (ad427.add ((x16_4).toNat * 2)).off + 1, none⟩ = some (.int .i64 ((rd_T34 l3 x16_4).f1)) ∧ w'.cell? (ad427.add ((x16_4).toNat * 2)) = some (.int .i64 ((rd_T34 l3 x16_4).f0)) ∧ w'.cell? ⟨(ad427.add ((x16_4).toNat * 2)).block, (ad427.add ((x16_4).toNat * 2)).off + 1, none⟩ = some (.int .i64 ((rd_T34 l3 x16_4).f1))) (ds := []) (Bs 0 18) (by kernel_rfl) rfl rfl ⟨(blk_cell BK426.out 0).trans rfl, (blk_cell BK426.out 1).trans rfl, (blk_cell BK426.out 2).trans rfl, (cB HB.out hw427_0), (cB HB.out hw427_1), (cB HB.out hw428_0), (cB HB.out hw428_1)⟩ (fun hHeld => ?_); refine with_tabW R4_Refusal.tab23 R4_Refusal.bits23 (fun HT_ HW_ => ?_)
                  generalize wr.drew = w45 at BK426 HB hx427_0 hx427_1 hx428_0 hx428_1 hHeld ⊢
                  refine pu 0 128 (Bs 1 18) HT_ ?_
                  refine pu 1 129 (Bs 2 18) HT_ ?_
                  refine pu 3 131 (Br [2,1,1,14]) HT_ ?_
                  refine pu 5 133 (Br [2,1,1,1,1,12]) HT_ ?_
                  refine pu 6 134 (Br [2,1,1,1,2,11]) HT_ ?_
                  refine pu 7 135 (Br [2,1,1,1,3,10]) HT_ ?_
                  refine pu 8 136 (Br [2,1,1,1,4,9]) HT_ ?_
                  refine pu 10 138 (Br [2,1,1,1,4,1,1,7]) HT_ ?_
                  refine pu 11 139 (Br [2,1,1,1,4,1,2,6]) HT_ ?_
                  refine pu 12 140 (Br [2,1,1,1,4,1,3,5]) HT_ ?_
                  refine pu 13 141 (Br [2,1,1,1,4,1,4,4]) HT_ ?_
                  refine ta 2 130 (Br [4,1,4,1,4,4]) HT_ HW_ hHeld ?_
                  refine ta 4 132 (Br [9,1,4,4]) HT_ HW_ hHeld ?_
                  refine ta 9 137 (Bs 14 18) HT_ HW_ hHeld ?_
                  refine ta 14 142 (Bs 15 18) HT_ HW_ hHeld ?_
                  refine one_ (i := 15) (N := some 143) (Bs 16 18) rfl rfl (one_of HT_.out (by kernel_rfl)) (by decide) (fun K hK => ?_)
                  refine goes_ Tryd.func50 (by kernel_rfl) rfl #[.int .i64 ((rd_T40 l1 (rd l2 x14_2)).f0), .int .i64 ((rd_T40 l1 (rd l2 x14_2)).f1), .int .i64 ((rd_T34 l3 x16_4).f0), .int .i64 ((rd_T34 l3 x16_4).f1)] (by rfl) rfl rfl (by (try simp only [List.map_toArray, List.map_cons, List.map_nil]); first | done | rfl | (simp only [List.length_drop, List.length_take]; rfl)) ?_
                  with_reducible refine (R4_overlap.calls ((rd_T40 l1 (rd l2 x14_2)).f0) ((rd_T40 l1 (rd l2 x14_2)).f1) ((rd_T34 l3 x16_4).f0) ((rd_T34 l3 x16_4).f1) t429 _ A44.out).mono ?_
                  rintro e w46 ⟨rfl, hb⟩
                  refine ⟨_, rfl, ?_⟩
                  have n1_ := Aside0.mk (below_step lB hb)
                  clear HB
                  have HB := n1_
                  clear n1_
                  replace BK426 := Aside0.mk (blk_below (g := gb426) (o := .cells #[.int .i64 ((rd_T40 l1 (rd l2 x14_2)).f0), .int .i64 ((rd_T40 l1 (rd l2 x14_2)).f1), .int .i64 ((rd_T40 l1 (rd l2 x14_2)).f2)] 40 (0, 0)) (kX BK426.out) hb)
                  (try clear hb)
                  (try clear hb2)
                  (try clear hk)
                  (try clear hi)
                  refine hK.out _ _ ⟨(blk_cell BK426.out 0).trans rfl, (blk_cell BK426.out 1).trans rfl, (blk_cell BK426.out 2).trans rfl, (cB HB.out hw427_0), (cB HB.out hw427_1), (cB HB.out hw428_0), (cB HB.out hw428_1)⟩ (fun hHeld => ?_)
                  clear hK K
                  refine nm 143 ?_
                  refine pu 16 144 (Bs 17 18) HT_ ?_
                  refine pu 17 9 (Bs 18 18) HT_ ?_
                  refine done_ (done_of HT_.out (by kernel_rfl)) ?_
                  try go_wp2
                  go_roundg k4
                  case measure => have := HK1.out; have := HK2.out; have := HJ22.out; have := HK4.out; omega
                  case rel => exact ⟨(wrap64 (x9_4 - t429)), (wrap64 (x16_4 + 1)), (by first | rfl | (simp; done) | (simp [*]; done)), (by first | rfl | (simp; done) | (simp [*]; done)), H', ⟨by have := HK1.out; have := HK2.out; have := HJ22.out; have := HK4.out; omega⟩, ⟨by (with_reducible repeat (first | refine kN ?_ _ | refine kD ?_ | refine kA ?_ _)); exact BK426.out⟩, ⟨by repeat (first | (with_reducible first | exact HB.out | apply lA | apply lN | apply lD | refine lS ?_ GE426.out) | exact HB.out)⟩⟩
                 ·rw [if_neg c43] at H
                  exact absurd H (by simp)
                ·rw [if_neg c42] at H
                 have c42b0 : decide (x16_4 < (l3.length : Int)) = false := decide_eq_false c42
                 clear c42
                 have H' := Aside0.mk H
                 clear H
                 go_wp2
                 go_roundg k4
                 case measure => have := HK1.out; have := HK2.out; have := HJ22.out; have := HK4.out; omega
                 case rel => exact ⟨(x9_4), ((wrap64 (x13_2 + ((rd_T40 l1 (rd l2 x14_2)).f2)))), (wrap64 (x14_2 + 1)), (by first | rfl | (simp; done) | (simp [*]; done)), (by first | rfl | (simp; done) | (simp [*]; done)), (by first | rfl | (simp; done) | (simp [*]; done)), H', ⟨by have := HK1.out; have := HK2.out; have := HJ22.out; have := HK4.out; omega⟩, ⟨by repeat (first | (with_reducible first | exact HB.out | apply lA | apply lN | apply lD | refine lS ?_ GE426.out) | exact HB.out)⟩⟩
             ·rw [if_neg c39] at H
              exact absurd H (by simp)
            ·rw [if_neg c38] at H
             exact absurd H (by simp)
           ·rw [if_neg c37] at H
            exact absurd H (by simp)
          ·rw [if_neg c36] at H
           exact absurd H (by simp)
      ·rw [if_neg c22] at H
       have c22b0 : decide (x14_2 < (l2.length : Int)) = false := decide_eq_false c22
       clear c22
       obtain rfl := Option.some.inj H
       go_wp2
       go_ret
       exact en


def bench_task_later.l0 : Nat → Int → List (S40) → Int → Int → Int → List (S40) → Option (Int × (List (S40)) × Bool)
 | 0, _, _, _, _, _, _ => none
 | k + 1, x1, x13, x14, x15, x268000, x268001 => if x15 < x14 then (if 0 ≤ x15 then (if x15 < (x13.length : Int) then (if (wrap64 (((rd_T40 x13 x15).f0) + x1)) ≥ ((rd_T40 x13 x15).f1) then (some (0, ([] : List (S40)), false)) else (if x268001.length < 5864062014805 then (bench_task_later.l0 k x1 x13 x14 (wrap64 (x15 + 1)) x268000 (x268001 ++ [(⟨wrap64 (((rd_T40 x13 x15).f0) + x1), (rd_T40 x13 x15).f1, (rd_T40 x13 x15).f2⟩ : S40)])) else (none))) else (none)) else (none)) else (some (x268000, x268001, true))
def bench_task_later.f (k : Nat) (a0_0 : Int) (l0_1 : List (S40)) (a1 : Int) : Option (Int × (List (S40)) × Bool) := bench_task_later.l0 k a1 l0_1 (l0_1.length : Int) 0 a0_0 ([] : List (S40))
theorem bench_task_later.mono_l : ∀ k, (∀ y0 y1 y2 y3 y4 y5, LeO (bench_task_later.l0 k y0 y1 y2 y3 y4 y5) (bench_task_later.l0 (k + 1) y0 y1 y2 y3 y4 y5))
 | 0 => fun _ _ _ _ _ _ r h => by simp [bench_task_later.l0] at h
 | k + 1 => by
  have ih0 := bench_task_later.mono_l k
  ·intro y0 y1 y2 y3 y4 y5
   unfold bench_task_later.l0
   repeat' first
   | (with_reducible exact ih0 _ _ _ _ _ _)
   | (with_reducible first | exact LeO.refl _ | exact LeO.none _ | refine LeO.ite ?_ ?_ | refine LeO.bind ?_ (fun _ => ?_))
   | exact ih0 _ _ _ _ _ _
   | exact LeO.none _ | refine LeO.ite ?_ ?_ | refine LeO.bind ?_ (fun _ => ?_)
theorem bench_task_later.mono : ∀ a0 a1 a2 k, LeO (bench_task_later.f k a0 a1 a2) (bench_task_later.f (k + 1) a0 a1 a2) := by
 intro a0 a1 a2 k
 have ih0 := bench_task_later.mono_l k
 unfold bench_task_later.f
 repeat' first
   | (with_reducible exact ih0 _ _ _ _ _ _)
   | (with_reducible first | exact LeO.refl _ | exact LeO.none _ | refine LeO.ite ?_ ?_ | refine LeO.bind ?_ (fun _ => ?_))
   | exact ih0 _ _ _ _ _ _
   | exact LeO.none _ | refine LeO.ite ?_ ?_ | refine LeO.bind ?_ (fun _ => ?_)
set_option maxHeartbeats 8000000 in
set_option maxRecDepth 100000 in
theorem bench_task_later.calls (k : Nat) (a0_0 : Int) (A0_1 : Option Addr) (c0_1 : Nat) (l0_1 : List (S40)) (a1 : Int) (r1 : Int) (r2 : List (S40)) (r3 : Bool) (w : World) (hr0_1 : Kd.C k40 w A0_1 l0_1.length l0_1) (hc0_1 : l0_1.length ≤ c0_1) (h : bench_task_later.f k a0_0 l0_1 a1 = some (r1, r2, r3)) :
  Calls Tryd.prog 31 #[.agg #[.int .i64 a0_0, .slice A0_1 l0_1.length c0_1], .int .i64 a1] w fun e w' => ∃ v1_ : Value, e = .returned (.tuple #[.agg #[.int .i64 r1, v1_], .bool r3]) ∧ Kd.R k40 40 w' w.heap.size (fun _ => True) v1_ r2 ∧ Below w.heap.size w w' := by
 have hu55 := Tryd.underlying55
 have hu40 := Tryd.underlying40
 have HR0_1 := Aside0.mk hr0_1
 have HC0_1 := Aside0.mk hc0_1
 clear hr0_1 hc0_1
 have HB := Aside0.mk (Below.refl w.heap.size w)
 have H : (bench_task_later.l0 k a1 l0_1 (l0_1.length : Int) 0 a0_0 ([] : List (S40))) = some (r1, r2, r3) := h
 clear h
 have H' := Aside0.mk H
 clear H
 go_enter Tryd.func31, Tryd.ntmps31
 go_wp2_with (first | ((with_reducible refine gate_dst (N := 2) rfl ?_); refine bxe 2 #[.int .i64 a0_0, .slice A0_1 l0_1.length c0_1] 55 ?_; intro gb265 hg w3 hbox hb; have n0_ := Aside0.mk (below_step lB hb); have n1_ := Aside0.mk (hbox); have n2_ := Aside0.mk (lG (w := w) hg); have n3_ := Aside0.mk (lG (w := w) hg); clear HB; have HB := n0_; have BK265 := n1_; have GW265 := n2_; have GE265 := n3_; clear n0_ n1_ n2_ n3_; clear hb hbox hg) | ((with_reducible refine gate_dst (N := 4) rfl ?_); refine bxe 4 #[.int .i64 0, .slice none 0 0] 55 ?_; intro gb266 hg w4 hbox hb; have n0_ := Aside0.mk (blk_below (g := gb265) (o := .cells #[.int .i64 a0_0, .slice A0_1 l0_1.length c0_1] 55 (0, 0)) (kX BK265.out) hb); have n1_ := Aside0.mk (below_step lB hb); have n2_ := Aside0.mk (hbox); have n3_ := Aside0.mk (lG (w := w) hg); have n4_ := Aside0.mk (lG (w := w) hg); have n5_ := Aside0.mk ((by rw [hg]; exact Nat.ne_of_lt (blk_lt (g := gb265) (o := .cells #[.int .i64 a0_0, .slice A0_1 l0_1.length c0_1] 55 (0, 0)) (kX BK265.out)) : gb265 ≠ gb266)); have n6_ := Aside0.mk ((by rw [hg]; exact Nat.ne_of_gt (blk_lt (g := gb265) (o := .cells #[.int .i64 a0_0, .slice A0_1 l0_1.length c0_1] 55 (0, 0)) (kX BK265.out)) : gb266 ≠ gb265)); clear BK265; clear HB; have BK265 := n0_; have HB := n1_; have BK266 := n2_; have GW266 := n3_; have GE266 := n4_; have NB265_266 := n5_; have NB266_265 := n6_; clear n0_ n1_ n2_ n3_ n4_ n5_ n6_; clear hb hbox hg; have hnb5 := NB265_266.out; have hnc5 := NB266_265.out; have hcz6_0 : w4.cell? ⟨gb265, 0, none⟩ = some (.int .i64 a0_0) := (blk_cell BK265.out 0).trans rfl; have hcz6_1 : w4.cell? ⟨gb265, 1, none⟩ = some (.slice A0_1 l0_1.length c0_1) := (blk_cell BK265.out 1).trans rfl; have hfz6_0 := blk_frozen BK265.out 0; have hfz6_1 := blk_frozen BK265.out 1) | ((with_reducible refine gate_dst (N := 6) rfl ?_); refine bxe 6 #[.int .i64 0, .slice none 0 0] 55 ?_; intro gb267 hg w7 hbox hb; have n0_ := Aside0.mk (blk_below (g := gb265) (o := .cells #[.int .i64 a0_0, .slice A0_1 l0_1.length c0_1] 55 (0, 0)) (kX BK265.out) hb); have n1_ := Aside0.mk (blk_below (g := gb266) (o := .cells #[.int .i64 0, .slice none 0 0] 55 (0, 0)) (kX BK266.out) hb); have n2_ := Aside0.mk (below_step lB hb); have n3_ := Aside0.mk (hbox); have n4_ := Aside0.mk (lG (w := w) hg); have n5_ := Aside0.mk (lG (w := w) hg); have n6_ := Aside0.mk ((by rw [hg]; exact Nat.ne_of_lt (blk_lt (g := gb265) (o := .cells #[.int .i64 a0_0, .slice A0_1 l0_1.length c0_1] 55 (0, 0)) (kX BK265.out)) : gb265 ≠ gb267)); have n7_ := Aside0.mk ((by rw [hg]; exact Nat.ne_of_gt (blk_lt (g := gb265) (o := .cells #[.int .i64 a0_0, .slice A0_1 l0_1.length c0_1] 55 (0, 0)) (kX BK265.out)) : gb267 ≠ gb265)); have n8_ := Aside0.mk ((by rw [hg]; exact Nat.ne_of_lt (blk_lt (g := gb266) (o := .cells #[.int .i64 0, .slice none 0 0] 55 (0, 0)) (kX BK266.out)) : gb266 ≠ gb267)); have n9_ := Aside0.mk ((by rw [hg]; exact Nat.ne_of_gt (blk_lt (g := gb266) (o := .cells #[.int .i64 0, .slice none 0 0] 55 (0, 0)) (kX BK266.out)) : gb267 ≠ gb266)); clear BK265; clear BK266; clear HB; have BK265 := n0_; have BK266 := n1_; have HB := n2_; have BK267 := n3_; have GW267 := n4_; have GE267 := n5_; have NB265_267 := n6_; have NB267_265 := n7_; have NB266_267 := n8_; have NB267_266 := n9_; clear n0_ n1_ n2_ n3_ n4_ n5_ n6_ n7_ n8_ n9_; clear hb hbox hg; have hnb8 := NB267_265.out; have hnc8 := NB265_267.out; have hnb9 := NB267_266.out; have hnc9 := NB266_267.out; have hcz10_0 : w7.cell? ⟨gb267, 0, none⟩ = some (.int .i64 0) := (blk_cell BK267.out 0).trans rfl; have hcz10_1 : w7.cell? ⟨gb267, 1, none⟩ = some (.slice none 0 0) := (blk_cell BK267.out 1).trans rfl; have hfz10_0 := blk_frozen BK267.out 0; have hfz10_1 := blk_frozen BK267.out 1; have hcz11_0 : w7.cell? ⟨gb265, 0, none⟩ = some (.int .i64 a0_0) := (blk_cell BK265.out 0).trans rfl; have hcz11_1 : w7.cell? ⟨gb265, 1, none⟩ = some (.slice A0_1 l0_1.length c0_1) := (blk_cell BK265.out 1).trans rfl; have hfz11_0 := blk_frozen BK265.out 0; have hfz11_1 := blk_frozen BK265.out 1))
 go_loopg [15] k (fun kq v15 w' => ∃ (x15_1 : Int) (x267000_1 : Int) (x268001_1 : List (S40)) (u268001 : Value), v15 = .int .i64 x15_1 ∧ Aside0 (bench_task_later.l0 kq a1 l0_1 (l0_1.length : Int) x15_1 a0_0 x268001_1 = some (r1, r2, r3)) ∧ Aside0 (kq ≤ k) ∧ Aside0 (Kd.R k40 40 w' w.heap.size (fun _ => True) u268001 x268001_1) ∧ Aside0 (w'.heap[gb265]? = some (.cells #[.int .i64 a0_0, (.slice A0_1 l0_1.length c0_1)] 55 (0, 0))) ∧ Aside0 (w'.heap[gb266]? = some (.cells #[.int .i64 x267000_1, (.slice none 0 0)] 55 (0, 0))) ∧ Aside0 (w'.heap[gb267]? = some (.cells #[.int .i64 a0_0, u268001] 55 (0, 0))) ∧ Aside0 (Below w.heap.size w w'))
 case atStart => exact ⟨(0), (0), (([] : List (S40))), (.slice none 0 0), (by first | rfl | (simp; done) | (simp [*]; done)), H', ⟨Nat.le_refl _⟩, ⟨by first | exact Kd.R_nil _ _ _ _ _ | exact Kd.N_nil _ _ _ _ _ | exact Kd.V_nil _ _ _ _ _ | exact Kd.Q_nil _ _ _ _ _ | exact Kd.S_nil _ _ _ _ _⟩, ⟨by (with_reducible repeat (first | refine kN ?_ _ | refine kD ?_ | refine kA ?_ _)); refine blk_far ?_ NB265_267.out _; (with_reducible repeat (first | refine kN ?_ _ | refine kD ?_ | refine kA ?_ _)); refine blk_far ?_ NB265_267.out _; (with_reducible repeat (first | refine kN ?_ _ | refine kD ?_ | refine kA ?_ _)); exact BK265.out⟩, ⟨by (with_reducible repeat (first | refine kN ?_ _ | refine kD ?_ | refine kA ?_ _)); refine blk_far ?_ NB266_267.out _; (with_reducible repeat (first | refine kN ?_ _ | refine kD ?_ | refine kA ?_ _)); refine blk_far ?_ NB266_267.out _; (with_reducible repeat (first | refine kN ?_ _ | refine kD ?_ | refine kA ?_ _)); exact BK266.out⟩, ⟨by (with_reducible repeat (first | refine kN ?_ _ | refine kD ?_ | refine kA ?_ _)); refine blk_put (cs := #[.int .i64 a0_0, .slice none 0 0]) ?_ 1 _ rfl; (with_reducible repeat (first | refine kN ?_ _ | refine kD ?_ | refine kA ?_ _)); refine blk_put (cs := #[.int .i64 0, .slice none 0 0]) ?_ 0 _ rfl; (with_reducible repeat (first | refine kN ?_ _ | refine kD ?_ | refine kA ?_ _)); exact BK267.out⟩, ⟨by repeat (first | (with_reducible first | exact HB.out | apply lA | apply lN | apply lD | refine lS ?_ GE265.out | refine lS ?_ GE266.out | refine lS ?_ GE267.out) | exact HB.out)⟩⟩
 case round =>
  clear H'
  try clear p2
  try clear c3
  try clear c5
  try clear c8
  try clear c9
  try clear hcz10_0
  try clear hcz10_1
  try clear hcz11_0
  try clear hcz11_1
  try clear hcz6_0
  try clear hcz6_1
  try clear hfz10_0
  try clear hfz10_1
  try clear hfz11_0
  try clear hfz11_1
  try clear hfz6_0
  try clear hfz6_1
  obtain ⟨x15_1, x267000_1, x268001_1, u268001, rfl, HA, HK1, HO_268001, BK265, BK266, BK267, HB⟩ := hrel
  cases gk with
  | zero => exact absurd HA.out (by simp [bench_task_later.l0])
  | succ k1 =>
   have H := HA.out
   clear HA
   simp only [bench_task_later.l0] at H
   by_cases c12 : x15_1 < (l0_1.length : Int)
   ·rw [if_pos c12] at H
    have c12b0 : decide (x15_1 < (l0_1.length : Int)) = true := decide_eq_true c12
    clear c12
    by_cases c13 : 0 ≤ x15_1
    ·rw [if_pos c13] at H
     have c13b0 : decide (0 ≤ x15_1) = true := decide_eq_true c13
     clear c13
     by_cases c14 : x15_1 < (l0_1.length : Int)
     ·rw [if_pos c14] at H
      have c14b0 : decide (x15_1 < (l0_1.length : Int)) = true := decide_eq_true c14
      clear c14
      by_cases c15 : (wrap64 (((rd_T40 l0_1 x15_1).f0) + a1)) ≥ ((rd_T40 l0_1 x15_1).f1)
      ·rw [if_pos c15] at H
       have c15b0 : decide (((rd_T40 l0_1 x15_1).f1) ≤ (wrap64 (((rd_T40 l0_1 x15_1).f0) + a1))) = true := decide_eq_true c15
       clear c15
       simp only [Option.some.injEq, Prod.mk.injEq] at H
       obtain ⟨rfl, rfl, rfl⟩ := H
       have p268 : 0 ≤ (x15_1 : Int) := of_decide_eq_true (by first | (with_reducible assumption) | assumption)
       have q268 : x15_1 < (l0_1.length : Int) := of_decide_eq_true (by first | (with_reducible assumption) | assumption)
       obtain ⟨ad268, e268, hx268_0, hx268_1, hx268_2⟩ := at_T40 HR0_1.out x15_1 p268 q268
       cases e268
       replace hx268_0 := cB HB.out hx268_0
       replace hx268_1 := cB HB.out hx268_1
       replace hx268_2 := cB HB.out hx268_2
       replace p268 := eq_true p268
       replace q268 := eq_true q268
       go_wp2_with (first | ((with_reducible refine gate_dst (N := 8) rfl ?_); refine bxe 8 #[.int .i64 0, .int .i64 0, .int .i64 0] 40 ?_; intro gb269 hg w16 hbox hb; have n0_ := Aside0.mk (Kd.R_below (Kd.R_elderB (by (with_reducible repeat (first | apply Kd.R_alloc | apply Kd.R_drewN | apply Kd.R_drew)); exact HO_268001.out) gb269 (Nat.le_of_eq hg.symm)) hb); have n1_ := Aside0.mk (blk_below (g := gb265) (o := .cells #[.int .i64 a0_0, .slice (some ad268) l0_1.length c0_1] 55 (0, 0)) (kX BK265.out) hb); have n2_ := Aside0.mk (blk_below (g := gb266) (o := .cells #[.int .i64 x267000_1, .slice none 0 0] 55 (0, 0)) (kX BK266.out) hb); have n3_ := Aside0.mk (blk_below (g := gb267) (o := .cells #[.int .i64 a0_0, u268001] 55 (0, 0)) (kX BK267.out) hb); have n4_ := Aside0.mk (below_step lB hb); have n5_ := Aside0.mk (hbox); have n6_ := Aside0.mk (lG (w := w) hg); have n7_ := Aside0.mk (lG (w := w) hg); have n8_ := Aside0.mk ((by rw [hg]; exact Nat.ne_of_lt (blk_lt (g := gb265) (o := .cells #[.int .i64 a0_0, .slice (some ad268) l0_1.length c0_1] 55 (0, 0)) (kX BK265.out)) : gb265 ≠ gb269)); have n9_ := Aside0.mk ((by rw [hg]; exact Nat.ne_of_gt (blk_lt (g := gb265) (o := .cells #[.int .i64 a0_0, .slice (some ad268) l0_1.length c0_1] 55 (0, 0)) (kX BK265.out)) : gb269 ≠ gb265)); have n10_ := Aside0.mk ((by rw [hg]; exact Nat.ne_of_lt (blk_lt (g := gb266) (o := .cells #[.int .i64 x267000_1, .slice none 0 0] 55 (0, 0)) (kX BK266.out)) : gb266 ≠ gb269)); have n11_ := Aside0.mk ((by rw [hg]; exact Nat.ne_of_gt (blk_lt (g := gb266) (o := .cells #[.int .i64 x267000_1, .slice none 0 0] 55 (0, 0)) (kX BK266.out)) : gb269 ≠ gb266)); have n12_ := Aside0.mk ((by rw [hg]; exact Nat.ne_of_lt (blk_lt (g := gb267) (o := .cells #[.int .i64 a0_0, u268001] 55 (0, 0)) (kX BK267.out)) : gb267 ≠ gb269)); have n13_ := Aside0.mk ((by rw [hg]; exact Nat.ne_of_gt (blk_lt (g := gb267) (o := .cells #[.int .i64 a0_0, u268001] 55 (0, 0)) (kX BK267.out)) : gb269 ≠ gb267)); clear HO_268001; clear BK265; clear BK266; clear BK267; clear HB; have HO_268001 := n0_; have BK265 := n1_; have BK266 := n2_; have BK267 := n3_; have HB := n4_; have BK269 := n5_; have GW269 := n6_; have GE269 := n7_; have NB265_269 := n8_; have NB269_265 := n9_; have NB266_269 := n10_; have NB269_266 := n11_; have NB267_269 := n12_; have NB269_267 := n13_; clear n0_ n1_ n2_ n3_ n4_ n5_ n6_ n7_ n8_ n9_ n10_ n11_ n12_ n13_; clear hb hbox hg; have hnb17 := NB269_265.out; have hnc17 := NB265_269.out; have hnb18 := NB269_266.out; have hnc18 := NB266_269.out; have hnb19 := NB269_267.out; have hnc19 := NB267_269.out; have hcz20_0 : w16.cell? ⟨gb269, 0, none⟩ = some (.int .i64 0) := (blk_cell BK269.out 0).trans rfl; have hcz20_1 : w16.cell? ⟨gb269, 1, none⟩ = some (.int .i64 0) := (blk_cell BK269.out 1).trans rfl; have hcz20_2 : w16.cell? ⟨gb269, 2, none⟩ = some (.int .i64 0) := (blk_cell BK269.out 2).trans rfl; have hfz20_0 := blk_frozen BK269.out 0; have hfz20_1 := blk_frozen BK269.out 1; have hfz20_2 := blk_frozen BK269.out 2; have hnb21 := NB266_265.out; have hnc21 := NB265_266.out; have hnb22 := NB266_267.out; have hnc22 := NB267_266.out; have hcz23_0 : w16.cell? ⟨gb266, 0, none⟩ = some (.int .i64 x267000_1) := (blk_cell BK266.out 0).trans rfl; have hcz23_1 : w16.cell? ⟨gb266, 1, none⟩ = some (.slice none 0 0) := (blk_cell BK266.out 1).trans rfl; have hfz23_0 := blk_frozen BK266.out 0; have hfz23_1 := blk_frozen BK266.out 1))
       refine bodyPost_ret (results_ct rfl _ _ gb266 55 #[.int .i64 0, .slice none 0 0] (0, 0) _ rfl (by (with_reducible repeat (first | refine kN ?_ _ | refine kD ?_ | refine kA ?_ _)); refine blk_put (cs := #[.int .i64 0, .slice none 0 0]) ?_ 1 _ rfl; (with_reducible repeat (first | refine kN ?_ _ | refine kD ?_ | refine kA ?_ _)); refine blk_put (cs := #[.int .i64 x267000_1, .slice none 0 0]) ?_ 0 _ rfl; (with_reducible repeat (first | refine kN ?_ _ | refine kD ?_ | refine kA ?_ _)); refine blk_far ?_ NB266_269.out _; (with_reducible repeat (first | refine kN ?_ _ | refine kD ?_ | refine kA ?_ _)); refine blk_far ?_ NB266_269.out _; (with_reducible repeat (first | refine kN ?_ _ | refine kD ?_ | refine kA ?_ _)); refine blk_far ?_ NB266_269.out _; (with_reducible repeat (first | refine kN ?_ _ | refine kD ?_ | refine kA ?_ _)); refine blk_far ?_ NB266_269.out _; (with_reducible repeat (first | refine kN ?_ _ | refine kD ?_ | refine kA ?_ _)); exact BK266.out) Tryd.underlying55 rfl (by kernel_rfl)) rfl ?_
       exact ⟨_, by first | rfl | (simp [errW_none, errW_some] <;> rfl) | (simp [*, errW_none, errW_some] <;> rfl), by first | exact Kd.R_nil _ _ _ _ _ | exact Kd.N_nil _ _ _ _ _ | exact Kd.V_nil _ _ _ _ _ | exact Kd.Q_nil _ _ _ _ _ | exact Kd.S_nil _ _ _ _ _, lB⟩
      ·rw [if_neg c15] at H
       have c15b0 : decide (((rd_T40 l0_1 x15_1).f1) ≤ (wrap64 (((rd_T40 l0_1 x15_1).f0) + a1))) = false := decide_eq_false c15
       clear c15
       by_cases c24 : x268001_1.length < 5864062014805
       ·rw [if_pos c24] at H
        have LMc24 := Aside0.mk c24
        clear c24
        obtain ⟨y270, hy270⟩ : ∃ y_ : List (S40), y_ = (x268001_1 ++ [(⟨wrap64 (((rd_T40 l0_1 x15_1).f0) + a1), (rd_T40 l0_1 x15_1).f1, (rd_T40 l0_1 x15_1).f2⟩ : S40)]) := ⟨_, rfl⟩
        replace H : (bench_task_later.l0 k1 a1 l0_1 (l0_1.length : Int) (wrap64 (x15_1 + 1)) a0_0 y270) = some (r1, r2, r3) := by first | (rw [hy270]; with_reducible exact H) | (have H2_ := (Option.bind_some _ _).symm.trans H; rw [hy270]; with_reducible exact H2_) | (have H2_ := (Option.bind_some _ _).symm.trans H; with_reducible exact H2_) | with_reducible exact H | (rw [hy270]; exact H) | exact H
        have Ny270 := Aside0.mk hy270
        clear hy270
        have H' := Aside0.mk H
        clear H
        have p268 : 0 ≤ (x15_1 : Int) := of_decide_eq_true (by first | (with_reducible assumption) | assumption)
        have q268 : x15_1 < (l0_1.length : Int) := of_decide_eq_true (by first | (with_reducible assumption) | assumption)
        obtain ⟨ad268, e268, hx268_0, hx268_1, hx268_2⟩ := at_T40 HR0_1.out x15_1 p268 q268
        cases e268
        replace hx268_0 := cB HB.out hx268_0
        replace hx268_1 := cB HB.out hx268_1
        replace hx268_2 := cB HB.out hx268_2
        replace p268 := eq_true p268
        replace q268 := eq_true q268
        go_wp2_with (first | ((with_reducible refine gate_dst (N := 8) rfl ?_); refine bxe 8 #[.int .i64 0, .int .i64 0, .int .i64 0] 40 ?_; intro gb269 hg w25 hbox hb; have n0_ := Aside0.mk (Kd.R_below (Kd.R_elderB (by (with_reducible repeat (first | apply Kd.R_alloc | apply Kd.R_drewN | apply Kd.R_drew)); exact HO_268001.out) gb269 (Nat.le_of_eq hg.symm)) hb); have n1_ := Aside0.mk (blk_below (g := gb265) (o := .cells #[.int .i64 a0_0, .slice (some ad268) l0_1.length c0_1] 55 (0, 0)) (kX BK265.out) hb); have n2_ := Aside0.mk (blk_below (g := gb266) (o := .cells #[.int .i64 x267000_1, .slice none 0 0] 55 (0, 0)) (kX BK266.out) hb); have n3_ := Aside0.mk (blk_below (g := gb267) (o := .cells #[.int .i64 a0_0, u268001] 55 (0, 0)) (kX BK267.out) hb); have n4_ := Aside0.mk (below_step lB hb); have n5_ := Aside0.mk (hbox); have n6_ := Aside0.mk (lG (w := w) hg); have n7_ := Aside0.mk (lG (w := w) hg); have n8_ := Aside0.mk ((by rw [hg]; exact Nat.ne_of_lt (blk_lt (g := gb265) (o := .cells #[.int .i64 a0_0, .slice (some ad268) l0_1.length c0_1] 55 (0, 0)) (kX BK265.out)) : gb265 ≠ gb269)); have n9_ := Aside0.mk ((by rw [hg]; exact Nat.ne_of_gt (blk_lt (g := gb265) (o := .cells #[.int .i64 a0_0, .slice (some ad268) l0_1.length c0_1] 55 (0, 0)) (kX BK265.out)) : gb269 ≠ gb265)); have n10_ := Aside0.mk ((by rw [hg]; exact Nat.ne_of_lt (blk_lt (g := gb266) (o := .cells #[.int .i64 x267000_1, .slice none 0 0] 55 (0, 0)) (kX BK266.out)) : gb266 ≠ gb269)); have n11_ := Aside0.mk ((by rw [hg]; exact Nat.ne_of_gt (blk_lt (g := gb266) (o := .cells #[.int .i64 x267000_1, .slice none 0 0] 55 (0, 0)) (kX BK266.out)) : gb269 ≠ gb266)); have n12_ := Aside0.mk ((by rw [hg]; exact Nat.ne_of_lt (blk_lt (g := gb267) (o := .cells #[.int .i64 a0_0, u268001] 55 (0, 0)) (kX BK267.out)) : gb267 ≠ gb269)); have n13_ := Aside0.mk ((by rw [hg]; exact Nat.ne_of_gt (blk_lt (g := gb267) (o := .cells #[.int .i64 a0_0, u268001] 55 (0, 0)) (kX BK267.out)) : gb269 ≠ gb267)); clear HO_268001; clear BK265; clear BK266; clear BK267; clear HB; have HO_268001 := n0_; have BK265 := n1_; have BK266 := n2_; have BK267 := n3_; have HB := n4_; have BK269 := n5_; have GW269 := n6_; have GE269 := n7_; have NB265_269 := n8_; have NB269_265 := n9_; have NB266_269 := n10_; have NB269_266 := n11_; have NB267_269 := n12_; have NB269_267 := n13_; clear n0_ n1_ n2_ n3_ n4_ n5_ n6_ n7_ n8_ n9_ n10_ n11_ n12_ n13_; clear hb hbox hg; have hnb26 := NB269_265.out; have hnc26 := NB265_269.out; have hnb27 := NB269_266.out; have hnc27 := NB266_269.out; have hnb28 := NB269_267.out; have hnc28 := NB267_269.out; have hcz29_0 : w25.cell? ⟨gb269, 0, none⟩ = some (.int .i64 0) := (blk_cell BK269.out 0).trans rfl; have hcz29_1 : w25.cell? ⟨gb269, 1, none⟩ = some (.int .i64 0) := (blk_cell BK269.out 1).trans rfl; have hcz29_2 : w25.cell? ⟨gb269, 2, none⟩ = some (.int .i64 0) := (blk_cell BK269.out 2).trans rfl; have hfz29_0 := blk_frozen BK269.out 0; have hfz29_1 := blk_frozen BK269.out 1; have hfz29_2 := blk_frozen BK269.out 2; have hnb30 := NB267_265.out; have hnc30 := NB265_267.out; have hnb31 := NB267_266.out; have hnc31 := NB266_267.out; have hcz32_0 : w25.cell? ⟨gb267, 0, none⟩ = some (.int .i64 a0_0) := (blk_cell BK267.out 0).trans rfl; have hcz32_1 : w25.cell? ⟨gb267, 1, none⟩ = some (u268001) := (blk_cell BK267.out 1).trans rfl; have hfz32_0 := blk_frozen BK267.out 0; have hfz32_1 := blk_frozen BK267.out 1) | ((with_reducible refine gate_builtin (b := .append) (xs := #[.tmp 31, .tmp 33]) rfl ?_); at_builtin; refine Kd.R_append k40 (w0 := w) w.heap.size rfl (.tmp 31) (.tmp 33) 22 40 (.agg #[(.int .i64 0), (.int .i64 0), (.int .i64 0)]) 24 rfl Tryd.underlying22 info40 rfl (by decide) (by omega) u268001 x268001_1 (⟨wrap64 (((rd_T40 l0_1 x15_1).f0) + a1), (rd_T40 l0_1 x15_1).f1, (rd_T40 l0_1 x15_1).f2⟩ : S40) [.int .i64 (wrap64 (((rd_T40 l0_1 x15_1).f0) + a1)), .int .i64 ((rd_T40 l0_1 x15_1).f1), .int .i64 ((rd_T40 l0_1 x15_1).f2)] (fun k_ => k_ ≠ gb269) (fun _ => False) rfl (by first | (go_simp; done) | (go_simp; rfl)) ?aP (fun _ hk => hk.elim) ?aF ?aO ?aB ?aS ?aL ?_; (case aP => exact k40_mkM _ _ _ (⟨wrap64 (((rd_T40 l0_1 x15_1).f0) + a1), (rd_T40 l0_1 x15_1).f1, (rd_T40 l0_1 x15_1).f2⟩ : S40)); (case aB => exact lB); (case aF => exact (fun k_ hk => Kd.freshB (g := gb269) (o := .cells #[.int .i64 (wrap64 (((rd_T40 l0_1 x15_1).f0) + a1)), .int .i64 ((rd_T40 l0_1 x15_1).f1), .int .i64 ((rd_T40 l0_1 x15_1).f2)] 40 (0, 0)) (by (with_reducible repeat (first | refine kN ?_ _ | refine kD ?_ | refine kA ?_ _)); refine blk_put (cs := #[.int .i64 ((rd_T40 l0_1 x15_1).f0), .int .i64 ((rd_T40 l0_1 x15_1).f1), .int .i64 ((rd_T40 l0_1 x15_1).f2)]) ?_ 0 _ rfl; (with_reducible repeat (first | refine kN ?_ _ | refine kD ?_ | refine kA ?_ _)); refine blk_put (cs := #[.int .i64 ((rd_T40 l0_1 x15_1).f0), .int .i64 ((rd_T40 l0_1 x15_1).f1), .int .i64 0]) ?_ 2 _ rfl; (with_reducible repeat (first | refine kN ?_ _ | refine kD ?_ | refine kA ?_ _)); refine blk_put (cs := #[.int .i64 ((rd_T40 l0_1 x15_1).f0), .int .i64 0, .int .i64 0]) ?_ 1 _ rfl; (with_reducible repeat (first | refine kN ?_ _ | refine kD ?_ | refine kA ?_ _)); refine blk_put (cs := #[.int .i64 0, .int .i64 0, .int .i64 0]) ?_ 0 _ rfl; (with_reducible repeat (first | refine kN ?_ _ | refine kD ?_ | refine kA ?_ _)); exact BK269.out) k_ hk)); (case aO => exact (by (with_reducible repeat (first | apply Kd.R_alloc | apply Kd.R_drewN | apply Kd.R_drew)); exact Kd.R_mono (Kd.R_far (p := ⟨gb269, 0, none⟩) (Kd.R_far (p := ⟨gb269, 2, none⟩) (Kd.R_far (p := ⟨gb269, 1, none⟩) (Kd.R_far (p := ⟨gb269, 0, none⟩) (Kd.R_mono HO_268001.out (fun k_ hk => (⟨hk, hk.2⟩ : _ ∧ k_ ≠ gb269))) (fun _ hk => hk.2) (.int .i64 ((rd_T40 l0_1 x15_1).f0))) (fun _ hk => hk.2) (.int .i64 ((rd_T40 l0_1 x15_1).f1))) (fun _ hk => hk.2) (.int .i64 ((rd_T40 l0_1 x15_1).f2))) (fun _ hk => hk.2) (.int .i64 (wrap64 (((rd_T40 l0_1 x15_1).f0) + a1)))) (fun _ hk => hk.1.2))); (case aS => exact (below_size lB)); (case aL => have := LMc24.out; omega); intro v271 w33 ho hb hg hat; rw [← Ny270.out] at ho; have n0_ := Aside0.mk (blk_grown (g := gb265) (o := .cells #[.int .i64 a0_0, .slice (some ad268) l0_1.length c0_1] 55 (0, 0)) (by (with_reducible repeat (first | refine kN ?_ _ | refine kD ?_ | refine kA ?_ _)); refine blk_far ?_ NB265_269.out _; (with_reducible repeat (first | refine kN ?_ _ | refine kD ?_ | refine kA ?_ _)); refine blk_far ?_ NB265_269.out _; (with_reducible repeat (first | refine kN ?_ _ | refine kD ?_ | refine kA ?_ _)); refine blk_far ?_ NB265_269.out _; (with_reducible repeat (first | refine kN ?_ _ | refine kD ?_ | refine kA ?_ _)); refine blk_far ?_ NB265_269.out _; (with_reducible repeat (first | refine kN ?_ _ | refine kD ?_ | refine kA ?_ _)); exact BK265.out) hg (Kd.R_ne HO_268001.out BK265.out (by decide))); have n1_ := Aside0.mk (blk_grown (g := gb266) (o := .cells #[.int .i64 x267000_1, .slice none 0 0] 55 (0, 0)) (by (with_reducible repeat (first | refine kN ?_ _ | refine kD ?_ | refine kA ?_ _)); refine blk_far ?_ NB266_269.out _; (with_reducible repeat (first | refine kN ?_ _ | refine kD ?_ | refine kA ?_ _)); refine blk_far ?_ NB266_269.out _; (with_reducible repeat (first | refine kN ?_ _ | refine kD ?_ | refine kA ?_ _)); refine blk_far ?_ NB266_269.out _; (with_reducible repeat (first | refine kN ?_ _ | refine kD ?_ | refine kA ?_ _)); refine blk_far ?_ NB266_269.out _; (with_reducible repeat (first | refine kN ?_ _ | refine kD ?_ | refine kA ?_ _)); exact BK266.out) hg (Kd.R_ne HO_268001.out BK266.out (by decide))); have n2_ := Aside0.mk (blk_grown (g := gb267) (o := .cells #[.int .i64 a0_0, u268001] 55 (0, 0)) (by (with_reducible repeat (first | refine kN ?_ _ | refine kD ?_ | refine kA ?_ _)); refine blk_far ?_ NB267_269.out _; (with_reducible repeat (first | refine kN ?_ _ | refine kD ?_ | refine kA ?_ _)); refine blk_far ?_ NB267_269.out _; (with_reducible repeat (first | refine kN ?_ _ | refine kD ?_ | refine kA ?_ _)); refine blk_far ?_ NB267_269.out _; (with_reducible repeat (first | refine kN ?_ _ | refine kD ?_ | refine kA ?_ _)); refine blk_far ?_ NB267_269.out _; (with_reducible repeat (first | refine kN ?_ _ | refine kD ?_ | refine kA ?_ _)); exact BK267.out) hg (Kd.R_ne HO_268001.out BK267.out (by decide))); have n3_ := Aside0.mk (blk_grown (g := gb269) (o := .cells #[.int .i64 (wrap64 (((rd_T40 l0_1 x15_1).f0) + a1)), .int .i64 ((rd_T40 l0_1 x15_1).f1), .int .i64 ((rd_T40 l0_1 x15_1).f2)] 40 (0, 0)) (by (with_reducible repeat (first | refine kN ?_ _ | refine kD ?_ | refine kA ?_ _)); refine blk_put (cs := #[.int .i64 ((rd_T40 l0_1 x15_1).f0), .int .i64 ((rd_T40 l0_1 x15_1).f1), .int .i64 ((rd_T40 l0_1 x15_1).f2)]) ?_ 0 _ rfl; (with_reducible repeat (first | refine kN ?_ _ | refine kD ?_ | refine kA ?_ _)); refine blk_put (cs := #[.int .i64 ((rd_T40 l0_1 x15_1).f0), .int .i64 ((rd_T40 l0_1 x15_1).f1), .int .i64 0]) ?_ 2 _ rfl; (with_reducible repeat (first | refine kN ?_ _ | refine kD ?_ | refine kA ?_ _)); refine blk_put (cs := #[.int .i64 ((rd_T40 l0_1 x15_1).f0), .int .i64 0, .int .i64 0]) ?_ 1 _ rfl; (with_reducible repeat (first | refine kN ?_ _ | refine kD ?_ | refine kA ?_ _)); refine blk_put (cs := #[.int .i64 0, .int .i64 0, .int .i64 0]) ?_ 0 _ rfl; (with_reducible repeat (first | refine kN ?_ _ | refine kD ?_ | refine kA ?_ _)); exact BK269.out) hg (Kd.R_away HO_268001.out (fun _ hk => hk.2))); have n4_ := Aside0.mk (hb); have n5_ := Aside0.mk (ho); clear BK265; clear BK266; clear BK267; clear BK269; clear HB; clear HO_268001; have BK265 := n0_; have BK266 := n1_; have BK267 := n2_; have BK269 := n3_; have HB := n4_; have HO272 := n5_; clear n0_ n1_ n2_ n3_ n4_ n5_; clear ho hb hg hat; obtain ⟨Ao34, co34, eo34⟩ := Kd.R_slice HO272.out; subst eo34; have hcz35_0 : w33.cell? ⟨gb267, 0, none⟩ = some (.int .i64 a0_0) := (blk_cell BK267.out 0).trans rfl; have hcz35_1 : w33.cell? ⟨gb267, 1, none⟩ = some (u268001) := (blk_cell BK267.out 1).trans rfl; have hfz35_0 := blk_frozen BK267.out 0; have hfz35_1 := blk_frozen BK267.out 1))
        go_roundg k1
        case measure => have := HK1.out; omega
        case rel => exact ⟨(wrap64 (x15_1 + 1)), (x267000_1), (y270), (.slice Ao34 y270.length co34), (by first | rfl | (simp; done) | (simp [*]; done)), H', ⟨by have := HK1.out; omega⟩, ⟨by (with_reducible repeat (first | apply Kd.R_alloc | apply Kd.R_drewN | apply Kd.R_drew)); exact Kd.R_mono (Kd.R_far (p := ⟨gb267, 1, none⟩) (Kd.R_types HO272.out BK267.out (by decide)) (fun _ hk => hk.2) (.slice Ao34 y270.length co34)) (fun _ hk => trivial)⟩, ⟨by (with_reducible repeat (first | refine kN ?_ _ | refine kD ?_ | refine kA ?_ _)); refine blk_far ?_ NB265_267.out _; (with_reducible repeat (first | refine kN ?_ _ | refine kD ?_ | refine kA ?_ _)); exact BK265.out⟩, ⟨by (with_reducible repeat (first | refine kN ?_ _ | refine kD ?_ | refine kA ?_ _)); refine blk_far ?_ NB266_267.out _; (with_reducible repeat (first | refine kN ?_ _ | refine kD ?_ | refine kA ?_ _)); exact BK266.out⟩, ⟨by (with_reducible repeat (first | refine kN ?_ _ | refine kD ?_ | refine kA ?_ _)); refine blk_put (cs := #[.int .i64 a0_0, u268001]) ?_ 1 _ rfl; (with_reducible repeat (first | refine kN ?_ _ | refine kD ?_ | refine kA ?_ _)); exact BK267.out⟩, ⟨by repeat (first | (with_reducible first | exact HB.out | apply lA | apply lN | apply lD | refine lS ?_ GE265.out | refine lS ?_ GE266.out | refine lS ?_ GE267.out | refine lS ?_ GE269.out) | exact HB.out)⟩⟩
       ·rw [if_neg c24] at H
        exact absurd H (by simp)
     ·rw [if_neg c14] at H
      exact absurd H (by simp)
    ·rw [if_neg c13] at H
     exact absurd H (by simp)
   ·rw [if_neg c12] at H
    have c12b0 : decide (x15_1 < (l0_1.length : Int)) = false := decide_eq_false c12
    clear c12
    simp only [Option.some.injEq, Prod.mk.injEq] at H
    obtain ⟨rfl, rfl, rfl⟩ := H
    have hnb36 := NB267_265.out
    have hnc36 := NB265_267.out
    have hnb37 := NB267_266.out
    have hnc37 := NB266_267.out
    have hcz38_0 : wr.cell? ⟨gb267, 0, none⟩ = some (.int .i64 a0_0) := (blk_cell BK267.out 0).trans rfl
    have hcz38_1 : wr.cell? ⟨gb267, 1, none⟩ = some (u268001) := (blk_cell BK267.out 1).trans rfl
    have hfz38_0 := blk_frozen BK267.out 0
    have hfz38_1 := blk_frozen BK267.out 1
    have hnb39 := NB266_265.out
    have hnc39 := NB265_266.out
    have hcz40_0 : wr.cell? ⟨gb266, 0, none⟩ = some (.int .i64 x267000_1) := (blk_cell BK266.out 0).trans rfl
    have hcz40_1 : wr.cell? ⟨gb266, 1, none⟩ = some (.slice none 0 0) := (blk_cell BK266.out 1).trans rfl
    have hfz40_0 := blk_frozen BK266.out 0
    have hfz40_1 := blk_frozen BK266.out 1
    obtain ⟨Ao41, co41, eo41⟩ := Kd.R_slice HO_268001.out
    subst eo41
    go_wp2
    refine bodyPost_ret (results_ct rfl _ _ gb266 55 #[.int .i64 a0_0, .slice Ao41 x268001_1.length co41] (0, 0) _ rfl (by (with_reducible repeat (first | refine kN ?_ _ | refine kD ?_ | refine kA ?_ _)); refine blk_put (cs := #[.int .i64 a0_0, .slice none 0 0]) ?_ 1 _ rfl; (with_reducible repeat (first | refine kN ?_ _ | refine kD ?_ | refine kA ?_ _)); refine blk_put (cs := #[.int .i64 x267000_1, .slice none 0 0]) ?_ 0 _ rfl; (with_reducible repeat (first | refine kN ?_ _ | refine kD ?_ | refine kA ?_ _)); exact BK266.out) Tryd.underlying55 rfl (by kernel_rfl)) rfl ?_
    exact ⟨_, by first | rfl | (simp [errW_none, errW_some] <;> rfl) | (simp [*, errW_none, errW_some] <;> rfl), by (with_reducible repeat (first | apply Kd.R_alloc | apply Kd.R_drewN | apply Kd.R_drew)); exact Kd.R_mono (Kd.R_far (p := ⟨gb266, 1, none⟩) (Kd.R_far (p := ⟨gb266, 0, none⟩) (Kd.R_types HO_268001.out BK266.out (by decide)) (fun _ hk => hk.2) (.int .i64 a0_0)) (fun _ hk => hk.2) (.slice Ao41 x268001_1.length co41)) (fun _ hk => trivial), lB⟩


mutual
def L4_tame.l0 : Nat → Int → List (S40) → Int → List (S40) → Int → Option (Int × (List (S40)))
 | 0, _, _, _, _, _ => none
 | k + 1, x0, x1, x2, x8, x9 => if x9 < (x1.length : Int) then (L4_tame.j1 k x0 x1 x2 x8 x9 (decide (x9 < x2))) else (L4_tame.j1 k x0 x1 x2 x8 x9 false)
def L4_tame.j1 : Nat → Int → List (S40) → Int → List (S40) → Int → Bool → Option (Int × (List (S40)))
 | 0, _, _, _, _, _, _ => none
 | k + 1, x0, x1, x2, x8, x9, x19 => if x19 = true then (if 0 ≤ x9 then (if x9 < (x1.length : Int) then ((R4_Job.f ((rd_T40 x1 x9).f0) ((rd_T40 x1 x9).f1) ((rd_T40 x1 x9).f2)).bind fun t192 => (if t192 = true then (if x8.length < 5864062014805 then (L4_tame.l0 k x0 x1 x2 (x8 ++ [(⟨(rd_T40 x1 x9).f0, (rd_T40 x1 x9).f1, (rd_T40 x1 x9).f2⟩ : S40)]) (wrap64 (x9 + 1))) else (none)) else ((L4_mod.f ((rd_T40 x1 x9).f0) 12).bind fun t196 => ((L4_mod.f ((rd_T40 x1 x9).f1) 9).bind fun t197 => ((L4_mod.f ((rd_T40 x1 x9).f2) 6).bind fun t198 => (if x8.length < 5864062014805 then (L4_tame.l0 k x0 x1 x2 (x8 ++ [(⟨t196, wrap64 ((wrap64 (t196 + 1)) + t197), wrap64 (1 + t198)⟩ : S40)]) (wrap64 (x9 + 1))) else (none))))))) else (none)) else (none)) else (if x0 < 1 then ((L4_mod.f x0 8).bind fun t188 => (some (wrap64 (1 + t188), x8))) else (if x0 > 8 then ((L4_mod.f x0 8).bind fun t189 => (some (wrap64 (1 + t189), x8))) else (some (x0, x8))))
end
def L4_tame.f (k : Nat) (a0 : Int) (l1 : List (S40)) (a2 : Int) : Option (Int × (List (S40))) := L4_tame.l0 k a0 l1 a2 ([] : List (S40)) 0
theorem L4_tame.mono_l : ∀ k, (∀ y0 y1 y2 y3 y4, LeO (L4_tame.l0 k y0 y1 y2 y3 y4) (L4_tame.l0 (k + 1) y0 y1 y2 y3 y4)) ∧ (∀ y0 y1 y2 y3 y4 y5, LeO (L4_tame.j1 k y0 y1 y2 y3 y4 y5) (L4_tame.j1 (k + 1) y0 y1 y2 y3 y4 y5))
 | 0 => ⟨fun _ _ _ _ _ r h => by simp [L4_tame.l0] at h, fun _ _ _ _ _ _ r h => by simp [L4_tame.j1] at h⟩
 | k + 1 => by
  obtain ⟨ih0, ih1⟩ := L4_tame.mono_l k
  refine ⟨?_, ?_⟩
  ·intro y0 y1 y2 y3 y4
   unfold L4_tame.l0
   repeat' first
   | (with_reducible exact ih0 _ _ _ _ _)
   | (with_reducible exact ih1 _ _ _ _ _ _)
   | (with_reducible first | exact LeO.refl _ | exact LeO.none _ | refine LeO.ite ?_ ?_ | refine LeO.bind ?_ (fun _ => ?_))
   | exact ih0 _ _ _ _ _
   | exact ih1 _ _ _ _ _ _
   | exact LeO.none _ | refine LeO.ite ?_ ?_ | refine LeO.bind ?_ (fun _ => ?_)
  ·intro y0 y1 y2 y3 y4 y5
   unfold L4_tame.j1
   repeat' first
   | (with_reducible exact ih0 _ _ _ _ _)
   | (with_reducible exact ih1 _ _ _ _ _ _)
   | (with_reducible first | exact LeO.refl _ | exact LeO.none _ | refine LeO.ite ?_ ?_ | refine LeO.bind ?_ (fun _ => ?_))
   | exact ih0 _ _ _ _ _
   | exact ih1 _ _ _ _ _ _
   | exact LeO.none _ | refine LeO.ite ?_ ?_ | refine LeO.bind ?_ (fun _ => ?_)
theorem L4_tame.mono : ∀ a0 a1 a2 k, LeO (L4_tame.f k a0 a1 a2) (L4_tame.f (k + 1) a0 a1 a2) := by
 intro a0 a1 a2 k
 obtain ⟨ih0, ih1⟩ := L4_tame.mono_l k
 unfold L4_tame.f
 repeat' first
   | (with_reducible exact ih0 _ _ _ _ _)
   | (with_reducible exact ih1 _ _ _ _ _ _)
   | (with_reducible first | exact LeO.refl _ | exact LeO.none _ | refine LeO.ite ?_ ?_ | refine LeO.bind ?_ (fun _ => ?_))
   | exact ih0 _ _ _ _ _
   | exact ih1 _ _ _ _ _ _
   | exact LeO.none _ | refine LeO.ite ?_ ?_ | refine LeO.bind ?_ (fun _ => ?_)
def L4_tame.T8 : Bool × List (List Nat × List Nat) := (true, [([], []), ([0], [0]), ([1], [1]), ([], []), ([3], [3]), ([4], [4]), ([2, 5], [2, 5]), ([0, 1, 2, 3, 4, 5, 6], []), ([7, 6, 5, 0, 1, 2, 3, 4, 5, 6], [6, 7])])
def L4_tame.B8 : List Nat := [0, 1, 3, 0, 8, 24, 63, 127, 255]
theorem L4_tame.tab8 : rtab .any (opsOf Tryd.f21 8) = L4_tame.T8 := by kernel_rfl
theorem L4_tame.bits8 : waitsOk L4_tame.T8.2 L4_tame.B8 = true := by kernel_rfl
set_option maxHeartbeats 8000000 in
set_option maxRecDepth 100000 in
theorem L4_tame.calls (k : Nat) (a0 : Int) (A1 : Option Addr) (c1 : Nat) (l1 : List (S40)) (a2 : Int) (r1 : Int) (r2 : List (S40)) (w : World) (hr1 : Kd.C k40 w A1 l1.length l1) (hc1 : l1.length ≤ c1) (h : L4_tame.f k a0 l1 a2 = some (r1, r2)) :
  Calls Tryd.prog 21 #[.int .i64 a0, .slice A1 l1.length c1, .int .i64 a2] w fun e w' => ∃ v1_ : Value, e = .returned (.tuple #[.int .i64 r1, v1_]) ∧ Kd.R k40 40 w' w.heap.size (fun _ => True) v1_ r2 ∧ Below w.heap.size w w' := by
 have hu40 := Tryd.underlying40
 have HR1 := Aside0.mk hr1
 have HC1 := Aside0.mk hc1
 clear hr1 hc1
 have HB := Aside0.mk (Below.refl w.heap.size w)
 have H : (L4_tame.l0 k a0 l1 a2 ([] : List (S40)) 0) = some (r1, r2) := h
 clear h
 have H' := Aside0.mk H
 clear H
 go_enter Tryd.func21, Tryd.ntmps21
 go_wp2
 go_loopg [8, 9] k (fun kq v8 v9 w' => ∃ (x8_1 : List (S40)) (x9_1 : Int), v9 = .int .i64 x9_1 ∧ Aside0 (L4_tame.l0 kq a0 l1 a2 x8_1 x9_1 = some (r1, r2)) ∧ Aside0 (kq ≤ k) ∧ Aside0 (Kd.R k40 40 w' w.heap.size (fun _ => True) v8 x8_1) ∧ Aside0 (Below w.heap.size w w'))
 case atStart => exact ⟨(([] : List (S40))), (0), (by first | rfl | (simp; done) | (simp [*]; done)), H', ⟨Nat.le_refl _⟩, ⟨by first | exact Kd.R_nil _ _ _ _ _ | exact Kd.N_nil _ _ _ _ _ | exact Kd.V_nil _ _ _ _ _ | exact Kd.Q_nil _ _ _ _ _ | exact Kd.S_nil _ _ _ _ _⟩, ⟨by repeat (first | (with_reducible first | exact HB.out | apply lA | apply lN | apply lD) | exact HB.out)⟩⟩
 case round =>
  clear H'
  try clear c1
  try clear c2
  try clear p2
  obtain ⟨x8_1, x9_1, rfl, HA, HK1, HO_8, HB⟩ := hrel
  cases gk with
  | zero => exact absurd HA.out (by simp [L4_tame.l0])
  | succ k1 =>
   have H := HA.out
   clear HA
   simp only [L4_tame.l0] at H
   have HC4 := Aside0.mk H
   clear H
   go_upto_region 3 with (fail)
   go_cut [19] (fun v19 wc => ∃ (kq : Nat) (x19_3 : Bool), v19 = .bool x19_3 ∧ Aside0 (L4_tame.j1 kq a0 l1 a2 x8_1 x9_1 x19_3 = some (r1, r2)) ∧ Aside0 (kq ≤ k1) ∧ Aside0 (Kd.R k40 40 wc w.heap.size (fun _ => True) u8 x8_1) ∧ Aside0 (Below w.heap.size w wc))
   case first =>
    have H := HC4.out
    clear HC4
    by_cases c5 : x9_1 < (l1.length : Int)
    rw [if_pos c5] at H
    have c5b0 : decide (x9_1 < (l1.length : Int)) = true := decide_eq_true c5
    clear c5
    (first | rw [c5b0] | (simp only [i64_w, i32_w]; rw [c5b0]) | skip)
    have H' := Aside0.mk H
    clear H
    rotate_left 1
    rw [if_neg c5] at H
    have c5b0 : decide (x9_1 < (l1.length : Int)) = false := decide_eq_false c5
    clear c5
    (first | rw [c5b0] | (simp only [i64_w, i32_w]; rw [c5b0]) | skip)
    have H' := Aside0.mk H
    clear H
    all_goals go_wp2
    all_goals first
      | (go_meet
         case rel => exact ⟨_, (decide (x9_1 < a2)), (by first | rfl | (simp; done) | (simp [*]; done)), H', ⟨by have := HK1.out; first | omega | exact Nat.le_refl _⟩, ⟨by (with_reducible repeat (first | apply Kd.R_alloc | apply Kd.R_drewN | apply Kd.R_drew)); exact HO_8.out⟩, ⟨by repeat (first | (with_reducible first | exact HB.out | apply lA | apply lN | apply lD) | exact HB.out)⟩⟩)
      | (go_meet
         case rel => exact ⟨_, (false), (by first | rfl | (simp; done) | (simp [*]; done)), H', ⟨by have := HK1.out; first | omega | exact Nat.le_refl _⟩, ⟨by (with_reducible repeat (first | apply Kd.R_alloc | apply Kd.R_drewN | apply Kd.R_drew)); exact HO_8.out⟩, ⟨by repeat (first | (with_reducible first | exact HB.out | apply lA | apply lN | apply lD) | exact HB.out)⟩⟩)
   case rest =>
    clear HC4
    try clear c1
    try clear c2
    try clear p2
    try clear c5
    try clear c5b0
    try clear p2
    obtain ⟨kq, x19_3, rfl, HA, HJ3, HO_8, HB⟩ := hcut
    cases kq with
    | zero => exact absurd HA.out (by simp [L4_tame.j1])
    | succ kj3 =>
     have H := HA.out
     clear HA
     simp only [L4_tame.j1] at H
     by_cases c6 : x19_3 = true
     ·subst c6
      have H1 : (if 0 ≤ x9_1 then (if x9_1 < (l1.length : Int) then ((R4_Job.f ((rd_T40 l1 x9_1).f0) ((rd_T40 l1 x9_1).f1) ((rd_T40 l1 x9_1).f2)).bind fun t192 => (if t192 = true then (if x8_1.length < 5864062014805 then (L4_tame.l0 kj3 a0 l1 a2 (x8_1 ++ [(⟨(rd_T40 l1 x9_1).f0, (rd_T40 l1 x9_1).f1, (rd_T40 l1 x9_1).f2⟩ : S40)]) (wrap64 (x9_1 + 1))) else (none)) else ((L4_mod.f ((rd_T40 l1 x9_1).f0) 12).bind fun t196 => ((L4_mod.f ((rd_T40 l1 x9_1).f1) 9).bind fun t197 => ((L4_mod.f ((rd_T40 l1 x9_1).f2) 6).bind fun t198 => (if x8_1.length < 5864062014805 then (L4_tame.l0 kj3 a0 l1 a2 (x8_1 ++ [(⟨t196, wrap64 ((wrap64 (t196 + 1)) + t197), wrap64 (1 + t198)⟩ : S40)]) (wrap64 (x9_1 + 1))) else (none))))))) else (none)) else (none)) = some (r1, r2) := by rw [if_pos rfl] at H; exact H
      clear H
      have H := H1
      clear H1
      by_cases c7 : 0 ≤ x9_1
      ·rw [if_pos c7] at H
       have c7b0 : decide (0 ≤ x9_1) = true := decide_eq_true c7
       clear c7
       by_cases c8 : x9_1 < (l1.length : Int)
       ·rw [if_pos c8] at H
        have c8b0 : decide (x9_1 < (l1.length : Int)) = true := decide_eq_true c8
        clear c8
        replace H := Option.bind_eq_some_iff.mp H
        obtain ⟨t192, A90, H⟩ := H
        replace H : (if t192 = true then (if x8_1.length < 5864062014805 then (L4_tame.l0 kj3 a0 l1 a2 (x8_1 ++ [(⟨(rd_T40 l1 x9_1).f0, (rd_T40 l1 x9_1).f1, (rd_T40 l1 x9_1).f2⟩ : S40)]) (wrap64 (x9_1 + 1))) else (none)) else ((L4_mod.f ((rd_T40 l1 x9_1).f0) 12).bind fun t196 => ((L4_mod.f ((rd_T40 l1 x9_1).f1) 9).bind fun t197 => ((L4_mod.f ((rd_T40 l1 x9_1).f2) 6).bind fun t198 => (if x8_1.length < 5864062014805 then (L4_tame.l0 kj3 a0 l1 a2 (x8_1 ++ [(⟨t196, wrap64 ((wrap64 (t196 + 1)) + t197), wrap64 (1 + t198)⟩ : S40)]) (wrap64 (x9_1 + 1))) else (none)))))) = some (r1, r2) := H
        have A9 := Aside0.mk A90
        clear A90
        by_cases c10 : t192 = true
        ·subst c10
         have H1 : (if x8_1.length < 5864062014805 then (L4_tame.l0 kj3 a0 l1 a2 (x8_1 ++ [(⟨(rd_T40 l1 x9_1).f0, (rd_T40 l1 x9_1).f1, (rd_T40 l1 x9_1).f2⟩ : S40)]) (wrap64 (x9_1 + 1))) else (none)) = some (r1, r2) := by rw [if_pos rfl] at H; exact H
         clear H
         have H := H1
         clear H1
         by_cases c11 : x8_1.length < 5864062014805
         ·rw [if_pos c11] at H
          have LMc11 := Aside0.mk c11
          clear c11
          obtain ⟨y193, hy193⟩ : ∃ y_ : List (S40), y_ = (x8_1 ++ [(⟨(rd_T40 l1 x9_1).f0, (rd_T40 l1 x9_1).f1, (rd_T40 l1 x9_1).f2⟩ : S40)]) := ⟨_, rfl⟩
          replace H : (L4_tame.l0 kj3 a0 l1 a2 y193 (wrap64 (x9_1 + 1))) = some (r1, r2) := by first | (rw [hy193]; with_reducible exact H) | (have H2_ := (Option.bind_some _ _).symm.trans H; rw [hy193]; with_reducible exact H2_) | (have H2_ := (Option.bind_some _ _).symm.trans H; with_reducible exact H2_) | with_reducible exact H | (rw [hy193]; exact H) | exact H
          have Ny193 := Aside0.mk hy193
          clear hy193
          have H' := Aside0.mk H
          clear H
          have p190 : 0 ≤ (x9_1 : Int) := of_decide_eq_true (by first | (with_reducible assumption) | assumption)
          have q190 : x9_1 < (l1.length : Int) := of_decide_eq_true (by first | (with_reducible assumption) | assumption)
          obtain ⟨ad190, e190, hx190_0, hx190_1, hx190_2⟩ := at_T40 HR1.out x9_1 p190 q190
          cases e190
          replace hx190_0 := cB HB.out hx190_0
          replace hx190_1 := cB HB.out hx190_1
          replace hx190_2 := cB HB.out hx190_2
          replace p190 := eq_true p190
          replace q190 := eq_true q190
          go_wp2_with (first | ((with_reducible refine gate_dst (N := 10) rfl ?_); refine bxe 10 #[.int .i64 0, .int .i64 0, .int .i64 0] 40 ?_; intro gb191 hg w12 hbox hb; have n0_ := Aside0.mk (Kd.R_below (Kd.R_elderB (by (with_reducible repeat (first | apply Kd.R_alloc | apply Kd.R_drewN | apply Kd.R_drew)); exact HO_8.out) gb191 (Nat.le_of_eq hg.symm)) hb); have n1_ := Aside0.mk (below_step lB hb); have n2_ := Aside0.mk (hbox); have n3_ := Aside0.mk (lG (w := w) hg); have n4_ := Aside0.mk (lG (w := w) hg); clear HO_8; clear HB; have HO_8 := n0_; have HB := n1_; have BK191 := n2_; have GW191 := n3_; have GE191 := n4_; clear n0_ n1_ n2_ n3_ n4_; clear hb hbox hg; have hcz13_0 : w12.cell? ⟨gb191, 0, none⟩ = some (.int .i64 0) := (blk_cell BK191.out 0).trans rfl; have hcz13_1 : w12.cell? ⟨gb191, 1, none⟩ = some (.int .i64 0) := (blk_cell BK191.out 1).trans rfl; have hcz13_2 : w12.cell? ⟨gb191, 2, none⟩ = some (.int .i64 0) := (blk_cell BK191.out 2).trans rfl; have hfz13_0 := blk_frozen BK191.out 0; have hfz13_1 := blk_frozen BK191.out 1; have hfz13_2 := blk_frozen BK191.out 2) | ((with_reducible refine gate_callee (f := 30) rfl ?_); refine goesL_ (some 27) rfl rfl Tryd.func30 (by kernel_rfl) rfl #[.agg #[.int .i64 ((rd_T40 l1 x9_1).f0), .int .i64 ((rd_T40 l1 x9_1).f1), .int .i64 ((rd_T40 l1 x9_1).f2)]] rfl (by (try simp only [List.map_toArray, List.map_cons, List.map_nil]); first | done | rfl | (simp only [List.length_drop, List.length_take]; rfl)) ?_; (with_reducible refine (R4_Job.calls ((rd_T40 l1 x9_1).f0) ((rd_T40 l1 x9_1).f1) ((rd_T40 l1 x9_1).f2) true _ A9.out).mono ?_); rintro e w14 ⟨rfl, hb⟩; refine ⟨_, rfl, ?_⟩; have n0_ := Aside0.mk (Kd.R_below (by (with_reducible repeat (first | apply Kd.R_alloc | apply Kd.R_drewN | apply Kd.R_drew)); exact (Kd.R_mono (Kd.R_far (p := ⟨gb191, 2, none⟩) (Kd.R_far (p := ⟨gb191, 1, none⟩) (Kd.R_far (p := ⟨gb191, 0, none⟩) (Kd.R_mono HO_8.out (fun k_ hk => (⟨hk, hk.2⟩ : _ ∧ k_ ≠ gb191))) (fun _ hk => hk.2) (.int .i64 ((rd_T40 l1 x9_1).f0))) (fun _ hk => hk.2) (.int .i64 ((rd_T40 l1 x9_1).f1))) (fun _ hk => hk.2) (.int .i64 ((rd_T40 l1 x9_1).f2))) (fun _ h_ => h_.1))) hb); have n1_ := Aside0.mk (blk_below (g := gb191) (o := .cells #[.int .i64 ((rd_T40 l1 x9_1).f0), .int .i64 ((rd_T40 l1 x9_1).f1), .int .i64 ((rd_T40 l1 x9_1).f2)] 40 (0, 0)) (by (with_reducible repeat (first | refine kN ?_ _ | refine kD ?_ | refine kA ?_ _)); refine blk_put (cs := #[.int .i64 ((rd_T40 l1 x9_1).f0), .int .i64 ((rd_T40 l1 x9_1).f1), .int .i64 0]) ?_ 2 _ rfl; (with_reducible repeat (first | refine kN ?_ _ | refine kD ?_ | refine kA ?_ _)); refine blk_put (cs := #[.int .i64 ((rd_T40 l1 x9_1).f0), .int .i64 0, .int .i64 0]) ?_ 1 _ rfl; (with_reducible repeat (first | refine kN ?_ _ | refine kD ?_ | refine kA ?_ _)); refine blk_put (cs := #[.int .i64 0, .int .i64 0, .int .i64 0]) ?_ 0 _ rfl; (with_reducible repeat (first | refine kN ?_ _ | refine kD ?_ | refine kA ?_ _)); exact BK191.out) hb); have n2_ := Aside0.mk (below_step lB hb); clear HO_8; clear BK191; clear HB; have HO_8 := n0_; have BK191 := n1_; have HB := n2_; clear n0_ n1_ n2_; (try clear hb); (try clear hb2); (try clear hk); (try clear hi); have hcz15_0 : w14.cell? ⟨gb191, 0, none⟩ = some (.int .i64 ((rd_T40 l1 x9_1).f0)) := (blk_cell BK191.out 0).trans rfl; have hcz15_1 : w14.cell? ⟨gb191, 1, none⟩ = some (.int .i64 ((rd_T40 l1 x9_1).f1)) := (blk_cell BK191.out 1).trans rfl; have hcz15_2 : w14.cell? ⟨gb191, 2, none⟩ = some (.int .i64 ((rd_T40 l1 x9_1).f2)) := (blk_cell BK191.out 2).trans rfl; have hfz15_0 := blk_frozen BK191.out 0; have hfz15_1 := blk_frozen BK191.out 1; have hfz15_2 := blk_frozen BK191.out 2) | ((with_reducible refine gate_builtin (b := .append) (xs := #[.tmp 46, .tmp 48]) rfl ?_); at_builtin; refine Kd.R_append k40 (w0 := w) w.heap.size rfl (.tmp 46) (.tmp 48) 22 40 (.agg #[(.int .i64 0), (.int .i64 0), (.int .i64 0)]) 24 rfl Tryd.underlying22 info40 rfl (by decide) (by omega) u8 x8_1 (⟨(rd_T40 l1 x9_1).f0, (rd_T40 l1 x9_1).f1, (rd_T40 l1 x9_1).f2⟩ : S40) [.int .i64 ((rd_T40 l1 x9_1).f0), .int .i64 ((rd_T40 l1 x9_1).f1), .int .i64 ((rd_T40 l1 x9_1).f2)] (fun k_ => k_ ≠ gb191) (fun _ => False) rfl rfl ?aP (fun _ hk => hk.elim) ?aF ?aO ?aB ?aS ?aL ?_; (case aP => exact k40_mkM _ _ _ (⟨(rd_T40 l1 x9_1).f0, (rd_T40 l1 x9_1).f1, (rd_T40 l1 x9_1).f2⟩ : S40)); (case aB => exact lB); (case aF => exact (fun k_ hk => Kd.freshB (g := gb191) (o := .cells #[.int .i64 ((rd_T40 l1 x9_1).f0), .int .i64 ((rd_T40 l1 x9_1).f1), .int .i64 ((rd_T40 l1 x9_1).f2)] 40 (0, 0)) (kX BK191.out) k_ hk)); (case aO => exact (by (with_reducible repeat (first | apply Kd.R_alloc | apply Kd.R_drewN | apply Kd.R_drew)); exact Kd.R_mono HO_8.out (fun _ hk => hk.2))); (case aS => exact (below_size lB)); (case aL => have := LMc11.out; omega); intro v194 w16 ho hb hg hat; rw [← Ny193.out] at ho; have n0_ := Aside0.mk (blk_grown (g := gb191) (o := .cells #[.int .i64 ((rd_T40 l1 x9_1).f0), .int .i64 ((rd_T40 l1 x9_1).f1), .int .i64 ((rd_T40 l1 x9_1).f2)] 40 (0, 0)) (kX BK191.out) hg (Kd.R_away HO_8.out (fun _ hk => hk.2))); have n1_ := Aside0.mk (hb); have n2_ := Aside0.mk (ho); clear BK191; clear HB; clear HO_8; have BK191 := n0_; have HB := n1_; have HO195 := n2_; clear n0_ n1_ n2_; clear ho hb hg hat))
          go_roundg kj3
          case measure => have := HK1.out; have := HJ3.out; omega
          case rel => exact ⟨(y193), (wrap64 (x9_1 + 1)), (by first | rfl | (simp; done) | (simp [*]; done)), H', ⟨by have := HK1.out; have := HJ3.out; omega⟩, ⟨by (with_reducible repeat (first | apply Kd.R_alloc | apply Kd.R_drewN | apply Kd.R_drew)); exact Kd.R_mono HO195.out (fun _ hk => trivial)⟩, ⟨by repeat (first | (with_reducible first | exact HB.out | apply lA | apply lN | apply lD | refine lS ?_ GE191.out) | exact HB.out)⟩⟩
         ·rw [if_neg c11] at H
          exact absurd H (by simp)
        ·replace c10 := Bool.eq_false_iff.mpr c10
         subst c10
         have H1 : ((L4_mod.f ((rd_T40 l1 x9_1).f0) 12).bind fun t196 => ((L4_mod.f ((rd_T40 l1 x9_1).f1) 9).bind fun t197 => ((L4_mod.f ((rd_T40 l1 x9_1).f2) 6).bind fun t198 => (if x8_1.length < 5864062014805 then (L4_tame.l0 kj3 a0 l1 a2 (x8_1 ++ [(⟨t196, wrap64 ((wrap64 (t196 + 1)) + t197), wrap64 (1 + t198)⟩ : S40)]) (wrap64 (x9_1 + 1))) else (none))))) = some (r1, r2) := by rw [if_neg (show ¬ (false = true) by decide)] at H; exact H
         clear H
         have H := H1
         clear H1
         replace H := Option.bind_eq_some_iff.mp H
         obtain ⟨t196, A170, H⟩ := H
         replace H : ((L4_mod.f ((rd_T40 l1 x9_1).f1) 9).bind fun t197 => ((L4_mod.f ((rd_T40 l1 x9_1).f2) 6).bind fun t198 => (if x8_1.length < 5864062014805 then (L4_tame.l0 kj3 a0 l1 a2 (x8_1 ++ [(⟨t196, wrap64 ((wrap64 (t196 + 1)) + t197), wrap64 (1 + t198)⟩ : S40)]) (wrap64 (x9_1 + 1))) else (none)))) = some (r1, r2) := H
         have A17 := Aside0.mk A170
         clear A170
         replace H := Option.bind_eq_some_iff.mp H
         obtain ⟨t197, A180, H⟩ := H
         replace H : ((L4_mod.f ((rd_T40 l1 x9_1).f2) 6).bind fun t198 => (if x8_1.length < 5864062014805 then (L4_tame.l0 kj3 a0 l1 a2 (x8_1 ++ [(⟨t196, wrap64 ((wrap64 (t196 + 1)) + t197), wrap64 (1 + t198)⟩ : S40)]) (wrap64 (x9_1 + 1))) else (none))) = some (r1, r2) := H
         have A18 := Aside0.mk A180
         clear A180
         replace H := Option.bind_eq_some_iff.mp H
         obtain ⟨t198, A190, H⟩ := H
         replace H : (if x8_1.length < 5864062014805 then (L4_tame.l0 kj3 a0 l1 a2 (x8_1 ++ [(⟨t196, wrap64 ((wrap64 (t196 + 1)) + t197), wrap64 (1 + t198)⟩ : S40)]) (wrap64 (x9_1 + 1))) else (none)) = some (r1, r2) := H
         have A19 := Aside0.mk A190
         clear A190
         by_cases c20 : x8_1.length < 5864062014805
         ·rw [if_pos c20] at H
          have LMc20 := Aside0.mk c20
          clear c20
          obtain ⟨y199, hy199⟩ : ∃ y_ : List (S40), y_ = (x8_1 ++ [(⟨t196, wrap64 ((wrap64 (t196 + 1)) + t197), wrap64 (1 + t198)⟩ : S40)]) := ⟨_, rfl⟩
          replace H : (L4_tame.l0 kj3 a0 l1 a2 y199 (wrap64 (x9_1 + 1))) = some (r1, r2) := by first | (rw [hy199]; with_reducible exact H) | (have H2_ := (Option.bind_some _ _).symm.trans H; rw [hy199]; with_reducible exact H2_) | (have H2_ := (Option.bind_some _ _).symm.trans H; with_reducible exact H2_) | with_reducible exact H | (rw [hy199]; exact H) | exact H
          have Ny199 := Aside0.mk hy199
          clear hy199
          have H' := Aside0.mk H
          clear H
          have p190 : 0 ≤ (x9_1 : Int) := of_decide_eq_true (by first | (with_reducible assumption) | assumption)
          have q190 : x9_1 < (l1.length : Int) := of_decide_eq_true (by first | (with_reducible assumption) | assumption)
          obtain ⟨ad190, e190, hx190_0, hx190_1, hx190_2⟩ := at_T40 HR1.out x9_1 p190 q190
          cases e190
          replace hx190_0 := cB HB.out hx190_0
          replace hx190_1 := cB HB.out hx190_1
          replace hx190_2 := cB HB.out hx190_2
          replace p190 := eq_true p190
          replace q190 := eq_true q190
          try go_wp2_with (first | ((with_reducible refine gate_dst (N := 10) rfl ?_); refine bxe 10 #[.int .i64 0, .int .i64 0, .int .i64 0] 40 ?_; intro gb191 hg w21 hbox hb; have n0_ := Aside0.mk (Kd.R_below (Kd.R_elderB (by (with_reducible repeat (first | apply Kd.R_alloc | apply Kd.R_drewN | apply Kd.R_drew)); exact HO_8.out) gb191 (Nat.le_of_eq hg.symm)) hb); have n1_ := Aside0.mk (below_step lB hb); have n2_ := Aside0.mk (hbox); have n3_ := Aside0.mk (lG (w := w) hg); have n4_ := Aside0.mk (lG (w := w) hg); clear HO_8; clear HB; have HO_8 := n0_; have HB := n1_; have BK191 := n2_; have GW191 := n3_; have GE191 := n4_; clear n0_ n1_ n2_ n3_ n4_; clear hb hbox hg; have hcz22_0 : w21.cell? ⟨gb191, 0, none⟩ = some (.int .i64 0) := (blk_cell BK191.out 0).trans rfl; have hcz22_1 : w21.cell? ⟨gb191, 1, none⟩ = some (.int .i64 0) := (blk_cell BK191.out 1).trans rfl; have hcz22_2 : w21.cell? ⟨gb191, 2, none⟩ = some (.int .i64 0) := (blk_cell BK191.out 2).trans rfl; have hfz22_0 := blk_frozen BK191.out 0; have hfz22_1 := blk_frozen BK191.out 1; have hfz22_2 := blk_frozen BK191.out 2) | ((with_reducible refine gate_callee (f := 30) rfl ?_); refine goesL_ (some 27) rfl rfl Tryd.func30 (by kernel_rfl) rfl #[.agg #[.int .i64 ((rd_T40 l1 x9_1).f0), .int .i64 ((rd_T40 l1 x9_1).f1), .int .i64 ((rd_T40 l1 x9_1).f2)]] rfl (by (try simp only [List.map_toArray, List.map_cons, List.map_nil]); first | done | rfl | (simp only [List.length_drop, List.length_take]; rfl)) ?_; (with_reducible refine (R4_Job.calls ((rd_T40 l1 x9_1).f0) ((rd_T40 l1 x9_1).f1) ((rd_T40 l1 x9_1).f2) false _ A9.out).mono ?_); rintro e w23 ⟨rfl, hb⟩; refine ⟨_, rfl, ?_⟩; have n0_ := Aside0.mk (Kd.R_below (by (with_reducible repeat (first | apply Kd.R_alloc | apply Kd.R_drewN | apply Kd.R_drew)); exact (Kd.R_mono (Kd.R_far (p := ⟨gb191, 2, none⟩) (Kd.R_far (p := ⟨gb191, 1, none⟩) (Kd.R_far (p := ⟨gb191, 0, none⟩) (Kd.R_mono HO_8.out (fun k_ hk => (⟨hk, hk.2⟩ : _ ∧ k_ ≠ gb191))) (fun _ hk => hk.2) (.int .i64 ((rd_T40 l1 x9_1).f0))) (fun _ hk => hk.2) (.int .i64 ((rd_T40 l1 x9_1).f1))) (fun _ hk => hk.2) (.int .i64 ((rd_T40 l1 x9_1).f2))) (fun _ h_ => h_.1))) hb); have n1_ := Aside0.mk (blk_below (g := gb191) (o := .cells #[.int .i64 ((rd_T40 l1 x9_1).f0), .int .i64 ((rd_T40 l1 x9_1).f1), .int .i64 ((rd_T40 l1 x9_1).f2)] 40 (0, 0)) (by (with_reducible repeat (first | refine kN ?_ _ | refine kD ?_ | refine kA ?_ _)); refine blk_put (cs := #[.int .i64 ((rd_T40 l1 x9_1).f0), .int .i64 ((rd_T40 l1 x9_1).f1), .int .i64 0]) ?_ 2 _ rfl; (with_reducible repeat (first | refine kN ?_ _ | refine kD ?_ | refine kA ?_ _)); refine blk_put (cs := #[.int .i64 ((rd_T40 l1 x9_1).f0), .int .i64 0, .int .i64 0]) ?_ 1 _ rfl; (with_reducible repeat (first | refine kN ?_ _ | refine kD ?_ | refine kA ?_ _)); refine blk_put (cs := #[.int .i64 0, .int .i64 0, .int .i64 0]) ?_ 0 _ rfl; (with_reducible repeat (first | refine kN ?_ _ | refine kD ?_ | refine kA ?_ _)); exact BK191.out) hb); have n2_ := Aside0.mk (below_step lB hb); clear HO_8; clear BK191; clear HB; have HO_8 := n0_; have BK191 := n1_; have HB := n2_; clear n0_ n1_ n2_; (try clear hb); (try clear hb2); (try clear hk); (try clear hi); have hcz24_0 : w23.cell? ⟨gb191, 0, none⟩ = some (.int .i64 ((rd_T40 l1 x9_1).f0)) := (blk_cell BK191.out 0).trans rfl; have hcz24_1 : w23.cell? ⟨gb191, 1, none⟩ = some (.int .i64 ((rd_T40 l1 x9_1).f1)) := (blk_cell BK191.out 1).trans rfl; have hcz24_2 : w23.cell? ⟨gb191, 2, none⟩ = some (.int .i64 ((rd_T40 l1 x9_1).f2)) := (blk_cell BK191.out 2).trans rfl; have hfz24_0 := blk_frozen BK191.out 0; have hfz24_1 := blk_frozen BK191.out 1; have hfz24_2 := blk_frozen BK191.out 2) | ((with_reducible refine gate_callee (f := 23) rfl ?_); refine goesL_ (some 31) rfl rfl Tryd.func23 (by kernel_rfl) rfl #[.int .i64 ((rd_T40 l1 x9_1).f0), .int .i64 12] rfl (by (try simp only [List.map_toArray, List.map_cons, List.map_nil]); first | done | rfl | (simp only [List.length_drop, List.length_take]; rfl)) ?_; (with_reducible refine (L4_mod.calls ((rd_T40 l1 x9_1).f0) 12 t196 _ A17.out).mono ?_); rintro e w' ⟨rfl, ⟨nd, rfl⟩⟩; refine ⟨_, rfl, ?_⟩; (try (rw [drewN_self w23]; generalize hq_ : World.drewN w23 _ = w23; have n0_ : Aside0 (Kd.R k40 40 w23 w.heap.size (fun k_ => k_ ≠ gb191) u8 x8_1) := ⟨by rw [← hq_]; exact (by (with_reducible repeat (first | apply Kd.R_alloc | apply Kd.R_drewN | apply Kd.R_drew)); exact Kd.R_mono HO_8.out (fun _ hk => hk.2))⟩; have n1_ : Aside0 (w23.heap[gb191]? = some (.cells #[.int .i64 ((rd_T40 l1 x9_1).f0), .int .i64 ((rd_T40 l1 x9_1).f1), .int .i64 ((rd_T40 l1 x9_1).f2)] 40 (0, 0))) := ⟨by rw [← hq_]; exact (kX BK191.out)⟩; have n2_ : Aside0 (Below w.heap.size w w23) := ⟨by rw [← hq_]; exact lB⟩; clear HO_8 BK191 HB hq_; have HO_8 := n0_; have BK191 := n1_; have HB := n2_; clear n0_ n1_ n2_)); have hfm_0 := blk_frozen BK191.out 0; have hcm_0 : _ = some _ := (blk_cell BK191.out 0).trans rfl; have hfm_1 := blk_frozen BK191.out 1; have hcm_1 : _ = some _ := (blk_cell BK191.out 1).trans rfl; have hfm_2 := blk_frozen BK191.out 2; have hcm_2 : _ = some _ := (blk_cell BK191.out 2).trans rfl))
          have n0_ : Aside0 (Kd.R k40 40 (w23.setCell ⟨gb191, 0, none⟩ (.int .i64 t196)) w.heap.size (fun k_ => k_ ≠ gb191) u8 x8_1) := ⟨by (with_reducible repeat (first | apply Kd.R_alloc | apply Kd.R_drewN | apply Kd.R_drew)); exact Kd.R_far (p := ⟨gb191, 0, none⟩) HO_8.out (fun _ hk => hk) (.int .i64 t196)⟩
          have n1_ : Aside0 ((w23.setCell ⟨gb191, 0, none⟩ (.int .i64 t196)).heap[gb191]? = some (.cells #[.int .i64 t196, .int .i64 ((rd_T40 l1 x9_1).f1), .int .i64 ((rd_T40 l1 x9_1).f2)] 40 (0, 0))) := ⟨by (with_reducible repeat (first | refine kN ?_ _ | refine kD ?_ | refine kA ?_ _)); refine blk_put (cs := #[.int .i64 ((rd_T40 l1 x9_1).f0), .int .i64 ((rd_T40 l1 x9_1).f1), .int .i64 ((rd_T40 l1 x9_1).f2)]) ?_ 0 _ rfl; (with_reducible repeat (first | refine kN ?_ _ | refine kD ?_ | refine kA ?_ _)); exact BK191.out⟩
          have n2_ : Aside0 (Below w.heap.size w (w23.setCell ⟨gb191, 0, none⟩ (.int .i64 t196))) := ⟨by repeat (first | (with_reducible first | exact HB.out | apply lA | apply lN | apply lD | refine lS ?_ GE191.out) | exact HB.out)⟩
          (try clear HO_8)
          (try clear BK191)
          (try clear HB)
          generalize (w23.setCell ⟨gb191, 0, none⟩ (.int .i64 t196)) = w25 at n0_ n1_ n2_ ⊢
          have HO_8 := n0_
          have BK191 := n1_
          have HB := n2_
          clear n0_ n1_ n2_
          replace HO_8 := Aside0.mk (Kd.R_drew HO_8.out)
          replace BK191 := Aside0.mk (kD BK191.out)
          replace HB := Aside0.mk (lD HB.out)
          refine start_ (n := 9) (S := fun w' => w'.cell? ⟨gb191, 0, none⟩ = some (.int .i64 t196) ∧ w'.cell? ⟨gb191, 1, none⟩ = some (.int .i64 ((rd_T40 l1 x9_1).f1)) ∧ w'.cell? ⟨gb191, 2, none⟩ = some (.int .i64 ((rd_T40 l1 x9_1).f2))) (ds := [8]) (Bs 0 9) (by kernel_rfl) rfl rfl ⟨(blk_cell BK191.out 0).trans rfl, (blk_cell BK191.out 1).trans rfl, (blk_cell BK191.out 2).trans rfl⟩ (fun hHeld => ?_); refine with_tabW L4_tame.tab8 L4_tame.bits8 (fun HT_ HW_ => ?_)
          generalize w25.drew = w26 at HO_8 BK191 HB hHeld ⊢
          refine pu 0 33 (Bs 1 9) HT_ ?_
          refine pu 3 36 #[τ,φ,φ,τ,φ,φ,φ,φ,φ] HT_ ?_
          refine ta 1 34 #[τ,τ,φ,τ,φ,φ,φ,φ,φ] HT_ HW_ hHeld ?_
          refine pu 2 35 (Bs 4 9) HT_ ?_
          refine ta 4 37 (Bs 5 9) HT_ HW_ hHeld ?_
          refine one_ (i := 5) (N := some 38) (Bs 6 9) rfl rfl (one_of HT_.out (by kernel_rfl)) (by decide) (fun K hK => ?_)
          refine goes_ Tryd.func23 (by kernel_rfl) rfl #[.int .i64 ((rd_T40 l1 x9_1).f1), .int .i64 9] (by rfl) rfl rfl (by (try simp only [List.map_toArray, List.map_cons, List.map_nil]); first | done | rfl | (simp only [List.length_drop, List.length_take]; rfl)) ?_
          with_reducible refine (L4_mod.calls ((rd_T40 l1 x9_1).f1) 9 t197 _ A18.out).mono ?_
          rintro e w' ⟨rfl, ⟨nd, rfl⟩⟩
          refine ⟨_, rfl, ?_⟩
          refine hK.out _ _ ⟨(blk_cell BK191.out 0).trans rfl, (blk_cell BK191.out 1).trans rfl, (blk_cell BK191.out 2).trans rfl⟩ (fun hHeld => ?_)
          clear hK K
          refine nm 38 ?_
          refine pu 6 39 (Bs 7 9) HT_ ?_
          refine pu 7 40 (Bs 8 9) HT_ ?_
          refine last_ (i := 8) (N := none) (Bs 9 9) rfl rfl (one_of HT_.out (by kernel_rfl)) (by decide) (fun K hK => ?_)
          have hs27 : w26.cell? ⟨gb191, 1, none⟩ = some (.int .i64 ((rd_T40 l1 x9_1).f1)) := (blk_cell BK191.out 1).trans rfl
          have hfs27 := blk_frozen BK191.out 1
          refine skip_ (w1 := ?_) (by rfl) rfl ?_ ?_
          rotate_left
          ·go_simp
           rfl
          refine hK.out _ _ ?_
          clear hK K
          refine done_ (done_of HT_.out (by kernel_rfl)) ?_
          have hcz28_0 : w26.cell? ⟨gb191, 0, none⟩ = some (.int .i64 t196) := (blk_cell BK191.out 0).trans rfl
          have hcz28_1 : w26.cell? ⟨gb191, 1, none⟩ = some (.int .i64 ((rd_T40 l1 x9_1).f1)) := (blk_cell BK191.out 1).trans rfl
          have hcz28_2 : w26.cell? ⟨gb191, 2, none⟩ = some (.int .i64 ((rd_T40 l1 x9_1).f2)) := (blk_cell BK191.out 2).trans rfl
          have hfz28_0 := blk_frozen BK191.out 0
          have hfz28_1 := blk_frozen BK191.out 1
          have hfz28_2 := blk_frozen BK191.out 2
          try go_wp2_with (first | ((with_reducible refine gate_callee (f := 23) rfl ?_); refine goesL_ (some 43) rfl rfl Tryd.func23 (by kernel_rfl) rfl #[.int .i64 ((rd_T40 l1 x9_1).f2), .int .i64 6] rfl (by (try simp only [List.map_toArray, List.map_cons, List.map_nil]); first | done | rfl | (simp only [List.length_drop, List.length_take]; rfl)) ?_; (with_reducible refine (L4_mod.calls ((rd_T40 l1 x9_1).f2) 6 t198 _ A19.out).mono ?_); rintro e w' ⟨rfl, ⟨nd, rfl⟩⟩; refine ⟨_, rfl, ?_⟩) | ((with_reducible refine gate_builtin (b := .append) (xs := #[.tmp 46, .tmp 48]) rfl ?_); at_builtin; refine Kd.R_append k40 (w0 := w) w.heap.size rfl (.tmp 46) (.tmp 48) 22 40 (.agg #[(.int .i64 0), (.int .i64 0), (.int .i64 0)]) 24 rfl Tryd.underlying22 info40 rfl (by decide) (by omega) u8 x8_1 (⟨t196, wrap64 ((wrap64 (t196 + 1)) + t197), wrap64 (1 + t198)⟩ : S40) [.int .i64 t196, .int .i64 (wrap64 ((wrap64 (t196 + 1)) + t197)), .int .i64 (wrap64 (1 + t198))] (fun k_ => k_ ≠ gb191) (fun _ => False) rfl (by first | (go_simp; done) | (go_simp; rfl)) ?aP (fun _ hk => hk.elim) ?aF ?aO ?aB ?aS ?aL ?_; (case aP => exact k40_mkM _ _ _ (⟨t196, wrap64 ((wrap64 (t196 + 1)) + t197), wrap64 (1 + t198)⟩ : S40)); (case aB => exact lB); (case aF => exact (fun k_ hk => Kd.freshB (g := gb191) (o := .cells #[.int .i64 t196, .int .i64 (wrap64 ((wrap64 (t196 + 1)) + t197)), .int .i64 (wrap64 (1 + t198))] 40 (0, 0)) (by (with_reducible repeat (first | refine kN ?_ _ | refine kD ?_ | refine kA ?_ _)); refine blk_put (cs := #[.int .i64 t196, .int .i64 (wrap64 ((wrap64 (t196 + 1)) + t197)), .int .i64 ((rd_T40 l1 x9_1).f2)]) ?_ 2 _ rfl; (with_reducible repeat (first | refine kN ?_ _ | refine kD ?_ | refine kA ?_ _)); refine blk_put (cs := #[.int .i64 t196, .int .i64 ((rd_T40 l1 x9_1).f1), .int .i64 ((rd_T40 l1 x9_1).f2)]) ?_ 1 _ rfl; (with_reducible repeat (first | refine kN ?_ _ | refine kD ?_ | refine kA ?_ _)); exact BK191.out) k_ hk)); (case aO => exact (by (with_reducible repeat (first | apply Kd.R_alloc | apply Kd.R_drewN | apply Kd.R_drew)); exact Kd.R_mono (Kd.R_far (p := ⟨gb191, 2, none⟩) (Kd.R_far (p := ⟨gb191, 1, none⟩) (Kd.R_mono HO_8.out (fun k_ hk => (⟨hk, hk⟩ : _ ∧ k_ ≠ gb191))) (fun _ hk => hk.2) (.int .i64 (wrap64 ((wrap64 (t196 + 1)) + t197)))) (fun _ hk => hk.2) (.int .i64 (wrap64 (1 + t198)))) (fun _ hk => hk.1))); (case aS => exact (below_size lB)); (case aL => have := LMc20.out; omega); intro v200 w29 ho hb hg hat; rw [← Ny199.out] at ho; have n0_ := Aside0.mk (blk_grown (g := gb191) (o := .cells #[.int .i64 t196, .int .i64 (wrap64 ((wrap64 (t196 + 1)) + t197)), .int .i64 (wrap64 (1 + t198))] 40 (0, 0)) (by (with_reducible repeat (first | refine kN ?_ _ | refine kD ?_ | refine kA ?_ _)); refine blk_put (cs := #[.int .i64 t196, .int .i64 (wrap64 ((wrap64 (t196 + 1)) + t197)), .int .i64 ((rd_T40 l1 x9_1).f2)]) ?_ 2 _ rfl; (with_reducible repeat (first | refine kN ?_ _ | refine kD ?_ | refine kA ?_ _)); refine blk_put (cs := #[.int .i64 t196, .int .i64 ((rd_T40 l1 x9_1).f1), .int .i64 ((rd_T40 l1 x9_1).f2)]) ?_ 1 _ rfl; (with_reducible repeat (first | refine kN ?_ _ | refine kD ?_ | refine kA ?_ _)); exact BK191.out) hg (Kd.R_away HO_8.out (fun _ hk => hk))); have n1_ := Aside0.mk (hb); have n2_ := Aside0.mk (ho); clear BK191; clear HB; clear HO_8; have BK191 := n0_; have HB := n1_; have HO201 := n2_; clear n0_ n1_ n2_; clear ho hb hg hat; have hfm_0 := blk_frozen BK191.out 0; have hcm_0 : _ = some _ := (blk_cell BK191.out 0).trans rfl; have hfm_1 := blk_frozen BK191.out 1; have hcm_1 : _ = some _ := (blk_cell BK191.out 1).trans rfl; have hfm_2 := blk_frozen BK191.out 2; have hcm_2 : _ = some _ := (blk_cell BK191.out 2).trans rfl))
          go_roundg kj3
          case measure => have := HK1.out; have := HJ3.out; omega
          case rel => exact ⟨(y199), (wrap64 (x9_1 + 1)), (by first | rfl | (simp; done) | (simp [*]; done)), H', ⟨by have := HK1.out; have := HJ3.out; omega⟩, ⟨by (with_reducible repeat (first | apply Kd.R_alloc | apply Kd.R_drewN | apply Kd.R_drew)); exact Kd.R_mono HO201.out (fun _ hk => trivial)⟩, ⟨by repeat (first | (with_reducible first | exact HB.out | apply lA | apply lN | apply lD | refine lS ?_ GE191.out) | exact HB.out)⟩⟩
         ·rw [if_neg c20] at H
          exact absurd H (by simp)
       ·rw [if_neg c8] at H
        exact absurd H (by simp)
      ·rw [if_neg c7] at H
       exact absurd H (by simp)
     ·replace c6 := Bool.eq_false_iff.mpr c6
      subst c6
      have H1 : (if a0 < 1 then ((L4_mod.f a0 8).bind fun t188 => (some (wrap64 (1 + t188), x8_1))) else (if a0 > 8 then ((L4_mod.f a0 8).bind fun t189 => (some (wrap64 (1 + t189), x8_1))) else (some (a0, x8_1)))) = some (r1, r2) := by rw [if_neg (show ¬ (false = true) by decide)] at H; exact H
      clear H
      have H := H1
      clear H1
      by_cases c30 : a0 < 1
      rw [if_pos c30] at H
      have c30b0 : decide (a0 < 1) = true := decide_eq_true c30
      clear c30
      replace H := Option.bind_eq_some_iff.mp H
      obtain ⟨t188, A310, H⟩ := H
      replace H : (some (wrap64 (1 + t188), x8_1)) = some (r1, r2) := H
      have A31 := Aside0.mk A310
      clear A310
      simp only [Option.some.injEq, Prod.mk.injEq] at H
      obtain ⟨rfl, rfl⟩ := H
      rotate_left 1
      rw [if_neg c30] at H
      have c30b0 : decide (a0 < 1) = false := decide_eq_false c30
      clear c30
      by_cases c32 : a0 > 8
      rw [if_pos c32] at H
      have c32b0 : decide (8 < a0) = true := decide_eq_true c32
      clear c32
      replace H := Option.bind_eq_some_iff.mp H
      obtain ⟨t189, A330, H⟩ := H
      replace H : (some (wrap64 (1 + t189), x8_1)) = some (r1, r2) := H
      have A33 := Aside0.mk A330
      clear A330
      simp only [Option.some.injEq, Prod.mk.injEq] at H
      obtain ⟨rfl, rfl⟩ := H
      rotate_left 1
      rw [if_neg c32] at H
      have c32b0 : decide (8 < a0) = false := decide_eq_false c32
      clear c32
      simp only [Option.some.injEq, Prod.mk.injEq] at H
      obtain ⟨rfl, rfl⟩ := H
      all_goals go_wp2_with (first | ((with_reducible refine gate_callee (f := 23) rfl ?_); refine goesL_ (some 57) rfl rfl Tryd.func23 (by kernel_rfl) rfl #[.int .i64 a0, .int .i64 8] rfl (by (try simp only [List.map_toArray, List.map_cons, List.map_nil]); first | done | rfl | (simp only [List.length_drop, List.length_take]; rfl)) ?_; (with_reducible refine (L4_mod.calls a0 8 t189 _ A33.out).mono ?_); rintro e w' ⟨rfl, ⟨nd, rfl⟩⟩; refine ⟨_, rfl, ?_⟩) | ((with_reducible refine gate_callee (f := 23) rfl ?_); refine goesL_ (some 57) rfl rfl Tryd.func23 (by kernel_rfl) rfl #[.int .i64 a0, .int .i64 8] rfl (by (try simp only [List.map_toArray, List.map_cons, List.map_nil]); first | done | rfl | (simp only [List.length_drop, List.length_take]; rfl)) ?_; (with_reducible refine (L4_mod.calls a0 8 t188 _ A31.out).mono ?_); rintro e w' ⟨rfl, ⟨nd, rfl⟩⟩; refine ⟨_, rfl, ?_⟩))
      all_goals first
        | (go_ret2
           exact ⟨_, by first | rfl | (simp [errW_none, errW_some] <;> rfl) | (simp [*, errW_none, errW_some] <;> rfl), by (with_reducible repeat (first | apply Kd.R_alloc | apply Kd.R_drewN | apply Kd.R_drew)); exact HO_8.out, lB⟩)


end Go.Proofs.YtmnhcbaocoofoaaDoor.P
