/- Proved here: what functions that the law reaches compute, and plain laws of that. No conditions but those that the theorems state. -/
import Derived.Test.YtppelnlocfcgfaaB1
import Derived.Outline
import Derived.Deep.DeepMust
import Derived.Shelf.Strings.Builder1
import Derived.Shelf.Small.Bits
import Derived.Shelf.Strings.BuilderF
import Derived.Shelf.Strings.BuilderK
import Derived.Shelf.Strconv.Itoa0
import Derived.Shelf.LaysM
import Derived.Shelf.Strconv.Clone
import Derived.Shelf.Sort.Plain
import Derived.Shelf.Slices.Turned
import Derived.Ground.Names2Prog
import Derived.Shelf.Slices.Clone
import Derived.Ground.SlsfProg
import Derived.Shelf.SlSortCmp.Insertion
import Derived.Shelf.SlSortCmp.SiftDown1
import Derived.Shelf.SlSortCmp.HeapSort1
import Derived.Shelf.SlSortCmp.Insertion1
import Derived.Shelf.SlSortCmp.Median1
import Derived.Shelf.SlSortCmp.Pivot1
import Derived.Shelf.SlSortCmp.ReverseRange1
import Derived.Shelf.SlSortCmp.PartialInsertion1
import Derived.Shelf.SlSortCmp.PartitionEqual1
import Derived.Shelf.SlSortCmp.Partition1
import Derived.Shelf.SlSortCmp.Pdq1
import Derived.Shelf.SlSortCmp.Whole1
import Derived.Shelf.SlSorted.Search
import Derived.Shelf.SlSortCmp.NoneTotal
import Derived.Ground.SlsoProg
import Derived.Shelf.SlGeneric
import Derived.Test.YtppelnlocfcgfaaProg
import Derived.Laws.EntriesVeiled
import Derived.Sort.Walk0
set_option linter.unusedVariables false
set_option linter.unusedSimpArgs false
namespace Go.Proofs.Ytppelnlocfcgfaa.P
open Go.RowKit Go.Proofs.YtppelnlocfcgfaaW.PrintWords Go.Proofs.YtppelnlocfcgfaaW.PrintLast Go.Proofs.YtppelnlocfcgfaaW.PrintMore
open Go.Proofs.Fnd
theorem rd_el (l : List Int) (i : Nat) : rd l (i : Int) = el l i := by simp [rd, el]

/-- the world in which the sort's comparison runs: the boxes of n, rank, width, and what rank holds -/
structure Boxes (W : World) (gn gr gw : Nat) (n width : Nat) (l : List Int) (A : Option Addr) (c : Nat) : Prop where
  cn : W.cell? ⟨gn, 0, none⟩ = some (.int .i64 n)
  cr : W.cell? ⟨gr, 0, none⟩ = some (.slice A l.length c)
  cw : W.cell? ⟨gw, 0, none⟩ = some (.int .i64 width)
  rk : Kd.C (Kd.int .i64) W A l.length l

set_option maxHeartbeats 1000000 in
set_option maxRecDepth 100000 in
theorem behind_calls (i gn gr gw n width : Nat) (l : List Int) (A : Option Addr) (c : Nat) (W : World) (hB : Boxes W gn gr gw n width l A c) (hl : l.length = n) (hn : n ≤ 4096) (hi : i < n) (hw : width ≤ 8192) (hb : ∀ j, j < n → 0 ≤ el l j ∧ el l j ≤ 4096) :
    Calls Try.prog 66 #[.int .i64 i, .pointer (some ⟨gw, 0, none⟩), .pointer (some ⟨gn, 0, none⟩), .pointer (some ⟨gr, 0, none⟩)] W fun e w' => e = .returned (.int .i64 (bh n width l i)) ∧ w' = W := by
  have hcn := hB.cn
  have hcr := hB.cr
  have hcw := hB.cw
  have HC := Aside0.mk hB.rk
  have HL := Aside0.mk hl
  have HBD := Aside0.mk hb
  clear hB hl hb
  by_cases hlt : i + width < n
  · have hlI : ((i : Nat) : Int) + ((width : Nat) : Int) < ((n : Nat) : Int) := by omega
    obtain ⟨ad, rfl, hx⟩ := Kd.at_int HC.out ((i : Int) + (width : Int)) (by omega) (by rw [HL.out]; omega)
    have he : rd l ((i : Int) + (width : Int)) = el l (i + width) := by rw [← rd_el]; simp
    rw [he] at hx
    have hbh : bh n width l i = el l (i + width) + 1 := by simp [bh, hlt]
    have HBH := Aside0.mk hbh
    have h0 := (HBD.out _ hlt).1
    have h1 := (HBD.out _ hlt).2
    have hll : ((i : Nat) : Int) + ((width : Nat) : Int) < ((l.length : Nat) : Int) := by rw [HL.out]; omega
    rw [show (((i : Nat) : Int) + ((width : Nat) : Int)).toNat = i + width by omega] at hx
    generalize el l (i + width) = x at *
    clear hbh he
    go_enter Try.func66, Try.ntmps66
    go_wp2
    go_ret
    exact ⟨by rw [HBH.out]; rfl, rfl⟩
  · have hlI : ¬ ((i : Nat) : Int) + ((width : Nat) : Int) < ((n : Nat) : Int) := by omega
    have hbh : bh n width l i = 0 := by simp [bh, hlt]
    have HBH := Aside0.mk hbh
    clear hbh
    go_enter Try.func66, Try.ntmps66
    go_wp2
    go_ret
    exact ⟨by rw [HBH.out]; rfl, rfl⟩

theorem quiet_add_same {P : Program} {f : FuncId} {args : Array Value} {w : World} {a n : Nat} {v : Value}
    (h : Calls P f args (w.drewN (a + n)) fun e w' => e = .returned v ∧ w' = w.drewN (a + n)) :
    Calls P f args (w.drewN (a + n)) fun e w'' => e = .returned v ∧ ∃ m, w'' = w.drewN (a + m) :=
  h.mono fun _ _ ⟨he, hm⟩ => ⟨he, n, hm⟩
theorem bh_range (n w : Nat) (l : List Int) (i : Nat) (h : ∀ j, j < n → 0 ≤ el l j ∧ el l j ≤ 4096) : 0 ≤ bh n w l i ∧ bh n w l i ≤ 4097 := by
  unfold bh
  split
  · have := h _ ‹_›; omega
  · omega
theorem Boxes.drewN {W : World} {gn gr gw n width : Nat} {l : List Int} {A : Option Addr} {c : Nat} (h : Boxes W gn gr gw n width l A c) (k : Nat) : Boxes (W.drewN k) gn gr gw n width l A c :=
  ⟨h.cn, h.cr, h.cw, Kd.C_drewN h.rk k⟩
set_option maxHeartbeats 2000000 in
set_option maxRecDepth 100000 in
theorem cmp_calls (i j gn gr gw gb n width : Nat) (l : List Int) (A : Option Addr) (c : Nat) (W : World) (hB : Boxes W gn gr gw n width l A c) (hf : W.cell? ⟨gb, 0, none⟩ = some (.func (.func 66) #[] #[.pointer (some ⟨gw, 0, none⟩), .pointer (some ⟨gn, 0, none⟩), .pointer (some ⟨gr, 0, none⟩)])) (hl : l.length = n) (hn : n ≤ 4096) (hi : i < n) (hj : j < n) (hw : width ≤ 8192) (hb : ∀ j, j < n → 0 ≤ el l j ∧ el l j ≤ 4096) :
    Calls Try.prog 68 #[.int .i64 i, .int .i64 j, .pointer (some ⟨gr, 0, none⟩), .pointer (some ⟨gb, 0, none⟩)] W fun e w' => e = .returned (.int .i64 (cmpR n width l i j)) ∧ ∃ q, w' = W.drewN q := by
  have hcr := hB.cr
  have HBX := Aside0.mk hB
  have HC := Aside0.mk hB.rk
  have HL := Aside0.mk hl
  have HBD := Aside0.mk hb
  obtain ⟨ad, rfl, hx⟩ := Kd.at_int HC.out (i : Int) (by omega) (by rw [HL.out]; omega)
  obtain ⟨ad', e', hy⟩ := Kd.at_int HC.out (j : Int) (by omega) (by rw [HL.out]; omega)
  cases e'
  rw [rd_el, Int.toNat_natCast] at hx hy
  have hil : ((i : Nat) : Int) < ((l.length : Nat) : Int) := by rw [HL.out]; omega
  have hjl : ((j : Nat) : Int) < ((l.length : Nat) : Int) := by rw [HL.out]; omega
  have hil' : i < l.length := by rw [HL.out]; omega
  have hjl' : j < l.length := by rw [HL.out]; omega
  have hi1 := (HBD.out _ hi).1
  have hi2 := (HBD.out _ hi).2
  have hj1 := (HBD.out _ hj).1
  have hj2 := (HBD.out _ hj).2
  have hBD' := hb
  have HCI := Aside0.mk (fun (i : Nat) (hi : i < n) W hB => behind_calls i gn gr gw n width l (some ad) c W hB HL.out hn hi hw HBD.out)
  clear hB hl hb
  by_cases hne : el l i = el l j
  · have HR : Aside0 (cmpR n width l i j = bh n width l i - bh n width l j) := ⟨by simp [cmpR, hne]⟩
    have hq : (el l i == el l j) = true := by simp [hne]
    have hq' : (el l i != el l j) = false := by simp [hne]
    clear hne
    generalize el l i = xi at *
    generalize el l j = xj at *
    have hbi := bh_range n width l i hBD'
    have hbj := bh_range n width l j hBD'
    clear hBD'
    have hb1 := hbi.1
    have hb2 := hbi.2
    have hb3 := hbj.1
    have hb4 := hbj.2
    clear hbi hbj
    go_enter Try.func68, Try.ntmps68
    go_wp2
    go_quiet (fail)
    go_wp2
    go_quiet ((go_at_call 66; exact quiet_add_same (HCI.out _ (by assumption) _ (HBX.out.drewN _))))
    go_wp2
    go_ret
    exact ⟨by rw [HR.out]; rfl, _, World.drewN_drewN _ _ _⟩
  · have HR : Aside0 (cmpR n width l i j = el l i - el l j) := ⟨by simp [cmpR, hne]⟩
    have hq : (el l i == el l j) = false := by simp [hne]
    have hq' : (el l i != el l j) = true := by simp [hne]
    clear hne hBD'
    generalize el l i = xi at *
    generalize el l j = xj at *
    go_enter Try.func68, Try.ntmps68
    go_wp2
    go_quiet (fail)
    go_wp2
    go_quiet (fail)
    go_wp2
    go_ret
    exact ⟨by rw [HR.out]; rfl, _, World.drewN_drewN _ _ _⟩
end Go.Proofs.Ytppelnlocfcgfaa.P
namespace Go.Proofs
open Go.Shelf
def Try.lays169_ren : Go.Shelf.Ren := ⟨fun | 169 => 45 | n => n, fun | 70 => 65 | 9 => 9 | 0 => 0 | 72 => 68 | 37 => 66 | 127 => 85 | 3 => 3 | 5 => 5 | n => n, fun | n => n⟩
theorem Try.lays169 : Go.Proofs.Lays.n169 Try.prog Try.lays169_ren := {
  mixed := by kernel_rfl
  f169 := Try.func45.trans (congrArg some (by kernel_rfl))
  t0 := Try.underlying0
  a0 := Try.isAgg0
  z0 := Try.sizeOf0
  v0 := Try.zeroValue0
  t3 := Try.underlying3
  a3 := Try.isAgg3
  z3 := Try.sizeOf3
  v3 := Try.zeroValue3
  t9 := Try.underlying9
  a9 := Try.isAgg9
  z9 := Try.sizeOf9
  v9 := Try.zeroValue9
  t37 := Try.underlying66
  a37 := Try.isAgg66
  z37 := Try.sizeOf66
  v37 := Try.zeroValue66
  t70 := Try.underlying65
  a70 := Try.isAgg65
  z70 := Try.sizeOf65
  v70 := Try.zeroValue65
  t72 := Try.underlying68
  a72 := Try.isAgg68
  z72 := Try.sizeOf68
  v72 := Try.zeroValue68
  t127 := Try.underlying85
  a127 := Try.isAgg85
  z127 := Try.sizeOf85
  v127 := Try.zeroValue85 }
theorem Try.Builder_Extra_169 : Builder.Extra Try.prog Try.lays169_ren := {
  sizeBuilder := by kernel_rfl
  liesBuilder := by kernel_rfl
  t5 := Try.underlying5
  a5 := Try.isAgg5
  z5 := Try.sizeOf5
  v5 := Try.zeroValue5
  infoByte := by kernel_rfl
  cellsByte := by kernel_rfl
  sizeByte := by kernel_rfl
  neB5 := by decide }
open Go.RowKit in
/-- (*strings.Builder).String: "String returns the accumulated string.": OF A BUILDER THAT HOLDS AT LEAST ONE BYTE. ✋ THE MODEL FREEZES THOSE BYTES IN THE BUFFER (unsafe.String): a later write INTO them ends the model's run without an answer; a later append BEHIND them goes on. The statement's order of evaluation is drawn: one draw. (LAID: no walk: one application.) -/
theorem Try.Builder_String (B b : Nat) (l : List UInt8) (w : World) (h : Lib.IsBuilder 68 5 B b (Lib.byteCells l) w) (h0 : l ≠ []) :
    Calls Try.prog 45 #[.pointer (some ⟨b, 0, none⟩)] w fun e w' => e = .returned (.string ⟨l.toArray⟩) ∧ Below B w w' := Any.Builder_String Try.lays169 Try.Builder_Extra_169 B b l w h h0
open Go.RowKit in
/-- (*strings.Builder).String OF A BUILDER THAT HOLDS NO BYTE: the empty string. (Its buffer is nil, or a row of which it has taken nothing yet; where that row has NO capacity the model lays one new block for unsafe.SliceData's 'some address'.) One draw. (LAID: no walk: one application.) -/
theorem Try.Builder_String_empty (B b : Nat) (w : World) (h : Lib.IsBuilder 68 5 B b [] w) (hBw : B ≤ w.heap.size) :
    Calls Try.prog 45 #[.pointer (some ⟨b, 0, none⟩)] w fun e w' => e = .returned (.string ⟨#[]⟩) ∧ Below B w w' := Any.Builder_String_empty Try.lays169 Try.Builder_Extra_169 B b w h hBw
open Go.RowKit in
/-- (*strings.Builder).String: "String returns the accumulated string.": WHATEVER THE BUILDER HOLDS. (LAID: no walk: one application.) -/
theorem Try.Builder_String_any (B b : Nat) (l : List UInt8) (w : World) (h : Lib.IsBuilder 68 5 B b (Lib.byteCells l) w) (hBw : B ≤ w.heap.size) :
    Calls Try.prog 45 #[.pointer (some ⟨b, 0, none⟩)] w fun e w' => e = .returned (.string ⟨l.toArray⟩) ∧ Below B w w' := Any.Builder_String_any Try.lays169 Try.Builder_Extra_169 B b l w h hBw
def Try.laysM316_ren : Go.Shelf.Ren := ⟨fun | 316 => 56 | n => n, fun | 9 => 9 | 3 => 3 | 4 => 4 | 37 => 66 | 0 => 0 | 127 => 85 | 5 => 5 | n => n, fun | n => n⟩
theorem Try.laysM316 : Go.Proofs.LaysM.n316 Try.prog Try.laysM316_ren := {
  mixed := by kernel_rfl
  f316 := Try.func56.trans (congrArg some (by kernel_rfl))
  t0 := Try.underlying0
  a0 := Try.isAgg0
  z0 := Try.sizeOf0
  v0 := Try.zeroValue0
  t3 := Try.underlying3
  a3 := Try.isAgg3
  z3 := Try.sizeOf3
  v3 := Try.zeroValue3
  t4 := Try.underlying4
  a4 := Try.isAgg4
  z4 := Try.sizeOf4
  v4 := Try.zeroValue4
  t9 := Try.underlying9
  a9 := Try.isAgg9
  z9 := Try.sizeOf9
  v9 := Try.zeroValue9
  t37 := Try.underlying66
  a37 := Try.isAgg66
  z37 := Try.sizeOf66
  v37 := Try.zeroValue66
  t127 := Try.underlying85
  a127 := Try.isAgg85
  z127 := Try.sizeOf85
  v127 := Try.zeroValue85
  t5 := Try.underlying5
  a5 := Try.isAgg5
  z5 := Try.sizeOf5
  v5 := Try.zeroValue5
  i0 := by kernel_rfl
  i3 := by kernel_rfl
  i4 := by kernel_rfl
  i5 := by kernel_rfl
  i9 := by kernel_rfl
  i37 := by kernel_rfl
  i127 := by kernel_rfl }
open Go.RowKit in
/-- internal/stringslite.Clone (what strings.Clone calls): "Clone returns a fresh copy of s.": THE SAME BYTES. Of what was there nothing has turned (a new row is laid, and frozen, where s is not empty). (LAID: no walk: one application.) -/
theorem Try.stringslite_Clone (s : ByteArray) (w : World) (hlim : s.size ≤ 281474976710656) :
    Calls Try.prog 56 #[.string s] w fun e w' => e = .returned (.string s) ∧ Below w.heap.size w w' := Any.stringslite_Clone Try.laysM316 s w hlim
def Try.lays189_ren : Go.Shelf.Ren := ⟨fun | 189 => 53 | 125 => 64 | 257 => 63 | 128 => 80 | 129 => 81 | 294 => 71 | 295 => 72 | 296 => 73 | 297 => 74 | 298 => 75 | 299 => 76 | 216 => 77 | 300 => 78 | 301 => 79 | 328 => 83 | 329 => 84 | 330 => 85 | 331 => 86 | 332 => 87 | 215 => 88 | 343 => 97 | n => n, fun | 28 => 22 | 3 => 3 | 46 => 76 | 0 => 0 | 51 => 106 | 53 => 108 | 4 => 4 | 183 => 98 | 182 => 97 | 131 => 103 | 5 => 5 | 9 => 9 | 218 => 110 | 222 => 114 | 228 => 121 | 229 => 52 | n => n, fun | n => n⟩
theorem Try.lays189 : Go.Proofs.Lays.n189 Try.prog Try.lays189_ren := {
  mixed := by kernel_rfl
  f125 := Try.func64.trans (congrArg some (by kernel_rfl))
  f128 := Try.func80.trans (congrArg some (by kernel_rfl))
  f129 := Try.func81.trans (congrArg some (by kernel_rfl))
  f189 := Try.func53.trans (congrArg some (by kernel_rfl))
  f215 := Try.func88.trans (congrArg some (by kernel_rfl))
  f216 := Try.func77.trans (congrArg some (by kernel_rfl))
  f257 := Try.func63.trans (congrArg some (by kernel_rfl))
  f294 := Try.func71.trans (congrArg some (by kernel_rfl))
  f295 := Try.func72.trans (congrArg some (by kernel_rfl))
  f296 := Try.func73.trans (congrArg some (by kernel_rfl))
  f297 := Try.func74.trans (congrArg some (by kernel_rfl))
  f298 := Try.func75.trans (congrArg some (by kernel_rfl))
  f299 := Try.func76.trans (congrArg some (by kernel_rfl))
  f300 := Try.func78.trans (congrArg some (by kernel_rfl))
  f301 := Try.func79.trans (congrArg some (by kernel_rfl))
  f328 := Try.func83.trans (congrArg some (by kernel_rfl))
  f329 := Try.func84.trans (congrArg some (by kernel_rfl))
  f330 := Try.func85.trans (congrArg some (by kernel_rfl))
  f331 := Try.func86.trans (congrArg some (by kernel_rfl))
  f332 := Try.func87.trans (congrArg some (by kernel_rfl))
  f343 := Try.func97.trans (congrArg some (by kernel_rfl))
  t0 := Try.underlying0
  a0 := Try.isAgg0
  z0 := Try.sizeOf0
  v0 := Try.zeroValue0
  t3 := Try.underlying3
  a3 := Try.isAgg3
  z3 := Try.sizeOf3
  v3 := Try.zeroValue3
  t4 := Try.underlying4
  a4 := Try.isAgg4
  z4 := Try.sizeOf4
  v4 := Try.zeroValue4
  t5 := Try.underlying5
  a5 := Try.isAgg5
  z5 := Try.sizeOf5
  v5 := Try.zeroValue5
  t9 := Try.underlying9
  a9 := Try.isAgg9
  z9 := Try.sizeOf9
  v9 := Try.zeroValue9
  t28 := Try.underlying22
  a28 := Try.isAgg22
  z28 := Try.sizeOf22
  v28 := Try.zeroValue22
  t46 := Try.underlying76
  a46 := Try.isAgg76
  z46 := Try.sizeOf76
  v46 := Try.zeroValue76
  t51 := Try.underlying106
  a51 := Try.isAgg106
  z51 := Try.sizeOf106
  v51 := Try.zeroValue106
  t53 := Try.underlying108
  a53 := Try.isAgg108
  z53 := Try.sizeOf108
  v53 := Try.zeroValue108
  t131 := Try.underlying103
  a131 := Try.isAgg103
  z131 := Try.sizeOf103
  v131 := Try.zeroValue103
  t182 := Try.underlying97
  a182 := Try.isAgg97
  z182 := Try.sizeOf97
  v182 := Try.zeroValue97
  t183 := Try.underlying98
  a183 := Try.isAgg98
  z183 := Try.sizeOf98
  v183 := Try.zeroValue98
  t218 := Try.underlying110
  a218 := Try.isAgg110
  z218 := Try.sizeOf110
  v218 := Try.zeroValue110
  t222 := Try.underlying114
  a222 := Try.isAgg114
  z222 := Try.sizeOf114
  v222 := Try.zeroValue114
  t228 := Try.underlying121
  a228 := Try.isAgg121
  z228 := Try.sizeOf121
  v228 := Try.zeroValue121
  t229 := Try.underlying52
  a229 := Try.isAgg52
  z229 := Try.sizeOf52
  v229 := Try.zeroValue52 }
open Go.Sort Go.RowKit in
theorem Try.slices_Sort_int (blk off cap : Nat) (zs : List Int) (w : World) (hH : Holds (Value.int .i64) w blk off zs.toArray) (hblk : blk < w.heap.size) (hsz : zs.length < 4611686018427387904) :
    Calls Try.prog 53 #[.slice (some ⟨blk, off, none⟩) zs.length cap] w fun e w' =>
      e = .returned (.tuple #[]) ∧ ∃ n os, w' = grow (putRow (Value.int .i64) (Sort.ahead w n) blk off (zs.mergeSort fun x y => decide (x ≤ y)).toArray) os := Any.slices_Sort_int Try.lays189 blk off cap zs w hH hblk hsz
def Try.laysNm215_ren : Go.Shelf.Ren := ⟨fun | 15 => 48 | n => n, fun | 22 => 22 | 3 => 3 | 4 => 4 | n => n, fun | n => n⟩
theorem Try.laysNm215 : Go.Proofs.Lays2.n15 Try.prog Try.laysNm215_ren := {
  mixed := by kernel_rfl
  f15 := Try.func48.trans (congrArg some (by kernel_rfl))
  t3 := Try.underlying3
  a3 := Try.isAgg3
  z3 := Try.sizeOf3
  v3 := Try.zeroValue3
  t4 := Try.underlying4
  a4 := Try.isAgg4
  z4 := Try.sizeOf4
  v4 := Try.zeroValue4
  t22 := Try.underlying22
  a22 := Try.isAgg22
  z22 := Try.sizeOf22
  v22 := Try.zeroValue22
  i3 := by kernel_rfl }
open Go.RowKit Go.Lib in
/-- slices.Clone at []int: "Clone returns a copy of the slice. The elements are copied using assignment, so this is a shallow clone. The result may have additional unused capacity. The result preserves the nilness of s.": OF A SLICE THAT IS NOT nil IT RETURNS A SLICE THAT IS NOT nil, OF THE SAME ELEMENTS, IN MEMORY OF THE CALL's OWN: in the how-to's words (6f): 'w'.ownsRow B e 1 v' n cells': v' begins at the head of a row among the blocks from B on (B: the heap's size at the call), not frozen, whose first cells are the elements · 'Below B w w'': below B all is as it was. The capacity is whatever the run-time gives. 'zs': what the cells behind the slice's address hold; 'zs.take n': its elements. (LAID: no walk: one application.) -/
theorem Try.slices_Clone_int (b off n c : Nat) (zs : List Int) (w : World) (hz : n ≤ zs.length) (hbig : n * 8 ≤ 140737488355328) (hc : ∀ j, j < zs.length → w.cell? ⟨b, off + j, none⟩ = some (.int .i64 (zs.getD j 0))) :
    Calls Try.prog 48 #[.slice (some ⟨b, off, none⟩) n c] w fun e w' => ∃ v', e = .returned v' ∧ w'.ownsRow w.heap.size 3 1 v' n ((zs.take n).map (Value.int .i64)) ∧ v' ≠ .slice none 0 0 ∧ Below w.heap.size w w' := Any.slices_Clone_int Try.laysNm215 b off n c zs w hz hbig hc
open Go.RowKit Go.Lib in
/-- The same at nil: nil comes back; the world is as it was. (LAID: no walk: one application.) -/
theorem Try.slices_Clone_int_nil (n c : Nat) (w : World) :
    Calls Try.prog 48 #[.slice none n c] w fun e w' => e = .returned (.slice none 0 0) ∧ w' = w := Any.slices_Clone_int_nil Try.laysNm215 n c w
open Go.RowKit Go.Lib in
/-- The same at a slice of length 0 that is not nil, WHATEVER ITS ADDRESS (no cell is asked for): a slice that is not nil and owns nothing comes back. (LAID: no walk: one application.) -/
theorem Try.slices_Clone_int_zero (a : Addr) (c : Nat) (w : World) :
    Calls Try.prog 48 #[.slice (some a) 0 c] w fun e w' => ∃ v', e = .returned v' ∧ w'.ownsRow w.heap.size 3 1 v' 0 [] ∧ v' ≠ .slice none 0 0 ∧ Below w.heap.size w w' := Any.slices_Clone_int_zero Try.laysNm215 a c w
def Try.laysSlF6_f67_ren : Go.Shelf.Ren := ⟨fun | 6 => 67 | 15 => 64 | 14 => 82 | 28 => 80 | 29 => 81 | 20 => 89 | 21 => 90 | 22 => 91 | 23 => 92 | 24 => 93 | 25 => 94 | 26 => 95 | 27 => 96 | 46 => 98 | 47 => 84 | 48 => 85 | 49 => 99 | 50 => 100 | 57 => 101 | n => n, fun | 22 => 22 | 24 => 3 | 25 => 44 | 3 => 3 | 39 => 76 | 0 => 0 | 53 => 106 | 55 => 108 | 4 => 4 | 46 => 98 | 45 => 97 | 50 => 103 | 5 => 5 | 9 => 9 | 66 => 110 | 70 => 114 | 76 => 121 | 77 => 52 | n => n, fun | n => n⟩
theorem Try.laysSlF6_f67 : Go.Proofs.SlLaysF.n6 Try.prog Try.laysSlF6_f67_ren := {
  mixed := by kernel_rfl
  f6 := ⟨Try.f67.name, by decide, Try.func67.trans (congrArg some (by kernel_rfl))⟩
  f14 := ⟨Try.f82.name, by decide, Try.func82.trans (congrArg some (by kernel_rfl))⟩
  f15 := Try.func64.trans (congrArg some (by kernel_rfl))
  f20 := ⟨Try.f89.name, by decide, Try.func89.trans (congrArg some (by kernel_rfl))⟩
  f21 := ⟨Try.f90.name, by decide, Try.func90.trans (congrArg some (by kernel_rfl))⟩
  f22 := ⟨Try.f91.name, by decide, Try.func91.trans (congrArg some (by kernel_rfl))⟩
  f23 := ⟨Try.f92.name, by decide, Try.func92.trans (congrArg some (by kernel_rfl))⟩
  f24 := ⟨Try.f93.name, by decide, Try.func93.trans (congrArg some (by kernel_rfl))⟩
  f25 := ⟨Try.f94.name, by decide, Try.func94.trans (congrArg some (by kernel_rfl))⟩
  f26 := ⟨Try.f95.name, by decide, Try.func95.trans (congrArg some (by kernel_rfl))⟩
  f27 := ⟨Try.f96.name, by decide, Try.func96.trans (congrArg some (by kernel_rfl))⟩
  f28 := Try.func80.trans (congrArg some (by kernel_rfl))
  f29 := Try.func81.trans (congrArg some (by kernel_rfl))
  f46 := ⟨Try.f98.name, by decide, Try.func98.trans (congrArg some (by kernel_rfl))⟩
  f47 := Try.func84.trans (congrArg some (by kernel_rfl))
  f48 := Try.func85.trans (congrArg some (by kernel_rfl))
  f49 := ⟨Try.f99.name, by decide, Try.func99.trans (congrArg some (by kernel_rfl))⟩
  f50 := ⟨Try.f100.name, by decide, Try.func100.trans (congrArg some (by kernel_rfl))⟩
  f57 := ⟨Try.f101.name, by decide, Try.func101.trans (congrArg some (by kernel_rfl))⟩
  t0 := Try.underlying0
  a0 := Try.isAgg0
  z0 := Try.sizeOf0
  v0 := Try.zeroValue0
  t3 := Try.underlying3
  a3 := Try.isAgg3
  z3 := Try.sizeOf3
  v3 := Try.zeroValue3
  t4 := Try.underlying4
  a4 := Try.isAgg4
  z4 := Try.sizeOf4
  v4 := Try.zeroValue4
  t5 := Try.underlying5
  a5 := Try.isAgg5
  z5 := Try.sizeOf5
  v5 := Try.zeroValue5
  t9 := Try.underlying9
  a9 := Try.isAgg9
  z9 := Try.sizeOf9
  v9 := Try.zeroValue9
  t22 := Try.underlying22
  a22 := Try.isAgg22
  z22 := Try.sizeOf22
  v22 := Try.zeroValue22
  a24 := Try.isAgg3
  z24 := Try.sizeOf3
  t25 := Try.underlying44
  a25 := Try.isAgg44
  z25 := Try.sizeOf44
  v25 := Try.zeroValue44
  t39 := Try.underlying76
  a39 := Try.isAgg76
  z39 := Try.sizeOf76
  v39 := Try.zeroValue76
  t45 := Try.underlying97
  a45 := Try.isAgg97
  z45 := Try.sizeOf97
  v45 := Try.zeroValue97
  t46 := Try.underlying98
  a46 := Try.isAgg98
  z46 := Try.sizeOf98
  v46 := Try.zeroValue98
  t50 := Try.underlying103
  a50 := Try.isAgg103
  z50 := Try.sizeOf103
  v50 := Try.zeroValue103
  t53 := Try.underlying106
  a53 := Try.isAgg106
  z53 := Try.sizeOf106
  v53 := Try.zeroValue106
  t55 := Try.underlying108
  a55 := Try.isAgg108
  z55 := Try.sizeOf108
  v55 := Try.zeroValue108
  t66 := Try.underlying110
  a66 := Try.isAgg110
  z66 := Try.sizeOf110
  v66 := Try.zeroValue110
  t70 := Try.underlying114
  a70 := Try.isAgg114
  z70 := Try.sizeOf114
  v70 := Try.zeroValue114
  t76 := Try.underlying121
  a76 := Try.isAgg121
  z76 := Try.sizeOf121
  v76 := Try.zeroValue121
  t77 := Try.underlying52
  a77 := Try.isAgg52
  z77 := Try.sizeOf52
  v77 := Try.zeroValue52 }
open Go.RowKit Go.Lib Go.Sort in
/-- **slices.SortFunc, IN THE DOCUMENTATION's OWN TERMS: A PERMUTATION OF WHAT THE ROW HELD, SORTED BY 'cmp(a, b) < 0'.** Which of two equals comes first is left open ("The sort is not guaranteed to be stable"). (LAID AT THE INSTANCE 'slices.SortFunc[[]int,int]': no walk: one application.) -/
theorem Try.slices_SortFunc {α : Type} [Inhabited α] (enc : α → Value) (h1 : OneCell enc) (cf : α → α → Int) (hO : SWO (ltOf cf)) (g : Nat) (cb : Array Value) (blk off cap : Nat) (d : Array α) (w : World) (eg : ∀ args w, (callFunc g args).run Try.prog w = .ok (.enter g args) w) (hcmp : CmpLays1 Try.prog g cb enc cf blk off d.size w) (hH : Holds enc w blk off d) (hblk : blk < w.heap.size) (hsz : d.size < 4611686018427387904) :
    Calls Try.prog 67 #[.slice (some ⟨blk, off, none⟩) d.size cap, .func (.func g) #[] cb] w fun e w' =>
      e = .returned (.tuple #[]) ∧ ∃ d' n os, PermIn 0 d.size d d' ∧ SortedIn (ltOf cf) 0 d.size d' ∧ w' = sortWorld enc w blk off n d' os := Any.slices_SortFunc Try.laysSlF6_f67 enc h1 cf hO g cb blk off cap d w eg hcmp hH hblk hsz
def Try.search_ren : Go.Shelf.Ren := ⟨fun | 16 => 59 | n => n, fun | 3 => 3 | 35 => 88 | 4 => 4 | 38 => 76 | n => n, fun | n => n⟩
theorem Try.search : Go.Proofs.SlLaysO.n16 Try.prog Try.search_ren := {
  mixed := by kernel_rfl
  f16 := Try.func59.trans (congrArg some (by kernel_rfl))
  t3 := Try.underlying3
  a3 := Try.isAgg3
  z3 := Try.sizeOf3
  v3 := Try.zeroValue3
  t4 := Try.underlying4
  a4 := Try.isAgg4
  z4 := Try.sizeOf4
  v4 := Try.zeroValue4
  t35 := Try.underlying88
  a35 := Try.isAgg88
  z35 := Try.sizeOf88
  v35 := Try.zeroValue88
  t38 := Try.underlying76
  a38 := Try.isAgg76
  z38 := Try.sizeOf76
  v38 := Try.zeroValue76 }
def Try.sort0_ren : Go.Shelf.Ren := ⟨fun | 6 => 67 | 15 => 64 | 14 => 82 | 28 => 80 | 29 => 81 | 20 => 89 | 21 => 90 | 22 => 91 | 23 => 92 | 24 => 93 | 25 => 94 | 26 => 95 | 27 => 96 | 46 => 98 | 47 => 84 | 48 => 85 | 49 => 99 | 50 => 100 | 57 => 101 | n => n, fun | 22 => 22 | 24 => 3 | 25 => 44 | 3 => 3 | 39 => 76 | 0 => 0 | 53 => 106 | 55 => 108 | 4 => 4 | 46 => 98 | 45 => 97 | 50 => 103 | 5 => 5 | 9 => 9 | 66 => 110 | 70 => 114 | 76 => 121 | 77 => 52 | n => n, fun | n => n⟩
theorem Try.sort0 : Go.Proofs.SlLaysF0.n6 Try.prog Try.sort0_ren := {
  mixed := by kernel_rfl
  f6 := ⟨Try.f67.name, by decide, Try.func67.trans (congrArg some (by kernel_rfl))⟩
  f14 := ⟨Try.f82.name, by decide, Try.func82.trans (congrArg some (by kernel_rfl))⟩
  f15 := Try.func64.trans (congrArg some (by kernel_rfl))
  f20 := ⟨Try.f89.name, by decide, Try.func89.trans (congrArg some (by kernel_rfl))⟩
  f21 := ⟨Try.f90.name, by decide, Try.func90.trans (congrArg some (by kernel_rfl))⟩
  f22 := ⟨Try.f91.name, by decide, Try.func91.trans (congrArg some (by kernel_rfl))⟩
  f23 := ⟨Try.f92.name, by decide, Try.func92.trans (congrArg some (by kernel_rfl))⟩
  f24 := ⟨Try.f93.name, by decide, Try.func93.trans (congrArg some (by kernel_rfl))⟩
  f25 := ⟨Try.f94.name, by decide, Try.func94.trans (congrArg some (by kernel_rfl))⟩
  f26 := ⟨Try.f95.name, by decide, Try.func95.trans (congrArg some (by kernel_rfl))⟩
  f27 := ⟨Try.f96.name, by decide, Try.func96.trans (congrArg some (by kernel_rfl))⟩
  f28 := Try.func80.trans (congrArg some (by kernel_rfl))
  f29 := Try.func81.trans (congrArg some (by kernel_rfl))
  f46 := ⟨Try.f98.name, by decide, Try.func98.trans (congrArg some (by kernel_rfl))⟩
  f47 := Try.func84.trans (congrArg some (by kernel_rfl))
  f48 := Try.func85.trans (congrArg some (by kernel_rfl))
  f49 := ⟨Try.f99.name, by decide, Try.func99.trans (congrArg some (by kernel_rfl))⟩
  f50 := ⟨Try.f100.name, by decide, Try.func100.trans (congrArg some (by kernel_rfl))⟩
  f57 := ⟨Try.f101.name, by decide, Try.func101.trans (congrArg some (by kernel_rfl))⟩
  t0 := Try.underlying0
  a0 := Try.isAgg0
  z0 := Try.sizeOf0
  v0 := Try.zeroValue0
  t3 := Try.underlying3
  a3 := Try.isAgg3
  z3 := Try.sizeOf3
  v3 := Try.zeroValue3
  t4 := Try.underlying4
  a4 := Try.isAgg4
  z4 := Try.sizeOf4
  v4 := Try.zeroValue4
  t5 := Try.underlying5
  a5 := Try.isAgg5
  z5 := Try.sizeOf5
  v5 := Try.zeroValue5
  t9 := Try.underlying9
  a9 := Try.isAgg9
  z9 := Try.sizeOf9
  v9 := Try.zeroValue9
  t22 := Try.underlying22
  a22 := Try.isAgg22
  z22 := Try.sizeOf22
  v22 := Try.zeroValue22
  t25 := Try.underlying44
  a25 := Try.isAgg44
  z25 := Try.sizeOf44
  v25 := Try.zeroValue44
  t39 := Try.underlying76
  a39 := Try.isAgg76
  z39 := Try.sizeOf76
  v39 := Try.zeroValue76
  t45 := Try.underlying97
  a45 := Try.isAgg97
  z45 := Try.sizeOf97
  v45 := Try.zeroValue97
  t46 := Try.underlying98
  a46 := Try.isAgg98
  z46 := Try.sizeOf98
  v46 := Try.zeroValue98
  t50 := Try.underlying103
  a50 := Try.isAgg103
  z50 := Try.sizeOf103
  v50 := Try.zeroValue103
  t53 := Try.underlying106
  a53 := Try.isAgg106
  z53 := Try.sizeOf106
  v53 := Try.zeroValue106
  t55 := Try.underlying108
  a55 := Try.isAgg108
  z55 := Try.sizeOf108
  v55 := Try.zeroValue108
  t66 := Try.underlying110
  a66 := Try.isAgg110
  z66 := Try.sizeOf110
  v66 := Try.zeroValue110
  t70 := Try.underlying114
  a70 := Try.isAgg114
  z70 := Try.sizeOf114
  v70 := Try.zeroValue114
  t76 := Try.underlying121
  a76 := Try.isAgg121
  z76 := Try.sizeOf121
  v76 := Try.zeroValue121
  t77 := Try.underlying52
  a77 := Try.isAgg52
  z77 := Try.sizeOf52
  v77 := Try.zeroValue52 }
end Go.Proofs
namespace Go.Proofs.Ytppelnlocfcgfaa.P
open Go.RowKit Go.Sort Go.Proofs.YtppelnlocfcgfaaW.PrintWords Go.Proofs.YtppelnlocfcgfaaW.PrintLast Go.Proofs.YtppelnlocfcgfaaW.PrintMore
section
variable {α : Type} [Inhabited α]
theorem heap_mapBlock_same {w : World} {g : Nat} {f : Array Value → Array Value} {c : Array Value} {e : TypeId} {fr : Nat × Nat} (h : w.heap[g]? = some (.cells c e fr)) : (mapBlock w g f).heap[g]? = some (.cells (f c) e fr) := by
  unfold mapBlock
  simp only [Array.getElem?_modify, if_true, h, Option.map_some, onCells]
theorem heap_mapBlock_other {w : World} {g k : Nat} {f : Array Value → Array Value} (h : g ≠ k) : (mapBlock w g f).heap[k]? = w.heap[k]? := by
  unfold mapBlock
  simp only [Array.getElem?_modify, if_neg h]
theorem size_mapBlock (w : World) (g : Nat) (f : Array Value → Array Value) : (mapBlock w g f).heap.size = w.heap.size := by
  unfold mapBlock
  simp
theorem heap_grow {w : World} {os : Array Obj} {k : Nat} (h : k < w.heap.size) : (Sort.grow w os).heap[k]? = w.heap[k]? := by
  unfold Sort.grow
  rw [Array.getElem?_append_left h]
theorem sortWorld_block {enc : α → Value} {w : World} {g off m : Nat} {dk : Array α} {os : Array Obj} {k : Nat} (hk : k < w.heap.size) (hne : k ≠ g) : (sortWorld enc w g off m dk os).heap[k]? = w.heap[k]? := by
  unfold sortWorld
  rw [heap_grow (by unfold putRow; rw [size_mapBlock]; exact hk)]
  unfold putRow
  rw [heap_mapBlock_other (fun e => hne e.symm)]
  rfl
theorem sortWorld_row {enc : α → Value} {w : World} {g off m : Nat} {dk : Array α} {os : Array Obj} {c : Array Value} {e : TypeId} {fr : Nat × Nat} (h : w.heap[g]? = some (.cells c e fr)) : (sortWorld enc w g off m dk os).heap[g]? = some (.cells (putCells enc off dk c) e fr) := by
  unfold sortWorld
  have h' : (Sort.ahead w m).heap[g]? = some (.cells c e fr) := h
  rw [heap_grow (by unfold putRow; rw [size_mapBlock]; exact blk_lt h')]
  exact heap_mapBlock_same h'
theorem sortWorld_grown (enc : α → Value) (w : World) (g off m : Nat) (dk : Array α) (os : Array Obj) : w.grownBy (sortWorld enc w g off m dk os) (some g) where
  os := rfl
  tape := rfl
  output := rfl
  size := by
    unfold sortWorld
    rw [Sort.size_grow]
    unfold putRow
    rw [size_mapBlock]
    exact Nat.le_add_right _ _
  block k hk hne := sortWorld_block hk (fun e => hne (by rw [e]))
theorem putCells_take (enc : α → Value) (d : Array α) (c : Array Value) (h : d.size ≤ c.size) : (putCells enc 0 d c).toList.take d.size = d.toList.map enc := by
  apply List.ext_getElem
  · simp [putCells]; omega
  · intro i h1 h2
    simp at h2
    simp [putCells, h2]
theorem holds_of_own {enc : α → Value} {w : World} {base g n cap : Nat} {e : TypeId} {d : Array α} (h : w.ownsRow base e 1 (.slice (some ⟨g, 0, none⟩) n cap) n (d.toList.map enc)) (hn : d.size = n) : Holds enc w g 0 d := by
  obtain ⟨_, hv⟩ := h
  intro j hj
  rcases hv with ⟨hv, _⟩ | ⟨g', cap', cur, hv, hg, hblk, _, _, hcs, htk⟩
  · simp at hv
  · simp only [Value.slice.injEq, Option.some.injEq, Addr.mk.injEq] at hv
    obtain ⟨⟨rfl, _⟩, _, rfl⟩ := hv
    constructor
    · rw [Nat.zero_add, cell_of_row _ _ _ _ _ _ hblk]
      have h1 : (cur.toList.take (n * 1))[j]? = (d.toList.map enc)[j]? := by rw [htk]
      rw [List.getElem?_take, if_pos (by omega), List.getElem?_map] at h1
      rw [← Array.getElem?_toList, h1, Array.getElem?_toList, Array.getElem?_eq_getElem hj]
      simp [getElem!_pos d j hj]
    · exact frozen_of_row _ _ _ _ _ hblk
theorem own_sorted {enc : α → Value} {w : World} {base g n cap : Nat} {e : TypeId} {d d' : Array α} (h : w.ownsRow base e 1 (.slice (some ⟨g, 0, none⟩) n cap) n (d.toList.map enc)) (hn : d'.size = n) (m : Nat) (os : Array Obj) : (sortWorld enc w g 0 m d' os).ownsRow base e 1 (.slice (some ⟨g, 0, none⟩) n cap) n (d'.toList.map enc) := by
  obtain ⟨_, hv⟩ := h
  refine ⟨by simp [hn], ?_⟩
  rcases hv with ⟨hv, _⟩ | ⟨g', cap', cur, hv, hg, hblk, hc1, hc2, hcs, htk⟩
  · simp at hv
  · simp only [Value.slice.injEq, Option.some.injEq, Addr.mk.injEq] at hv
    obtain ⟨⟨rfl, _⟩, _, rfl⟩ := hv
    refine .inr ⟨g, cap, putCells enc 0 d' cur, rfl, hg, sortWorld_row hblk, hc1, hc2, by simp [putCells, hcs], ?_⟩
    rw [Nat.mul_one, ← hn]
    exact putCells_take enc d' cur (by omega)
end
/-- what is asked of a row's own block, anew -/
theorem R_ok {e : Nat} {w : World} {base : Nat} {ok ok' : Nat → Prop} {v : Value} {xs : List Int} (h : Kd.R (Kd.int .i64) e w base ok v xs) (hok : ∀ k, v.ownBlock = some k → ok' k) : Kd.R (Kd.int .i64) e w base ok' v xs := Kd.R_of_own (Kd.own_of_R h) hok
end Go.Proofs.Ytppelnlocfcgfaa.P
namespace Go.Proofs.Ytppelnlocfcgfaa.P
open Go.RowKit Go.Sort Go.Proofs.YtppelnlocfcgfaaW.PrintWords Go.Proofs.YtppelnlocfcgfaaW.PrintLast Go.Proofs.YtppelnlocfcgfaaW.PrintMore
open Go.Proofs.Fnd
def encF {m : Nat} (i : Fin (m + 1)) : Value := .int .i64 (i.val : Int)
def cmpF (m width : Nat) (l : List Int) (i j : Fin (m + 1)) : Int := cmpR (m + 1) width l i.val j.val
theorem cmpF_lt {s : List UInt8} {m width : Nat} {l : List Int} (hs : s.length = m + 1) (h : RankOK s width l) (hw : 0 < width) (x y : Fin (m + 1)) : cmpF m width l x y < 0 ↔ LtW (width + width) (sq s x.val) (sq s y.val) := by
  have := cmpR_lt h hw (i := x.val) (j := y.val) (by omega) (by omega)
  unfold cmpF
  rwa [hs] at this
theorem swo_cmp {s : List UInt8} {m width : Nat} {l : List Int} (hs : s.length = m + 1) (h : RankOK s width l) (hw : 0 < width) : SWO (ltOf (cmpF m width l)) where
  irrefl x := by
    unfold ltOf
    rw [decide_eq_false_iff_not, cmpF_lt hs h hw]
    exact fun q => q.irrefl
  trans x y z h1 h2 := by
    unfold ltOf at *
    rw [decide_eq_true_iff, cmpF_lt hs h hw] at *
    exact h1.trans h2
  ntrans x y z h1 h2 := by
    unfold ltOf at *
    rw [decide_eq_false_iff_not, cmpF_lt hs h hw] at *
    exact LtW.ntrans h1 h2

set_option maxHeartbeats 2000000 in
set_option maxRecDepth 100000 in
theorem sort_calls (s : List UInt8) (m gn gr gw gb g width : Nat) (l : List Int) (A : Option Addr) (c cap base base2 : Nat) (ok : Nat → Prop) (xs : List Nat) (W : World)
    (hs : s.length = m + 1) (hn : m + 1 ≤ 4096) (hw0 : 0 < width) (hw : width ≤ 8192) (hrk : RankOK s width l)
    (hB : Boxes W gn gr gw (m + 1) width l A c) (hf : W.cell? ⟨gb, 0, none⟩ = some (.func (.func 66) #[] #[.pointer (some ⟨gw, 0, none⟩), .pointer (some ⟨gn, 0, none⟩), .pointer (some ⟨gr, 0, none⟩)]))
    (hR : Kd.R (Kd.int .i64) 3 W base2 (fun k => k ≠ g) (.slice A l.length c) l)
    (h1 : gn ≠ g) (h2 : gr ≠ g) (h3 : gw ≠ g) (h4 : gb ≠ g)
    (hx : Kd.R (Kd.int .i64) 3 W base ok (.slice (some ⟨g, 0, none⟩) (m + 1) cap) (xs.map Int.ofNat)) (hp : xs.Perm (List.range (m + 1))) :
    Calls Try.prog 67 #[.slice (some ⟨g, 0, none⟩) (m + 1) cap, .func (.func 68) #[] #[.pointer (some ⟨gr, 0, none⟩), .pointer (some ⟨gb, 0, none⟩)]] W fun e w' =>
      e = .returned (.tuple #[]) ∧ ∃ ys : List Nat, ys.Perm (List.range (m + 1)) ∧ Kd.R (Kd.int .i64) 3 w' base ok (.slice (some ⟨g, 0, none⟩) (m + 1) cap) (ys.map Int.ofNat) ∧ W.grownBy w' (some g) ∧ ∀ p q, p < q → q < m + 1 → ¬ LtW (width + width) (sq s (ys.getD q 0)) (sq s (ys.getD p 0)) := by
  have hxl : xs.length = m + 1 := by rw [hp.length_eq, List.length_range]
  have hlt : ∀ x ∈ xs, x < m + 1 := fun x hx => List.mem_range.1 (hp.mem_iff.1 hx)
  -- the row, as places
  obtain ⟨d, hd⟩ : ∃ d : Array (Fin (m + 1)), d.toList.map Fin.val = xs := ⟨(xs.attach.map fun x => (⟨x.1, hlt x.1 x.2⟩ : Fin (m + 1))).toArray, by simp [List.map_map, Function.comp_def]⟩
  have hdl : d.size = m + 1 := by
    have h := congrArg List.length hd
    simp at h
    omega
  have hown := Kd.own_of_R hx
  rw [List.length_map, hxl] at hown
  have hencs : encs (Value.int .i64) (xs.map Int.ofNat) = d.toList.map encF := by
    rw [← hd]
    simp [encs, List.map_map, Function.comp_def, encF]
  rw [hencs] at hown
  have hH := holds_of_own hown hdl
  have hblk : g < W.heap.size := own_lt hown g rfl
  have hcells : ∀ (b : Nat) (v : Value) (mm : Nat) (dk : Array (Fin (m + 1))) (os : Array Obj), b ≠ g → W.cell? ⟨b, 0, none⟩ = some v → (sortWorld encF W g 0 mm dk os).cell? ⟨b, 0, none⟩ = some v := by
    intro b v mm dk os hb hc
    rw [← hc]
    exact World.cell?_of_block (sortWorld_block (World.block_lt_of_cell? W _ hc) hb)
  have hcmp : CmpLays1 Try.prog 68 #[.pointer (some ⟨gr, 0, none⟩), .pointer (some ⟨gb, 0, none⟩)] encF (cmpF m width l) g 0 d.size W := by
    refine CmpReads.lays ?_
    intro mm os dk hsz x y
    have hR' := Kd.R_grown hR (sortWorld_grown encF W g 0 mm dk os) (fun k hk e => hk (by simpa using e))
    have hB' : Boxes (sortWorld encF W g 0 mm dk os) gn gr gw (m + 1) width l A c := ⟨hcells _ _ _ _ _ h1 hB.cn, hcells _ _ _ _ _ h2 hB.cr, hcells _ _ _ _ _ h3 hB.cw, by
      obtain ⟨A', c', e, _, hC⟩ := Kd.R_reads hR'
      injection e with e1 e2 e3
      rw [e1]; exact hC⟩
    have := cmp_calls x.val y.val gn gr gw gb (m + 1) width l A c _ hB' (hcells _ _ _ _ _ h4 hf) (by rw [hrk.len, hs]) hn x.isLt y.isLt hw (fun j hj => ⟨hrk.lo j (by omega), hrk.hi j (by omega)⟩)
    exact this
  have eg : ∀ args w, (callFunc 68 args).run Try.prog w = .ok (.enter 68 args) w := enters_of Try.func68 (by kernel_rfl) rfl
  have hcon := Try.slices_SortFunc encF (fun _ => rfl) (cmpF m width l) (swo_cmp hs hrk hw0) 68 _ g 0 cap d W eg hcmp hH hblk (by omega)
  rw [hdl] at hcon
  refine hcon.mono ?_
  rintro e w' ⟨rfl, d', nn, os, hperm, hsort, rfl⟩
  have hd' : d'.size = m + 1 := by rw [hperm.1, hdl]
  have hpl : d'.toList.Perm d.toList := by
    have := hperm.2.2
    rwa [Array.extract_eq_self_of_le (by omega), Array.extract_eq_self_of_le (by omega)] at this
  refine ⟨rfl, d'.toList.map Fin.val, ?_, ?_, sortWorld_grown _ _ _ _ _ _ _, ?_⟩
  · refine (hpl.map Fin.val).trans ?_
    rw [hd]; exact hp
  · refine Kd.R_of_own ?_ hx.1
    have := own_sorted hown hd' nn os
    rw [List.length_map, List.length_map, Array.length_toList, hd']
    have he : encs (Value.int .i64) ((d'.toList.map Fin.val).map Int.ofNat) = d'.toList.map encF := by simp [encs, List.map_map, Function.comp_def, encF]
    rw [he]; exact this
  · intro p q hpq hq
    have := hsort p q (Nat.zero_le _) hpq (by omega)
    unfold ltOf at this
    rw [decide_eq_false_iff_not, cmpF_lt hs hrk hw0] at this
    have hg : ∀ i, i < m + 1 → (d'.toList.map Fin.val).getD i 0 = (d'[i]!).val := fun i hi => by
      rw [getElem!_pos d' i (by omega)]
      simp [List.getElem?_eq_getElem, hd', hi]
    rw [hg q hq, hg p (by omega)]
    exact this
theorem sort_calls' (s : List UInt8) (n gn gr gw gb g width : Nat) (l : List Int) (A : Option Addr) (c cap base base2 : Nat) (ok : Nat → Prop) (xs : List Nat) (W : World)
    (hn0 : 0 < n) (hs : s.length = n) (hn : n ≤ 4096) (hw0 : 0 < width) (hw : width ≤ 8192) (hrk : RankOK s width l)
    (hB : Boxes W gn gr gw n width l A c) (hf : W.cell? ⟨gb, 0, none⟩ = some (.func (.func 66) #[] #[.pointer (some ⟨gw, 0, none⟩), .pointer (some ⟨gn, 0, none⟩), .pointer (some ⟨gr, 0, none⟩)]))
    (hR : Kd.R (Kd.int .i64) 3 W base2 (fun k => k ≠ g) (.slice A l.length c) l)
    (h1 : gn ≠ g) (h2 : gr ≠ g) (h3 : gw ≠ g) (h4 : gb ≠ g)
    (hx : Kd.R (Kd.int .i64) 3 W base ok (.slice (some ⟨g, 0, none⟩) n cap) (xs.map Int.ofNat)) (hp : xs.Perm (List.range n)) :
    Calls Try.prog 67 #[.slice (some ⟨g, 0, none⟩) n cap, .func (.func 68) #[] #[.pointer (some ⟨gr, 0, none⟩), .pointer (some ⟨gb, 0, none⟩)]] W fun e w' =>
      e = .returned (.tuple #[]) ∧ ∃ (ys : List Nat) (o : Nat → Nat), (∀ p, o p = ys.getD p 0) ∧ ys.Perm (List.range n) ∧ Kd.R (Kd.int .i64) 3 w' base ok (.slice (some ⟨g, 0, none⟩) n cap) (ys.map Int.ofNat) ∧ W.grownBy w' (some g) ∧ Sorted s (width + width) o := by
  obtain ⟨m, rfl⟩ : ∃ m, n = m + 1 := ⟨n - 1, by omega⟩
  refine (sort_calls s m gn gr gw gb g width l A c cap base base2 ok xs W hs hn hw0 hw hrk hB hf hR h1 h2 h3 h4 hx hp).mono ?_
  rintro e w' ⟨he, ys, hyp, hyR, hyg, hys⟩
  have hyl : ys.length = m + 1 := by rw [hyp.length_eq, List.length_range]
  have hnd : ys.Nodup := hyp.nodup_iff.2 List.nodup_range
  have hgd : ∀ p (hp : p < m + 1), ys.getD p 0 = ys[p]'(by omega) := fun p hp => by
    rw [List.getD_eq_getElem?_getD, List.getElem?_eq_getElem (by omega), Option.getD_some]
  refine ⟨he, ys, fun p => ys.getD p 0, fun _ => rfl, hyp, hyR, hyg, ⟨?_, ?_, ?_, ?_⟩⟩
  · intro p hp
    rw [hs] at hp ⊢
    rw [hgd p hp]
    exact List.mem_range.1 (hyp.mem_iff.1 (List.getElem_mem _))
  · intro p q hp hq e
    rw [hs] at hp hq
    rw [hgd p hp, hgd q hq] at e
    exact (List.getElem_inj hnd).1 e
  · intro i hi
    rw [hs] at hi
    obtain ⟨p, hp, e⟩ := List.mem_iff_getElem.1 (hyp.mem_iff.2 (List.mem_range.2 hi))
    exact ⟨p, by omega, by rw [hgd p (by omega)]; exact e⟩
  · intro p q hpq hq
    exact hys p q hpq (by omega)
end Go.Proofs.Ytppelnlocfcgfaa.P
namespace Go.Proofs.Ytppelnlocfcgfaa.P
open Go.RowKit Go.Proofs.YtppelnlocfcgfaaW.PrintWords Go.Proofs.YtppelnlocfcgfaaW.PrintLast Go.Proofs.YtppelnlocfcgfaaW.PrintMore
open Go.Proofs.Fnd

/-- the first k ranks are the bytes -/
def IsBytes (s : List UInt8) (k : Nat) (r : List Int) : Prop := r.length = s.length ∧ ∀ j, (h : j < k) → (hs : j < s.length) → Fnd.el r j = ((s[j]).toNat : Int)
theorem isBytes_zero (s : List UInt8) : IsBytes s 0 (List.replicate s.length 0) := ⟨by simp, fun j h => by omega⟩
theorem isBytes_step {s : List UInt8} {k : Nat} {r : List Int} (h : IsBytes s k r) (hk : k < s.length) : IsBytes s (k + 1) (r.set k ((s[k]).toNat : Int)) := by
  refine ⟨by simp [h.1], fun j hj hs => ?_⟩
  by_cases e : j = k
  · subst e; simp [Fnd.el, h.1, hk]
  · rw [← h.2 j (by omega) hs]
    unfold Fnd.el
    rw [List.getD_eq_getElem?_getD, List.getElem?_set_ne (by omega), List.getD_eq_getElem?_getD]
theorem isBytes_done {s : List UInt8} {r : List Int} (h : IsBytes s s.length r) : r = s.map fun b => (b.toNat : Int) := by
  apply List.ext_getElem (by simp [h.1])
  intro j h1 h2
  have := h.2 j (by rw [h.1] at h1; exact h1) (by rw [h.1] at h1; exact h1)
  simp only [Fnd.el, List.getD_eq_getElem?_getD, List.getElem?_eq_getElem h1, Option.getD_some] at this
  simp [this]
/-- the first k places' ranks are written down -/
def IsLvl (s : List UInt8) (w : Nat) (o : Nat → Nat) (k : Nat) (nx : List Int) : Prop := nx.length = s.length ∧ ∀ p, p < k → el nx (o p) = (lvl s w o p : Int)
theorem isLvl_zero (s : List UInt8) (w : Nat) (o : Nat → Nat) : IsLvl s w o 1 (List.replicate s.length 0) := ⟨by simp, fun p hp => by
  obtain rfl : p = 0 := by omega
  simp only [lvl, el, List.getD_eq_getElem?_getD, List.getElem?_replicate]
  split <;> rfl⟩
theorem isLvl_step {s : List UInt8} {w : Nat} {o : Nat → Nat} {k : Nat} {nx : List Int} (h : IsLvl s w o k nx) (hs : Sorted s w o) (hk : k < s.length) : IsLvl s w o (k + 1) (nx.set (o k) (lvl s w o k : Int)) := by
  refine ⟨by simp [h.1], fun p hp => ?_⟩
  by_cases e : p = k
  · subst e
    unfold el
    rw [List.getD_eq_getElem?_getD, List.getElem?_set_self (by rw [h.1]; exact hs.lt p hk)]; rfl
  · rw [← h.2 p (by omega)]
    unfold el
    rw [List.getD_eq_getElem?_getD, List.getElem?_set_ne (fun e2 => e (hs.inj p k (by omega) hk e2.symm)), List.getD_eq_getElem?_getD]
theorem ints_perm {l : List Int} {n : Nat} (h : l.Perm ((List.range n).map Int.ofNat)) : ∃ xs : List Nat, l = xs.map Int.ofNat ∧ xs.Perm (List.range n) := by
  have hm : ∀ x ∈ l, 0 ≤ x := fun x hx => by
    obtain ⟨i, _, rfl⟩ := List.mem_map.1 (h.mem_iff.1 hx)
    exact Int.natCast_nonneg i
  refine ⟨l.map Int.toNat, ?_, ?_⟩
  · rw [List.map_map]
    apply List.ext_getElem (by simp)
    intro i h1 h2
    have := hm l[i] (List.getElem_mem _)
    simp; omega
  · refine (h.map Int.toNat).trans ?_
    rw [List.map_map]
    have : (Int.toNat ∘ Int.ofNat) = id := by funext x; simp
    rw [this, List.map_id]
set_option maxHeartbeats 4000000 in
set_option maxRecDepth 100000 in
theorem suffixes_calls1 (a0 : ByteArray) (hs : a0.size ≤ 4096) (hpos : 0 < a0.size) (w : World) :
    Calls Try.prog 54 #[.string a0] w fun e w' => ∃ (v0_ : Value) (r : List Int), e = .returned (v0_) ∧ Kd.R (Kd.int .i64) 3 w' w.heap.size (fun _ => True) v0_ r ∧ Below w.heap.size w w' ∧ ∃ l, r = l.map Int.ofNat ∧ IsOrd a0.data.toList l := by
  have HSZ := Aside0.mk (show a0.data.toList.length = a0.size from data_length a0)
  have HN0 := Aside0.mk (show (w.alloc (Obj.cells #[.int .i64 (a0.size : Int)] 3)).heap[w.heap.size]? = some (.cells #[.int .i64 (a0.size : Int)] 3 (0, 0)) from heap_alloc_new _ _)
  have HB0 := Aside0.mk ((Below.refl w.heap.size w).alloc (Nat.le_refl _) (Obj.cells #[.int .i64 (a0.size : Int)] 3))
  have hz1 : 0 ≤ ((a0.size : Nat) : Int) := by omega
  have hz2 : ((a0.size : Nat) : Int).toNat * 8 ≤ 281474976710656 := by omega
  go_enter Try.func54, Try.ntmps54
  go_wp2_with (first | (go_at_call 65; go_must (with_reducible refine (find_sortBytes_calls a0 hs _).mono ?_); rintro e w1 ⟨v1, r1, rfl, ho1, hb1, hperm1⟩; have HO1 := Aside0.mk (Kd.R_lower (Kd.R_mono (Kd.R_bound ho1) (ok' := fun k => k < w1.heap.size ∧ w.heap.size < k) (fun k hk => ⟨hk.2.2.1, by have h1 := hk.2.1; simp at h1; omega⟩)) HB0.out.size); have HP1 := Aside0.mk hperm1; have HN1 := Aside0.mk (blk_below HN0.out hb1); have HLT := Aside0.mk (blk_lt HN1.out); have HB1 := Aside0.mk (below_step HB0.out hb1); have hcn := blk_cell HN1.out 0; clear ho1 hb1 hperm1 HN0 HB0) | ((with_reducible refine gate_dst (N := 19) rfl ?_); go_must (refine Kd.R_make (Kd.int .i64) _ 3 rfl (N := 19) rfl 22 _ _ rfl (a0.size : Int) rfl rfl Try.underlying22 (.int .i64 0) 8 info3 rfl (by decide) (by omega) 0 (ok := fun k => w1.heap.size ≤ k) (okp := fun k => w1.heap.size ≤ k) rfl (fun _ hk => hk) (Nat.le_refl _) hz1 hz2 (Below.refl _ _) (Nat.le_refl _) ?_); intro v2 w2 ho2 hb2 hg2_ hnew2_; obtain ⟨A2, c2, hv2⟩ := Kd.R_slice ho2; rw [List.length_replicate, Int.toNat_natCast] at hv2; subst hv2; simp only [Int.toNat_natCast] at ho2; have HO2 := Aside0.mk (Kd.R_lower ho2 HB1.out.size); have HO1' := Aside0.mk (Kd.R_below HO1.out hb2); have HN2 := Aside0.mk (blk_below HN1.out hb2); have HB2 := Aside0.mk (below_step HB1.out hb2); have HG23 := Aside0.mk (hb2.size); clear ho2 hb2 hg2_ hnew2_ HO1 HN1 HB1 hcn; have hcn2 : ∀ o, (w2.alloc o).cell? ⟨w.heap.size, 0, none⟩ = some (.int .i64 (a0.size : Int)) := fun o => blk_cell (blk_alloc HN2.out o) 0))
  clear hcn2
  have HN3 := Aside0.mk (blk_alloc HN2.out (Obj.cells #[Value.slice A2 a0.size c2] 22))
  have HR3 := Aside0.mk (heap_alloc_new w2 (Obj.cells #[Value.slice A2 a0.size c2] 22))
  have HO13 := Aside0.mk (Kd.R_alloc HO1'.out (Obj.cells #[Value.slice A2 a0.size c2] 22))
  have HO23 := Aside0.mk (Kd.R_alloc HO2.out (Obj.cells #[Value.slice A2 a0.size c2] 22))
  have HB3 := Aside0.mk (below_alloc HB2.out (Obj.cells #[Value.slice A2 a0.size c2] 22))
  have HG3 := Aside0.mk HB2.out.size
  have HU3 : Aside0 (IsBytes a0.data.toList 0 (List.replicate a0.size 0)) := ⟨by rw [← HSZ.out]; exact isBytes_zero _⟩
  clear HN2 HO1' HO2 HB2
  go_loopw [21] (fun v21 wr => ∃ (k : Nat) (rk : List Int), k ≤ a0.size ∧ v21 = .int .i64 k ∧ Aside0 (IsBytes a0.data.toList k rk) ∧ Aside0 (wr.heap[w.heap.size]? = some (.cells #[.int .i64 (a0.size : Int)] 3 (0, 0))) ∧ Aside0 (wr.heap[w2.heap.size]? = some (.cells #[Value.slice A2 a0.size c2] 22 (0, 0))) ∧ Aside0 (Kd.R (Kd.int .i64) 3 wr w.heap.size (fun k => k < w1.heap.size ∧ w.heap.size < k) v1 r1) ∧ Aside0 (Kd.R (Kd.int .i64) 3 wr w.heap.size (fun k => w1.heap.size ≤ k) (.slice A2 a0.size c2) rk) ∧ Aside0 (Below w.heap.size w wr)) (fun v21 _ => a0.size - (intOf v21).toNat)
  case atStart => exact ⟨0, _, by omega, rfl, HU3, HN3, HR3, HO13, HO23, HB3⟩
  case round =>
    obtain ⟨k, rk, hk, rfl, HU, HN, HR, HO1, HO2, HB⟩ := hrel
    clear HN3 HR3 HO13 HO23 HB3 HU3
    by_cases hlt : k < a0.size
    · have hks : k < a0.data.toList.length := by rw [HSZ.out]; exact hlt
      have hrl : rk.length = a0.size := by rw [HU.out.1]; exact HSZ.out
      obtain ⟨g, cp, hv2, hg1, hg2, cl, hgc⟩ := Kd.R_form HO2.out (by omega)
      injection hv2 with e1 e2 e3
      subst e1
      obtain ⟨hx, hf⟩ := Kd.R_celln 0 HO2.out (k : Int) (by omega) (by omega)
      have HP := Kd.R_putg HO2.out (k : Int) (a0[k].toNat : Int)
      simp only [Int.toNat_natCast] at hx hf HP
      have hc8 : ((a0[k].toNat : Nat) : Int) ≤ 255 := by have := a0[k].toNat_lt; omega
      have hne : w2.heap.size ≠ g := blk_ne HR.out hgc (by decide)
      have hnn : w.heap.size ≠ g := by
        have h1 : w1.heap.size ≤ g := HO2.out.1 g rfl
        have h2 := HLT.out
        omega
      have HGL : Aside0 (∀ k, k < w1.heap.size → k ≠ g) := ⟨fun q hq e => by
        have h1 : w1.heap.size ≤ g := HO2.out.1 g rfl
        omega⟩
      have hcr := blk_cell HR.out 0
      clear hrl e2 e3
      have HN' := Aside0.mk (blk_far HN.out (p := ⟨g, k, none⟩) hnn (.int .i64 (a0[k].toNat : Int)))
      have HR' := Aside0.mk (blk_far HR.out (p := ⟨g, k, none⟩) hne (.int .i64 (a0[k].toNat : Int)))
      have HO1' := Aside0.mk (Kd.R_far HO1.out (p := ⟨g, k, none⟩) (fun q hq => HGL.out q hq.1) (.int .i64 (a0[k].toNat : Int)))
      have HO2' := Aside0.mk HP.1
      have HB' := Aside0.mk (below_set HB.out hg1 : Below w.heap.size w (wr.setCell ⟨g, k, none⟩ (.int .i64 (a0[k].toNat : Int))))
      have HU' : Aside0 (IsBytes a0.data.toList (k + 1) (rk.set k (a0[k].toNat : Int))) := ⟨isBytes_step HU.out hks⟩
      clear HP HU HN HR HO1 HO2 HB hgc
      go_wp2
      go_region
      all_goals (try go_wp2)
      all_goals go_roundw
      case rel => exact ⟨k + 1, _, by omega, by go_num, HU', HN', HR', HO1', HO2', ⟨below_drew HB'.out⟩⟩
      case measure => simp [intOf]; omega
    · obtain rfl : k = a0.size := by omega
      have HRK : Aside0 (RankOK a0.data.toList 1 rk) := ⟨by
        have h := HU.out
        rw [← HSZ.out] at h
        rw [isBytes_done h]
        exact rank_bytes _⟩
      -- the order's row: a block of its own
      have hrl : r1.length = a0.size := by rw [HP1.out.length_eq, List.length_map, List.length_range]; exact HSZ.out
      obtain ⟨g, cap, hv1, hg1, hg2, cl, hgc⟩ := Kd.R_form HO1.out (by omega)
      rw [hrl] at hv1
      subst hv1
      have hgw1 : g < w1.heap.size ∧ w.heap.size < g := HO1.out.1 g rfl
      obtain ⟨xs, hxs, hxp⟩ := ints_perm HP1.out
      subst hxs
      have HXP : Aside0 (xs.Perm (List.range a0.size)) := ⟨by rw [← HSZ.out]; exact hxp⟩
      have hrkl : rk.length = a0.size := by rw [HU.out.1]; exact HSZ.out
      have HO1' := Aside0.mk (R_ok HO1.out (ok' := fun k => k = g) (fun k hk => by simpa [Value.ownBlock] using hk.symm))
      have HO2' := Aside0.mk (Kd.R_mono HO2.out (ok' := fun k => k ≠ g) (fun k hk => by have := hgw1.1; omega))
      rw [← hrkl] at HR HO2'
      clear hrl hxp HO1 HO2 hgc HU hrkl HP1
      obtain ⟨w3, hw3⟩ : ∃ w3 : World, w3 = wr := ⟨_, rfl⟩
      subst hw3
      -- the worlds at the head of the great loop
      have HWW := Aside0.mk (heap_alloc_new w3 (Obj.cells #[Value.int IntKind.i64 1] 3))
      have HNW := Aside0.mk (blk_alloc HN.out (Obj.cells #[Value.int IntKind.i64 1] 3))
      have HRW := Aside0.mk (blk_alloc HR.out (Obj.cells #[Value.int IntKind.i64 1] 3))
      have HOW1 := Aside0.mk (Kd.R_alloc HO1'.out (Obj.cells #[Value.int IntKind.i64 1] 3))
      have HOW2 := Aside0.mk (Kd.R_alloc HO2'.out (Obj.cells #[Value.int IntKind.i64 1] 3))
      have HBW := Aside0.mk (below_alloc HB.out (Obj.cells #[Value.int IntKind.i64 1] 3))
      have hgne : w3.heap.size ≠ g := by omega
      have hgn : w.heap.size ≠ g := by omega
      have hgr : w2.heap.size ≠ g := by have := HG23.out; omega
      have HGW := Aside0.mk (HB.out.size)
      clear HN HR HO1' HO2' HB
      have hmf : ∀ (fn : Fn) (first cap : Array Value) (w : World), (Instr.makeFunc fn first cap).run Try.prog w = .ok (.func fn first cap) w := fun _ _ _ _ => rfl
      go_wp2
      go_loopg [7] 8192 (fun kq v7 wq => ∃ (width gw : Nat) (rk : List Int) (A : Option Addr) (c : Nat) (xs : List Nat), v7 = .pointer (some ⟨gw, 0, none⟩) ∧ kq + width = 8193 ∧ 0 < width ∧ width ≤ 4096 ∧ gw ≠ g ∧ w.heap.size ≤ gw ∧ Aside0 (RankOK a0.data.toList width rk) ∧ Aside0 (xs.Perm (List.range a0.size)) ∧ Aside0 (wq.heap[gw]? = some (.cells #[.int .i64 (width : Int)] 3 (0, 0))) ∧ Aside0 (wq.heap[w.heap.size]? = some (.cells #[.int .i64 (a0.size : Int)] 3 (0, 0))) ∧ Aside0 (wq.heap[w2.heap.size]? = some (.cells #[Value.slice A rk.length c] 22 (0, 0))) ∧ Aside0 (Kd.R (Kd.int .i64) 3 wq w.heap.size (fun k => k = g) (.slice (some ⟨g, 0, none⟩) a0.size cap) (xs.map Int.ofNat)) ∧ Aside0 (Kd.R (Kd.int .i64) 3 wq w.heap.size (fun k => k ≠ g) (.slice A rk.length c) rk) ∧ Aside0 (Below w.heap.size w wq))
      case atStart => exact ⟨1, w3.heap.size, rk, A2, c2, xs, rfl, rfl, by omega, by omega, hgne, HGW.out, HRK, HXP, HWW, HNW, HRW, HOW1, HOW2, HBW⟩
      case round =>
        obtain ⟨width, gw, rk, A, c, xs, rfl, hgk, hw0, hw1, hgwg, hgwb, HRK, HXP, HW, HN, HR, HO1, HO2, HB⟩ := hrel
        have hgs : g < wr.heap.size := own_lt (Kd.own_of_R HO1.out) g rfl
        have HNA := Aside0.mk (blk_alloc HN.out (Obj.cells #[.func (.func 66) #[] #[.pointer (some ⟨gw, 0, none⟩), .pointer (some ⟨w.heap.size, 0, none⟩), .pointer (some ⟨w2.heap.size, 0, none⟩)]] 91))
        have HRA := Aside0.mk (blk_alloc HR.out (Obj.cells #[.func (.func 66) #[] #[.pointer (some ⟨gw, 0, none⟩), .pointer (some ⟨w.heap.size, 0, none⟩), .pointer (some ⟨w2.heap.size, 0, none⟩)]] 91))
        have HWA := Aside0.mk (blk_alloc HW.out (Obj.cells #[.func (.func 66) #[] #[.pointer (some ⟨gw, 0, none⟩), .pointer (some ⟨w.heap.size, 0, none⟩), .pointer (some ⟨w2.heap.size, 0, none⟩)]] 91))
        have HFA := Aside0.mk (heap_alloc_new wr (Obj.cells #[.func (.func 66) #[] #[.pointer (some ⟨gw, 0, none⟩), .pointer (some ⟨w.heap.size, 0, none⟩), .pointer (some ⟨w2.heap.size, 0, none⟩)]] 91))
        have HO1A := Aside0.mk (Kd.R_alloc HO1.out (Obj.cells #[.func (.func 66) #[] #[.pointer (some ⟨gw, 0, none⟩), .pointer (some ⟨w.heap.size, 0, none⟩), .pointer (some ⟨w2.heap.size, 0, none⟩)]] 91))
        have HO2A := Aside0.mk (Kd.R_alloc HO2.out (Obj.cells #[.func (.func 66) #[] #[.pointer (some ⟨gw, 0, none⟩), .pointer (some ⟨w.heap.size, 0, none⟩), .pointer (some ⟨w2.heap.size, 0, none⟩)]] 91))
        have HBA := Aside0.mk (below_alloc HB.out (Obj.cells #[.func (.func 66) #[] #[.pointer (some ⟨gw, 0, none⟩), .pointer (some ⟨w.heap.size, 0, none⟩), .pointer (some ⟨w2.heap.size, 0, none⟩)]] 91))
        have HBX : Aside0 (Boxes (wr.alloc (Obj.cells #[.func (.func 66) #[] #[.pointer (some ⟨gw, 0, none⟩), .pointer (some ⟨w.heap.size, 0, none⟩), .pointer (some ⟨w2.heap.size, 0, none⟩)]] 91)) w.heap.size w2.heap.size gw a0.size width rk A c) := ⟨blk_cell HNA.out 0, blk_cell HRA.out 0, blk_cell HWA.out 0, (Kd.R_reads' HO2A.out).2.2⟩
        have HSC := Aside0.mk (sort_calls' a0.data.toList a0.size w.heap.size w2.heap.size gw wr.heap.size g width rk A c cap w.heap.size w.heap.size (fun k => k = g) xs _ hpos HSZ.out hs hw0 (by omega) HRK.out HBX.out (blk_cell HFA.out 0) HO2A.out hgn hgr hgwg (by omega) HO1A.out HXP.out)
        have hge : wr.heap.size ≠ g := by omega
        clear HN HR HW HO1 HO2 HB HWW HNW HRW HOW1 HOW2 HBW HBX
        go_wp2_with (first | (go_at_call 67; go_must (refine HSC.out.mono ?_); rintro e w4 ⟨rfl, ys, o, hyo, hyp, hyR, hyg, hys⟩; have HYO := Aside0.mk hyo; have HN4 := Aside0.mk (blk_grown HNA.out hyg (by simpa using hgn)); have HR4 := Aside0.mk (blk_grown HRA.out hyg (by simpa using hgr)); have HW4 := Aside0.mk (blk_grown HWA.out hyg (by simpa using hgwg)); have HF4 := Aside0.mk (blk_grown HFA.out hyg (by simpa using hge)); have HY4 := Aside0.mk hyR; have HYP := Aside0.mk hyp; have HYS := Aside0.mk hys; have HK4 := Aside0.mk (Kd.R_mono (Kd.R_bound (Kd.R_grown HO2A.out hyg (fun k hk e => hk (by simpa using e)))) (ok' := fun k => k ≠ g ∧ k < w4.heap.size) (fun k hk => ⟨hk.1, hk.2.2.1⟩)); have HB4 := Aside0.mk (pw_below_grown HBA.out (some g) HBA.out.size hyg (fun k e => by cases e; exact hg1)); have hgs4 : g < w4.heap.size := own_lt (Kd.own_of_R hyR) g rfl; have hcn4 := blk_cell HN4.out 0; have hgw4 := blk_lt HW4.out; clear HNA HRA HWA HFA HO1A HO2A HBA HSC hyo hyp hyR hyg hys) | ((with_reducible refine gate_dst (N := 39) rfl ?_); go_must (refine Kd.R_make (Kd.int .i64) _ 3 rfl (N := 39) rfl 22 _ _ rfl (a0.size : Int) rfl rfl Try.underlying22 (.int .i64 0) 8 info3 rfl (by decide) (by omega) 0 (ok := fun k => w4.heap.size ≤ k) (okp := fun k => w4.heap.size ≤ k) rfl (fun _ hk => hk) (Nat.le_refl _) hz1 hz2 (Below.refl _ _) (Nat.le_refl _) ?_); intro v5 w5 ho5 hb5 hg5_ hnew5_; obtain ⟨A5, c5, hv5⟩ := Kd.R_slice ho5; rw [List.length_replicate, Int.toNat_natCast] at hv5; subst hv5; simp only [Int.toNat_natCast] at ho5; have HX5 := Aside0.mk (Kd.R_lower ho5 HB4.out.size); have HN5 := Aside0.mk (blk_below HN4.out hb5); have HR5 := Aside0.mk (blk_below HR4.out hb5); have HW5 := Aside0.mk (blk_below HW4.out hb5); have HF5 := Aside0.mk (blk_below HF4.out hb5); have HY5 := Aside0.mk (Kd.R_below HY4.out hb5); have HK5 := Aside0.mk (Kd.R_below HK4.out hb5); have HB5 := Aside0.mk (below_step HB4.out hb5); have hcn5 := blk_cell HN5.out 0; clear ho5 hb5 hg5_ hnew5_ HN4 HR4 HW4 HF4 HY4 HK4 HB4 hcn4))
        clear hcn5
        have hnx0 : Aside0 (IsLvl a0.data.toList (width + width) o 1 (List.replicate a0.size 0)) := ⟨by rw [← HSZ.out]; exact isLvl_zero _ _ _⟩
        obtain ⟨w6, hw6⟩ : ∃ w6 : World, w6 = wr := ⟨_, rfl⟩
        subst hw6
        go_loopw [10, 11] (fun v10 v11 wx => ∃ (j : Nat) (nx : List Int), j + 1 ≤ a0.size ∧ v11 = .int .i64 ((j : Int) + 1) ∧ v10 = .int .i64 ((lvl a0.data.toList (width + width) o j : Nat) : Int) ∧ Aside0 (IsLvl a0.data.toList (width + width) o (j + 1) nx) ∧ Aside0 (wx.heap[w.heap.size]? = some (.cells #[.int .i64 (a0.size : Int)] 3 (0, 0))) ∧ Aside0 (wx.heap[w2.heap.size]? = some (.cells #[Value.slice A rk.length c] 22 (0, 0))) ∧ Aside0 (wx.heap[gw]? = some (.cells #[.int .i64 (width : Int)] 3 (0, 0))) ∧ Aside0 (wx.heap[w6.heap.size]? = some (.cells #[.func (.func 66) #[] #[.pointer (some ⟨gw, 0, none⟩), .pointer (some ⟨w.heap.size, 0, none⟩), .pointer (some ⟨w2.heap.size, 0, none⟩)]] 91 (0, 0))) ∧ Aside0 (Kd.R (Kd.int .i64) 3 wx w.heap.size (fun k => k = g) (.slice (some ⟨g, 0, none⟩) a0.size cap) (ys.map Int.ofNat)) ∧ Aside0 (Kd.R (Kd.int .i64) 3 wx w.heap.size (fun k => k ≠ g ∧ k < w4.heap.size) (.slice A rk.length c) rk) ∧ Aside0 (Kd.R (Kd.int .i64) 3 wx w.heap.size (fun k => w4.heap.size ≤ k) (.slice A5 a0.size c5) nx) ∧ Aside0 (Below w.heap.size w wx)) (fun _ v11 _ => a0.size - (intOf v11).toNat)
        case atStart => exact ⟨0, _, hpos, rfl, rfl, hnx0, HN5, HR5, HW5, HF5, HY5, HK5, HX5, HB5⟩
        case round =>
          obtain ⟨j, nx, hj, rfl, rfl, HL, HN, HR, HW, HF, HY, HK, HX, HB⟩ := hrel
          clear hnx0 HN5 HR5 HW5 HF5 HY5 HK5 HX5 HB5
          by_cases hlt : j + 1 < a0.size
          · have hcn := blk_cell HN.out 0
            have hcr := blk_cell HR.out 0
            have hcf := blk_cell HF.out 0
            have HBX : Aside0 (Boxes wr w.heap.size w2.heap.size gw a0.size width rk A c) := ⟨hcn, hcr, blk_cell HW.out 0, (Kd.R_reads' HK.out).2.2⟩
            have hyl : (ys.map Int.ofNat).length = a0.size := by rw [List.length_map, HYP.out.length_eq, List.length_range]
            have hoI : ∀ p, rdOf 0 (ys.map Int.ofNat) (p : Nat) = ((o p : Nat) : Int) := fun p => by
              rw [HYO.out]
              simp only [rdOf, Int.toNat_natCast, List.getD_eq_getElem?_getD, List.getElem?_map]
              cases ys[p]? <;> rfl
            obtain ⟨hca, _⟩ := Kd.R_celln 0 HY.out (j : Int) (by omega) (by omega)
            obtain ⟨hcb, _⟩ := Kd.R_celln 0 HY.out ((j + 1 : Nat) : Int) (by omega) (by omega)
            rw [hoI, Int.toNat_natCast] at hca hcb
            have HRL := Aside0.mk (show rk.length = a0.size by rw [HRK.out.len]; exact HSZ.out)
            have hoa : o j < a0.size := by have := HYS.out.lt j (by rw [HSZ.out]; omega); rw [HSZ.out] at this; exact this
            have hob : o (j + 1) < a0.size := by have := HYS.out.lt (j + 1) (by rw [HSZ.out]; omega); rw [HSZ.out] at this; exact this
            clear hyl hoI
            -- the ranks at the two places
            obtain ⟨ad, hA, hxa⟩ := Kd.at_int (Kd.R_reads' HK.out).2.2 (o j : Int) (by omega) (by rw [HRL.out]; omega)
            obtain ⟨ad', hA', hxb⟩ := Kd.at_int (Kd.R_reads' HK.out).2.2 (o (j + 1) : Int) (by omega) (by rw [HRL.out]; omega)
            subst hA
            cases hA'
            rw [rd_el, Int.toNat_natCast] at hxa hxb
            have hia : ((o j : Nat) : Int) < ((rk.length : Nat) : Int) := by rw [HRL.out]; omega
            have hib : ((o (j + 1) : Nat) : Int) < ((rk.length : Nat) : Int) := by rw [HRL.out]; omega
            have hia' : o j < rk.length := by rw [HRL.out]; omega
            have hib' : o (j + 1) < rk.length := by rw [HRL.out]; omega
            -- the place of the new rank
            obtain ⟨g5, c5', hv5, hg51, hg52, cl5, hgc5⟩ := Kd.R_form HX.out (by rw [HL.out.1, HSZ.out]; omega)
            injection hv5 with e1 e2 e3
            subst e1
            obtain ⟨hx5, hf5⟩ := Kd.R_celln 0 HX.out ((o (j + 1) : Nat) : Int) (by omega) (by omega)
            have HP5 := Kd.R_putg HX.out ((o (j + 1) : Nat) : Int) ((lvl a0.data.toList (width + width) o (j + 1) : Nat) : Int)
            simp only [Int.toNat_natCast] at hx5 hf5 HP5
            have hg5w : w4.heap.size ≤ g5 := HX.out.1 g5 rfl
            have HL' : Aside0 (IsLvl a0.data.toList (width + width) o (j + 1 + 1) (nx.set (o (j + 1)) ((lvl a0.data.toList (width + width) o (j + 1) : Nat) : Int))) := ⟨isLvl_step HL.out HYS.out (by rw [HSZ.out]; exact hlt)⟩
            have HCE := Aside0.mk (cmp_eq HRK.out hw0 (i := o j) (j := o (j + 1)) (by rw [HSZ.out]; exact hoa) (by rw [HSZ.out]; exact hob))
            have HBC := Aside0.mk (fun (i : Nat) (hi : i < a0.size) W hB => behind_calls i w.heap.size w2.heap.size gw a0.size width rk (some ad) c W hB HRL.out hs hi (by omega) (fun q hq => ⟨HRK.out.lo q (by rw [HSZ.out]; exact hq), HRK.out.hi q (by rw [HSZ.out]; exact hq)⟩))
            have HV := Aside0.mk (lvl_le a0.data.toList (width + width) o j)
            have hv0 : 0 ≤ ((lvl a0.data.toList (width + width) o j : Nat) : Int) := by omega
            have hv1 : ((lvl a0.data.toList (width + width) o j : Nat) : Int) ≤ 4096 := by have := HV.out; omega
            -- where the new world stands
            have hnew : ∀ (V : Value), Aside0 ((wr.setCell ⟨g5, o (j + 1), none⟩ V).heap[w.heap.size]? = some (.cells #[.int .i64 (a0.size : Int)] 3 (0, 0)) ∧ (wr.setCell ⟨g5, o (j + 1), none⟩ V).heap[w2.heap.size]? = some (.cells #[Value.slice (some ad) rk.length c] 22 (0, 0)) ∧ (wr.setCell ⟨g5, o (j + 1), none⟩ V).heap[gw]? = some (.cells #[.int .i64 (width : Int)] 3 (0, 0)) ∧ (wr.setCell ⟨g5, o (j + 1), none⟩ V).heap[w6.heap.size]? = some (.cells #[.func (.func 66) #[] #[.pointer (some ⟨gw, 0, none⟩), .pointer (some ⟨w.heap.size, 0, none⟩), .pointer (some ⟨w2.heap.size, 0, none⟩)]] 91 (0, 0)) ∧ Kd.R (Kd.int .i64) 3 (wr.setCell ⟨g5, o (j + 1), none⟩ V) w.heap.size (fun k => k = g) (.slice (some ⟨g, 0, none⟩) a0.size cap) (ys.map Int.ofNat) ∧ Kd.R (Kd.int .i64) 3 (wr.setCell ⟨g5, o (j + 1), none⟩ V) w.heap.size (fun k => k ≠ g ∧ k < w4.heap.size) (.slice (some ad) rk.length c) rk ∧ Below w.heap.size w (wr.setCell ⟨g5, o (j + 1), none⟩ V)) := fun V => ⟨blk_far HN.out (p := ⟨g5, o (j + 1), none⟩) (by show w.heap.size ≠ g5; omega) V, blk_far HR.out (p := ⟨g5, o (j + 1), none⟩) (blk_ne HR.out hgc5 (by decide)) V, blk_far HW.out (p := ⟨g5, o (j + 1), none⟩) (by show gw ≠ g5; omega) V, blk_far HF.out (p := ⟨g5, o (j + 1), none⟩) (blk_ne HF.out hgc5 (by decide)) V, Kd.R_far HY.out (p := ⟨g5, o (j + 1), none⟩) (fun q hq => by show q ≠ g5; have h1 : q = g := hq; omega) V, Kd.R_far HK.out (p := ⟨g5, o (j + 1), none⟩) (fun q hq => by show q ≠ g5; have h1 : q < w4.heap.size := hq.2; omega) V, below_set HB.out hg51⟩
            have HNEW := Aside0.mk hnew
            clear hnew HN HR HW HF HY HK HX HB HL hgc5 e2 e3 HV
            by_cases hq : el rk (o j) = el rk (o (j + 1))
            · have hq1 : (el rk (o j) == el rk (o (j + 1))) = true := by simp [hq]
              have hq2 : (el rk (o j) != el rk (o (j + 1))) = false := by simp [hq]
              have hb1 := bh_range a0.size width rk (o j) (fun q hq => ⟨HRK.out.lo q (by rw [HSZ.out]; exact hq), HRK.out.hi q (by rw [HSZ.out]; exact hq)⟩)
              have hb2 := bh_range a0.size width rk (o (j + 1)) (fun q hq => ⟨HRK.out.lo q (by rw [HSZ.out]; exact hq), HRK.out.hi q (by rw [HSZ.out]; exact hq)⟩)
              have HBX2 := Aside0.mk (fun n => HBX.out.drewN n)
              by_cases hz : bh a0.size width rk (o j) = bh a0.size width rk (o (j + 1))
              · have hup : Aside0 (lvl a0.data.toList (width + width) o (j + 1) = lvl a0.data.toList (width + width) o j) := ⟨lvl_same (HCE.out.1 ⟨hq, by rw [HSZ.out]; exact hz⟩)⟩
                have hz1 : (bh a0.size width rk (o j) == bh a0.size width rk (o (j + 1))) = true := by simp [hz]
                have hz2 : (bh a0.size width rk (o j) != bh a0.size width rk (o (j + 1))) = false := by simp [hz]
                rw [hup.out] at HP5 HL'
                clear hq hz HBX
                generalize el rk (o j) = xa at *
                generalize el rk (o (j + 1)) = xb at *
                generalize lvl a0.data.toList (width + width) o j = lv at *
                go_wp2
                go_quiet (fail)
                go_wp2
                go_quiet ((go_at_call 66; exact quiet_add_same (HBC.out _ (by assumption) _ (HBX2.out _))))
                go_wp2
                go_roundw
                case rel => exact ⟨j + 1, _, by omega, by go_num, by rw [hup.out], HL', ⟨(HNEW.out _).out.1⟩, ⟨(HNEW.out _).out.2.1⟩, ⟨(HNEW.out _).out.2.2.1⟩, ⟨(HNEW.out _).out.2.2.2.1⟩, ⟨(HNEW.out _).out.2.2.2.2.1⟩, ⟨(HNEW.out _).out.2.2.2.2.2.1⟩, ⟨HP5.1⟩, ⟨pw_below_drewN (HNEW.out _).out.2.2.2.2.2.2 _⟩⟩
                case measure => simp [intOf]; omega
              · have hup : Aside0 (lvl a0.data.toList (width + width) o (j + 1) = lvl a0.data.toList (width + width) o j + 1) := ⟨lvl_up (fun e => hz (by have := (HCE.out.2 e).2; rw [HSZ.out] at this; exact this))⟩
                have hz1 : (bh a0.size width rk (o j) == bh a0.size width rk (o (j + 1))) = false := by simp [hz]
                have hz2 : (bh a0.size width rk (o j) != bh a0.size width rk (o (j + 1))) = true := by simp [hz]
                rw [hup.out, Int.natCast_add, Int.natCast_one] at HP5 HL'
                clear hq hz HBX
                generalize el rk (o j) = xa at *
                generalize el rk (o (j + 1)) = xb at *
                generalize lvl a0.data.toList (width + width) o j = lv at *
                go_wp2
                go_quiet (fail)
                go_wp2
                go_quiet ((go_at_call 66; exact quiet_add_same (HBC.out _ (by assumption) _ (HBX2.out _))))
                go_wp2
                go_roundw
                case rel => exact ⟨j + 1, _, by omega, by go_num, by rw [hup.out, Int.natCast_add, Int.natCast_one], HL', ⟨(HNEW.out _).out.1⟩, ⟨(HNEW.out _).out.2.1⟩, ⟨(HNEW.out _).out.2.2.1⟩, ⟨(HNEW.out _).out.2.2.2.1⟩, ⟨(HNEW.out _).out.2.2.2.2.1⟩, ⟨(HNEW.out _).out.2.2.2.2.2.1⟩, ⟨HP5.1⟩, ⟨pw_below_drewN (HNEW.out _).out.2.2.2.2.2.2 _⟩⟩
                case measure => simp [intOf]; omega
            · have hup : Aside0 (lvl a0.data.toList (width + width) o (j + 1) = lvl a0.data.toList (width + width) o j + 1) := ⟨lvl_up (fun e => hq (HCE.out.2 e).1)⟩
              have hq1 : (el rk (o j) == el rk (o (j + 1))) = false := by simp [hq]
              have hq2 : (el rk (o j) != el rk (o (j + 1))) = true := by simp [hq]
              rw [hup.out, Int.natCast_add, Int.natCast_one] at HP5 HL'
              clear hq HBX
              generalize el rk (o j) = xa at *
              generalize el rk (o (j + 1)) = xb at *
              generalize lvl a0.data.toList (width + width) o j = lv at *
              go_wp2
              go_quiet (fail)
              go_wp2
              go_quiet (fail)
              go_wp2
              go_roundw
              case rel => exact ⟨j + 1, _, by omega, by go_num, by rw [hup.out, Int.natCast_add, Int.natCast_one], HL', ⟨(HNEW.out _).out.1⟩, ⟨(HNEW.out _).out.2.1⟩, ⟨(HNEW.out _).out.2.2.1⟩, ⟨(HNEW.out _).out.2.2.2.1⟩, ⟨(HNEW.out _).out.2.2.2.2.1⟩, ⟨(HNEW.out _).out.2.2.2.2.2.1⟩, ⟨HP5.1⟩, ⟨pw_below_drewN (HNEW.out _).out.2.2.2.2.2.2 _⟩⟩
              case measure => simp [intOf]; omega
          · have hje : j + 1 = a0.size := by omega
            have HJE := Aside0.mk hje
            have hcn := blk_cell HN.out 0
            have hcr := blk_cell HR.out 0
            have hfr := blk_frozen HR.out 0
            have hcw := blk_cell HW.out 0
            have HRK2 : Aside0 (RankOK a0.data.toList (width + width) nx) := ⟨HYS.out.ranks HL.out.1 (by rw [HSZ.out]; exact hs) (fun p hp => HL.out.2 p (by rw [HSZ.out] at hp; omega))⟩
            have hnl : nx.length = a0.size := by rw [HL.out.1, HSZ.out]
            have HNL := Aside0.mk hnl
            have HV := Aside0.mk (lvl_le a0.data.toList (width + width) o j)
            have hv0 : 0 ≤ ((lvl a0.data.toList (width + width) o j : Nat) : Int) := by omega
            have hv1 : ((lvl a0.data.toList (width + width) o j : Nat) : Int) ≤ 4096 := by have := HV.out; omega
            have hgR : w2.heap.size < wr.heap.size := blk_lt HR.out
            have HN' := Aside0.mk (blk_far HN.out (p := ⟨w2.heap.size, 0, none⟩) (blk_ne HN.out HR.out (by decide)) (.slice A5 a0.size c5))
            have HW' := Aside0.mk (blk_far HW.out (p := ⟨w2.heap.size, 0, none⟩) (blk_ne HW.out HR.out (by decide)) (.slice A5 a0.size c5))
            have HR' : Aside0 ((wr.setCell ⟨w2.heap.size, 0, none⟩ (.slice A5 a0.size c5)).heap[w2.heap.size]? = some (.cells #[Value.slice A5 a0.size c5] 22 (0, 0))) := ⟨blk_set HR.out 0 (.slice A5 a0.size c5)⟩
            have HY' := Aside0.mk (Kd.R_set HY.out HR.out (by intro q hq; simp [Kd.int, Kd.scalar] at hq; omega) 0 (.slice A5 a0.size c5))
            have HX' := Aside0.mk (Kd.R_set HX.out HR.out (by intro q hq; simp [Kd.int, Kd.scalar] at hq; omega) 0 (.slice A5 a0.size c5))
            have HB' : Aside0 (Below w.heap.size w (wr.setCell ⟨w2.heap.size, 0, none⟩ (.slice A5 a0.size c5))) := ⟨below_set HB.out HG3.out⟩
            have hnc : (wr.setCell ⟨w2.heap.size, 0, none⟩ (.slice A5 a0.size c5)).cell? ⟨w.heap.size, 0, none⟩ = some (.int .i64 (a0.size : Int)) := blk_cell HN'.out 0
            have hwc : (wr.setCell ⟨w2.heap.size, 0, none⟩ (.slice A5 a0.size c5)).cell? ⟨gw, 0, none⟩ = some (.int .i64 (width : Int)) := blk_cell HW'.out 0
            clear HN HR HW HF HY HK HX HB hje hnl
            by_cases hd : a0.size ≤ lvl a0.data.toList (width + width) o j + 1
            · have HO : Aside0 (IsOrd a0.data.toList ys) := ⟨by
                have h1 := HYS.out.done (by rw [HSZ.out, show a0.size - 1 = j by have := HJE.out; omega]; exact hd)
                have h2 : (List.range a0.data.toList.length).map o = ys := by
                  have hyl : ys.length = a0.size := by rw [HYP.out.length_eq, List.length_range]
                  apply List.ext_getElem (by simp [HSZ.out, hyl])
                  intro i h3 h4
                  simp [HYO.out, List.getElem?_eq_getElem h4]
                rwa [h2] at h1⟩
              have hdI : ((a0.size : Nat) : Int) - 1 ≤ ((lvl a0.data.toList (width + width) o j : Nat) : Int) := by omega
              generalize lvl a0.data.toList (width + width) o j = lv at *
              go_wp2
              go_ret
              exact ⟨_, _, rfl, Kd.R_mono HY'.out (fun _ _ => trivial), HB'.out, ys, rfl, HO.out⟩
            · have hw2 : width + width ≤ 4096 := by
                apply Decidable.byContradiction
                intro q
                have h1 := HYS.out.wide (by rw [HSZ.out]; omega) j (by rw [HSZ.out]; omega)
                have := HJE.out
                omega
              have hdI : ¬ ((a0.size : Nat) : Int) - 1 ≤ ((lvl a0.data.toList (width + width) o j : Nat) : Int) := by omega
              generalize lvl a0.data.toList (width + width) o j = lv at *
              have hsz : (wr.setCell ⟨w2.heap.size, 0, none⟩ (.slice A5 a0.size c5)).heap.size = wr.heap.size := by simp
              have hgwr : g < wr.heap.size := by have := own_lt (Kd.own_of_R HY'.out) g rfl; rw [hsz] at this; exact this
              have hbw : w.heap.size ≤ wr.heap.size := by have := HB'.out.size; rw [hsz] at this; exact this
              have HWN : Aside0 (((wr.setCell ⟨w2.heap.size, 0, none⟩ (.slice A5 a0.size c5)).alloc (Obj.cells #[Value.int .i64 ((width : Int) * 2)] 3)).heap[wr.heap.size]? = some (.cells #[.int .i64 ((width + width : Nat) : Int)] 3 (0, 0))) := ⟨by
                rw [show ((width + width : Nat) : Int) = (width : Int) * 2 by omega]
                have := heap_alloc_new (wr.setCell ⟨w2.heap.size, 0, none⟩ (.slice A5 a0.size c5)) (Obj.cells #[Value.int .i64 ((width : Int) * 2)] 3)
                rw [hsz] at this
                exact this⟩
              have HXN : Aside0 (Kd.R (Kd.int .i64) 3 (wr.setCell ⟨w2.heap.size, 0, none⟩ (.slice A5 a0.size c5)) w.heap.size (fun k => k ≠ g) (.slice A5 nx.length c5) nx) := ⟨by
                rw [HNL.out]
                exact Kd.R_mono HX'.out (fun k hk => by show k ≠ g; have h1 : w4.heap.size ≤ k := hk; omega)⟩
              have HRN : Aside0 ((wr.setCell ⟨w2.heap.size, 0, none⟩ (.slice A5 a0.size c5)).heap[w2.heap.size]? = some (.cells #[Value.slice A5 nx.length c5] 22 (0, 0))) := ⟨by rw [HNL.out]; exact HR'.out⟩
              clear hsz
              go_wp2
              go_roundg (8193 - (width + width))
              case measure => omega
              case rel => exact ⟨width + width, wr.heap.size, nx, A5, c5, ys, rfl, by omega, by omega, hw2, by omega, hbw, HRK2, HYP, HWN, ⟨blk_alloc HN'.out _⟩, ⟨blk_alloc HRN.out _⟩, ⟨Kd.R_alloc HY'.out _⟩, ⟨Kd.R_alloc HXN.out _⟩, ⟨below_alloc HB'.out _⟩⟩


set_option maxHeartbeats 4000000 in
set_option maxRecDepth 100000 in
theorem suffixes_calls0 (a0 : ByteArray) (hs : a0.size = 0) (w : World) :
    Calls Try.prog 54 #[.string a0] w fun e w' => ∃ (v0_ : Value) (r : List Int), e = .returned (v0_) ∧ Kd.R (Kd.int .i64) 3 w' w.heap.size (fun _ => True) v0_ r ∧ Below w.heap.size w w' ∧ ∃ l, r = l.map Int.ofNat ∧ IsOrd a0.data.toList l := by
  have HSZ := Aside0.mk (show a0.data.toList.length = 0 by rw [data_length, hs])
  have HN0 := Aside0.mk (show (w.alloc (Obj.cells #[.int .i64 0] 3)).heap[w.heap.size]? = some (.cells #[.int .i64 0] 3 (0, 0)) from heap_alloc_new _ _)
  have HB0 := Aside0.mk ((Below.refl w.heap.size w).alloc (Nat.le_refl _) (Obj.cells #[.int .i64 0] 3))
  have HS := Aside0.mk (show a0.size ≤ 4096 by omega)
  have hmf : ∀ (fn : Fn) (first cap : Array Value) (w : World), (Instr.makeFunc fn first cap).run Try.prog w = .ok (.func fn first cap) w := fun _ _ _ _ => rfl
  have hsI : ((a0.size : Nat) : Int) = 0 := by omega
  go_enter Try.func54, Try.ntmps54
  go_wp2_with (first | (go_at_call 65; go_must (with_reducible refine (find_sortBytes_calls a0 HS.out _).mono ?_); rintro e w1 ⟨v1, r1, rfl, ho1, hb1, hperm1⟩; have HO1 := Aside0.mk (Kd.R_lower ho1 HB0.out.size); have HP1 := Aside0.mk hperm1; have HN1 := Aside0.mk (blk_below HN0.out hb1); have HB1 := Aside0.mk (below_step HB0.out hb1); have hcn := blk_cell HN1.out 0; clear ho1 hb1 hperm1 HN0 HB0) | ((with_reducible refine gate_dst (N := 19) rfl ?_); go_must (refine Kd.R_make (Kd.int .i64) _ 3 rfl (N := 19) rfl 22 _ _ rfl 0 rfl rfl Try.underlying22 (.int .i64 0) 8 info3 rfl (by decide) (by omega) 0 (ok := fun _ => True) (okp := fun _ => True) rfl (fun _ hk => hk) trivial (by omega) (by omega) (Below.refl _ _) (Nat.le_refl _) ?_); intro v2 w2 ho2 hb2 hg2_ hnew2_; obtain ⟨A2, c2, hv2⟩ := Kd.R_slice ho2; simp only [List.length_replicate, Int.toNat_zero, List.length_nil, List.replicate_zero] at hv2; subst hv2; have HO1' := Aside0.mk (Kd.R_below HO1.out hb2); have HN2 := Aside0.mk (blk_below HN1.out hb2); have HB2 := Aside0.mk (below_step HB1.out hb2); clear ho2 hb2 hg2_ hnew2_ HO1 HN1 HB1 hcn; have hcn2 : ∀ o, (w2.alloc o).cell? ⟨w.heap.size, 0, none⟩ = some (.int .i64 0) := fun o => blk_cell (blk_alloc HN2.out o) 0))
  have hr : r1 = [] := by
    have := HP1.out.length_eq
    rw [HSZ.out] at this
    exact List.eq_nil_of_length_eq_zero (by simpa using this)
  subst hr
  obtain ⟨A1, c1, hv1⟩ := Kd.R_slice HO1'.out
  simp only [List.length_nil] at hv1
  subst hv1
  have HSN := Aside0.mk (fun (fv : Value) (W : World) => show Calls Try.prog 67 #[.slice A1 0 c1, fv] W fun e w' => e = .returned (.tuple #[]) ∧ w' = W from AnyF.slices_SortFunc_none Try.sort0 A1 c1 fv W)
  clear hcn2
  have hcn3 : ∀ o, (w2.alloc o).cell? ⟨w.heap.size, 0, none⟩ = some (.int .i64 0) := fun o => blk_cell (blk_alloc HN2.out o) 0
  refine wp_loop_rounds 1 ?_
  rw [rounds_succ]
  go_wp2
  refine wp_loop_rounds 1 ?_
  rw [rounds_succ]
  have hcn4 : ∀ o1 o2 o3, (((w2.alloc o1).alloc o2).alloc o3).cell? ⟨w.heap.size, 0, none⟩ = some (.int .i64 0) := fun o1 o2 o3 => blk_cell (blk_alloc (blk_alloc (blk_alloc HN2.out o1) o2) o3) 0
  go_wp2_with (first | (go_at_call 67; go_must (refine (HSN.out _ _).mono ?_); rintro e w4 ⟨rfl, rfl⟩) | ((with_reducible refine gate_dst (N := 39) rfl ?_); go_must (refine Kd.R_make (Kd.int .i64) _ 3 rfl (N := 39) rfl 22 _ _ rfl 0 rfl rfl Try.underlying22 (.int .i64 0) 8 info3 rfl (by decide) (by omega) 0 (ok := fun _ => True) (okp := fun _ => True) rfl (fun _ hk => hk) trivial (by omega) (by omega) (Below.refl _ _) (Nat.le_refl _) ?_); intro v5 w5 ho5 hb5 hg5_ hnew5_))
  have HN5 := Aside0.mk (blk_below (blk_alloc (blk_alloc (blk_alloc HN2.out _) _) _) hb5)
  have HR5 := Aside0.mk (blk_below (blk_alloc (blk_alloc (heap_alloc_new w2 _) _) _) hb5)
  have HB5 := Aside0.mk (below_step (below_alloc (below_alloc (below_alloc HB2.out _) _) _) hb5)
  have HO5 := Aside0.mk (Kd.R_below (Kd.R_alloc (Kd.R_alloc (Kd.R_alloc HO1'.out _) _) _) hb5)
  have hcn5 := blk_cell HN5.out 0
  have hcr5 := blk_cell HR5.out 0
  have hfr5 := blk_frozen HR5.out 0
  have HG := Aside0.mk HB2.out.size
  obtain ⟨A5, c5, hv5⟩ := Kd.R_slice ho5
  simp only [List.length_replicate, Int.toNat_zero, List.length_nil, List.replicate_zero] at hv5
  subst hv5
  have hnc : (w5.setCell ⟨w2.heap.size, 0, none⟩ (.slice A5 0 c5)).cell? ⟨w.heap.size, 0, none⟩ = some (.int .i64 0) := blk_cell (blk_far HN5.out (p := ⟨w2.heap.size, 0, none⟩) (blk_ne HN5.out HR5.out (by decide)) _) 0
  have HO6 := Aside0.mk (Kd.R_set HO5.out HR5.out (by intro q hq; simp [Kd.int, Kd.scalar] at hq; omega) 0 (.slice A5 0 c5))
  have HB6 : Aside0 (Below w.heap.size w (w5.setCell ⟨w2.heap.size, 0, none⟩ (.slice A5 0 c5))) := ⟨below_set HB5.out HG.out⟩
  have HF : Aside0 (IsOrd a0.data.toList []) := ⟨⟨by rw [HSZ.out]; exact List.Perm.refl _, List.Pairwise.nil⟩⟩
  clear ho5 hb5 hg5_ hnew5_ hcn3 hcn4
  refine wp_loop_rounds 1 ?_
  rw [rounds_succ]
  go_wp2
  go_ret
  exact ⟨_, [], rfl, HO6.out, HB6.out, [], rfl, HF.out⟩
/-- the order of a text -/
theorem suffixes_calls (a0 : ByteArray) (hs : a0.size ≤ 4096) (w : World) :
    Calls Try.prog 54 #[.string a0] w fun e w' => ∃ (v0_ : Value) (r : List Int), e = .returned (v0_) ∧ Kd.R (Kd.int .i64) 3 w' w.heap.size (fun _ => True) v0_ r ∧ Below w.heap.size w w' ∧ ∃ l, r = l.map Int.ofNat ∧ IsOrd a0.data.toList l := by
  by_cases h : a0.size = 0
  · exact suffixes_calls0 a0 h w
  · exact suffixes_calls1 a0 hs (by omega) w
end Go.Proofs.Ytppelnlocfcgfaa.P
namespace Go.Proofs.Fnd
/-- the order of a text -/
def sufOrd (s : List UInt8) : List Nat := (List.range s.length).mergeSort (fun i j => !decide (LtW (s.length + 1) (sq s j) (sq s i)))
theorem sufOrd_isOrd (s : List UInt8) : IsOrd s (sufOrd s) := by
  have hp : (sufOrd s).Perm (List.range s.length) := List.mergeSort_perm _ _
  refine ⟨hp, ?_⟩
  have hs : (sufOrd s).Pairwise (fun i j => (!decide (LtW (s.length + 1) (sq s j) (sq s i))) = true) := by
    refine List.pairwise_mergeSort (fun a b c h1 h2 => ?_) (fun a b => ?_) _
    · simp only [Bool.not_eq_true', decide_eq_false_iff_not] at h1 h2 ⊢
      exact LtW.ntrans h2 h1
    · simp only [Bool.or_eq_true, Bool.not_eq_true', decide_eq_false_iff_not]
      by_cases q : LtW (s.length + 1) (sq s b) (sq s a)
      · exact .inr (fun q' => q.asymm q')
      · exact .inl q
  have hn : (sufOrd s).Nodup := hp.nodup_iff.2 List.nodup_range
  have h2 := hs.and hn
  refine h2.imp_of_mem fun {i j} hi hj h => ?_
  have hi' : i < s.length := List.mem_range.1 (hp.mem_iff.1 hi)
  have hj' : j < s.length := List.mem_range.1 (hp.mem_iff.1 hj)
  obtain ⟨h1, h3⟩ := h
  simp only [Bool.not_eq_true', decide_eq_false_iff_not] at h1
  rcases tri (s.length + 1) (sq s i) (sq s j) with b | b | b
  · exact b
  · exact absurd (sq_inj s s.length i j (Nat.le_refl _) (Nat.le_of_lt hi') (Nat.le_of_lt hj') b) h3
  · exact absurd b h1
theorem IsOrd.eq {s : List UInt8} {l : List Nat} (h : IsOrd s l) : l = sufOrd s := h.unique (sufOrd_isOrd s)
theorem sufOrd_length (s : List UInt8) : (sufOrd s).length = s.length := by rw [(sufOrd_isOrd s).perm.length_eq, List.length_range]
theorem sufOrd_lt (s : List UInt8) (i : Nat) (h : i ∈ sufOrd s) : i < s.length := List.mem_range.1 ((sufOrd_isOrd s).perm.mem_iff.1 h)
end Go.Proofs.Fnd
namespace Go.Proofs.Ytppelnlocfcgfaa.P
open Go.RowKit Go.Proofs.YtppelnlocfcgfaaW.PrintWords Go.Proofs.YtppelnlocfcgfaaW.PrintLast Go.Proofs.YtppelnlocfcgfaaW.PrintMore
open Go.Proofs.Fnd
/-- the order of a text, as the program computes it -/
def find_suffixes.f (a0 : ByteArray) : Option (List Int) := if a0.size ≤ 4096 then some ((sufOrd a0.data.toList).map Int.ofNat) else none
theorem find_suffixes.calls (a0 : ByteArray) (r : List Int) (w : World) (h : find_suffixes.f a0 = some r) :
    Calls Try.prog 54 #[.string a0] w fun e w' => ∃ v0_ : Value, e = .returned (v0_) ∧ Kd.R (Kd.int .i64) 3 w' w.heap.size (fun _ => True) v0_ r ∧ Below w.heap.size w w' := by
  unfold find_suffixes.f at h
  by_cases hs : a0.size ≤ 4096
  · rw [if_pos hs] at h
    injection h with h
    subst h
    refine (suffixes_calls a0 hs w).mono ?_
    rintro e w' ⟨v, r, he, hR, hB, l, rfl, hl⟩
    rw [hl.eq] at hR
    exact ⟨v, he, hR, hB⟩
  · rw [if_neg hs] at h
    exact absurd h (by simp)
end Go.Proofs.Ytppelnlocfcgfaa.P
namespace Go.Proofs.Ytppelnlocfcgfaa.P
open Go.RowKit Go.Proofs.YtppelnlocfcgfaaW.PrintWords Go.Proofs.YtppelnlocfcgfaaW.PrintLast Go.Proofs.YtppelnlocfcgfaaW.PrintMore
attribute [local go_sem] max2_int min2_int max_two min_two max_three min_three max_four min_four   -- for this text's walks alone

/-! ### find_newIndex: function 41 -/
def find_newIndex.f (k : Nat) (a0 : ByteArray) : Option (ByteArray × List Int × List Int) := (find_suffixes.f a0).bind fun t116 => ((find_overlaps.f k a0 t116).bind fun t119 => (some (a0, t116, t119)))
theorem find_newIndex.mono : ∀ a0 k, LeO (find_newIndex.f k a0) (find_newIndex.f (k + 1) a0) := by
 intro a0 k
 unfold find_newIndex.f
 repeat' first
   | (with_reducible exact find_overlaps.mono _ _ _)
   | (with_reducible exact LeO.refl _)
   | (with_reducible exact LeO.none _)
   | (with_reducible refine LeO.ite ?_ ?_)
   | (with_reducible refine LeO.bind ?_ (fun _ => ?_))
   | exact find_overlaps.mono _ _ _
   | exact LeO.none _
   | refine LeO.ite ?_ ?_
   | refine LeO.bind ?_ (fun _ => ?_)
set_option maxHeartbeats 8000000 in
set_option maxRecDepth 100000 in
theorem find_newIndex.calls (k : Nat) (a0 : ByteArray) (r1 : ByteArray) (r2 : List Int) (r3 : List Int) (w : World) (h : find_newIndex.f k a0 = some (r1, r2, r3)) :
  Calls Try.prog 41 #[.string a0] w fun e w' => ∃ v1_ v2_ : Value, e = .returned (.agg #[.string r1, v1_, v2_]) ∧ Kd.R (Kd.int .i64) 3 w' w.heap.size (fun k_ => some k_ ≠ (v2_ : Value).ownBlock) v1_ r2 ∧ Kd.R (Kd.int .i64) 3 w' w.heap.size (fun k_ => some k_ ≠ (v1_ : Value).ownBlock) v2_ r3 ∧ Below w.heap.size w w' := by
 have hu24 := Try.underlying24
 have HB := Aside0.mk (Below.refl w.heap.size w)
 have H : ((find_suffixes.f a0).bind fun t116 => ((find_overlaps.f k a0 t116).bind fun t119 => (some (a0, t116, t119)))) = some (r1, r2, r3) := h
 clear h
 replace H := Option.bind_eq_some_iff.mp H
 obtain ⟨t116, A20, H⟩ := H
 replace H : ((find_overlaps.f k a0 t116).bind fun t119 => (some (a0, t116, t119))) = some (r1, r2, r3) := H
 have A2 := Aside0.mk A20
 clear A20
 replace H := Option.bind_eq_some_iff.mp H
 obtain ⟨t119, A30, H⟩ := H
 replace H : (some (a0, t116, t119)) = some (r1, r2, r3) := H
 have A3 := Aside0.mk A30
 clear A30
 simp only [Option.some.injEq, Prod.mk.injEq] at H
 obtain ⟨rfl, rfl, rfl⟩ := H
 go_enter Try.func41, Try.ntmps41
 go_wp2_with (first | ((with_reducible refine gate_dst (N := 2) rfl ?_); refine box_event ?hg (N := 2) ?hd (cs := #[.string (⟨#[]⟩ : ByteArray), .slice none 0 0, .slice none 0 0]) (t := 24) ?hr ?_; (case hd => rfl); (case hg => rfl); (case hr => first | (go_simp; done) | (go_simp; rfl)); intro gb115 hg w4 hbox hb; have n0_ := Aside0.mk (below_step (by repeat (first | (with_reducible first | exact HB.out | apply below_alloc | apply pw_below_drewN | apply below_drew1) | exact HB.out)) hb); have n1_ := Aside0.mk (hbox); have n2_ := Aside0.mk ((by rw [hg]; exact (below_size (by repeat (first | (with_reducible first | exact HB.out | apply below_alloc | apply pw_below_drewN | apply below_drew1) | exact HB.out))) : w.heap.size ≤ gb115)); have n3_ := Aside0.mk ((by rw [hg]; exact (below_size (by repeat (first | (with_reducible first | exact HB.out | apply below_alloc | apply pw_below_drewN | apply below_drew1) | exact HB.out))) : w.heap.size ≤ gb115)); clear HB; have HB := n0_; have BK115 := n1_; have GW115 := n2_; have GE115 := n3_; clear n0_ n1_ n2_ n3_; clear hb hbox hg) | ((with_reducible refine gate_callee (f := 54) rfl ?_); refine goesL_ (some 5) rfl rfl Try.func54 (by kernel_rfl) rfl #[.string a0] rfl (by (try simp only [List.map_toArray, List.map_cons, List.map_nil]); first | done | rfl | (simp only [List.length_drop, List.length_take]; rfl)) ?_; (with_reducible refine (find_suffixes.calls a0 t116 _ A2.out).mono ?_); rintro e w5 ⟨v117, rfl, ho0, hb⟩; refine ⟨_, rfl, ?_⟩; have n0_ := Aside0.mk (Kd.R_lower ho0 (below_size (by repeat (first | (with_reducible first | exact HB.out | apply below_alloc | apply pw_below_drewN | apply below_drew1 | refine below_set ?_ GE115.out) | exact HB.out)))); have n1_ := Aside0.mk (blk_below (g := gb115) (o := .cells #[.string (⟨#[]⟩ : ByteArray), .slice none 0 0, .slice none 0 0] 24 (0, 0)) (by (with_reducible repeat (first | refine blk_drewN ?_ _ | refine blk_drew ?_ | refine blk_alloc ?_ _)); exact BK115.out) hb); have n2_ := Aside0.mk (below_step (by repeat (first | (with_reducible first | exact HB.out | apply below_alloc | apply pw_below_drewN | apply below_drew1 | refine below_set ?_ GE115.out) | exact HB.out)) hb); clear BK115; clear HB; have HO118 := n0_; have BK115 := n1_; have HB := n2_; clear n0_ n1_ n2_; (try clear hb); (try clear hb2); (try clear hk); (try clear hi); (try clear ho0); obtain ⟨Ao6, co6, eo6⟩ := Kd.R_slice HO118.out; subst eo6) | ((with_reducible refine gate_callee (f := 55) rfl ?_); refine goesL_ (some 10) rfl rfl Try.func55 (by kernel_rfl) rfl #[.string a0, .slice Ao6 t116.length co6] rfl (by (try simp only [List.map_toArray, List.map_cons, List.map_nil]); first | done | rfl | (simp only [List.length_drop, List.length_take]; rfl)) ?_; (with_reducible refine (find_overlaps.calls k a0 _ _ t116 t119 _ ?side1 ?side2 A3.out).mono ?_); (case side1 => repeat (first | exact (Kd.R_reads' HO118.out).2.2 | (with_reducible refine Kd.C_alloc ?_ _) | (with_reducible refine Kd.C_drewN ?_ _) | (with_reducible refine Kd.C_drew ?_))); (case side2 => exact (Kd.R_reads' HO118.out).2.1); rintro e w7 ⟨v120, rfl, ho0, hb⟩; refine ⟨_, rfl, ?_⟩; have n0_ := Aside0.mk (Kd.R_elder' (by (with_reducible repeat (first | apply Kd.R_alloc | apply Kd.R_drewN | apply Kd.R_drew)); exact HO118.out) (Kd.R_base ho0) hb); have n1_ := Aside0.mk (Kd.R_lower (Kd.R_new' ho0 (Kd.R_lt (by (with_reducible repeat (first | apply Kd.R_alloc | apply Kd.R_drewN | apply Kd.R_drew)); exact HO118.out))) (below_size (by repeat (first | (with_reducible first | exact HB.out | apply below_alloc | apply pw_below_drewN | apply below_drew1 | refine below_set ?_ GE115.out) | exact HB.out)))); have n2_ := Aside0.mk (blk_below (g := gb115) (o := .cells #[.string (⟨#[]⟩ : ByteArray), .slice none 0 0, .slice none 0 0] 24 (0, 0)) (by (with_reducible repeat (first | refine blk_drewN ?_ _ | refine blk_drew ?_ | refine blk_alloc ?_ _)); exact BK115.out) hb); have n3_ := Aside0.mk (below_step (by repeat (first | (with_reducible first | exact HB.out | apply below_alloc | apply pw_below_drewN | apply below_drew1 | refine below_set ?_ GE115.out) | exact HB.out)) hb); clear HO118; clear BK115; clear HB; have HO118 := n0_; have HO121 := n1_; have BK115 := n2_; have HB := n3_; clear n0_ n1_ n2_ n3_; (try clear hb); (try clear hb2); (try clear hk); (try clear hi); (try clear ho0); obtain ⟨Ao8, co8, eo8⟩ := Kd.R_slice HO121.out; subst eo8; have hcz9_0 : w7.cell? ⟨gb115, 0, none⟩ = some (.string (⟨#[]⟩ : ByteArray)) := (blk_cell BK115.out 0).trans rfl; have hcz9_1 : w7.cell? ⟨gb115, 1, none⟩ = some (.slice none 0 0) := (blk_cell BK115.out 1).trans rfl; have hcz9_2 : w7.cell? ⟨gb115, 2, none⟩ = some (.slice none 0 0) := (blk_cell BK115.out 2).trans rfl; have hfz9_0 := blk_frozen BK115.out 0; have hfz9_1 := blk_frozen BK115.out 1; have hfz9_2 := blk_frozen BK115.out 2))
 refine bodyPost_ret (results_cell_row rfl _ _ gb115 24 #[.string a0, .slice Ao6 t116.length co6, .slice Ao8 t119.length co8] (0, 0) _ rfl (by (with_reducible repeat (first | refine blk_drewN ?_ _ | refine blk_drew ?_ | refine blk_alloc ?_ _)); refine blk_put (cs := #[.string a0, .slice Ao6 t116.length co6, .slice none 0 0]) ?_ 2 _ rfl; (with_reducible repeat (first | refine blk_drewN ?_ _ | refine blk_drew ?_ | refine blk_alloc ?_ _)); refine blk_put (cs := #[.string a0, .slice none 0 0, .slice none 0 0]) ?_ 1 _ rfl; (with_reducible repeat (first | refine blk_drewN ?_ _ | refine blk_drew ?_ | refine blk_alloc ?_ _)); refine blk_put (cs := #[.string (⟨#[]⟩ : ByteArray), .slice none 0 0, .slice none 0 0]) ?_ 0 _ rfl; (with_reducible repeat (first | refine blk_drewN ?_ _ | refine blk_drew ?_ | refine blk_alloc ?_ _)); exact BK115.out) Try.underlying24 rfl (by kernel_rfl)) rfl ?_
 exact ⟨_, _, by first | rfl | (simp [errW_none, errW_some] <;> rfl) | (simp [*, errW_none, errW_some] <;> rfl), by (with_reducible repeat (first | apply Kd.R_alloc | apply Kd.R_drewN | apply Kd.R_drew)); exact Kd.R_mono (Kd.R_far (p := ⟨gb115, 2, none⟩) (Kd.R_far (p := ⟨gb115, 1, none⟩) (Kd.R_far (p := ⟨gb115, 0, none⟩) (Kd.R_types HO118.out BK115.out (by decide)) (fun _ hk => hk.2) (.string a0)) (fun _ hk => hk.2) (.slice Ao6 t116.length co6)) (fun _ hk => hk.2) (.slice Ao8 t119.length co8)) (fun _ hk => hk.1.2), by (with_reducible repeat (first | apply Kd.R_alloc | apply Kd.R_drewN | apply Kd.R_drew)); exact Kd.R_mono (Kd.R_far (p := ⟨gb115, 2, none⟩) (Kd.R_far (p := ⟨gb115, 1, none⟩) (Kd.R_far (p := ⟨gb115, 0, none⟩) (Kd.R_types HO121.out BK115.out (by decide)) (fun _ hk => hk.2) (.string a0)) (fun _ hk => hk.2) (.slice Ao6 t116.length co6)) (fun _ hk => hk.2) (.slice Ao8 t119.length co8)) (fun _ hk => hk.1.2), by repeat (first | (with_reducible first | exact HB.out | apply below_alloc | apply pw_below_drewN | apply below_drew1 | refine below_set ?_ GE115.out) | exact HB.out)⟩


/-! ### find_New: function 16 -/
def find_New.f (k : Nat) (a0 : ByteArray) : Option (ByteArray × List Int × List Int × Int) := if (a0.size : Int) > 4096 then (some ((⟨#[]⟩ : ByteArray), ([] : List Int), ([] : List Int), 2)) else ((find_newIndex.f k a0).bind fun bt123 => (some (bt123.1, bt123.2.1, bt123.2.2, 0)))
theorem find_New.mono : ∀ a0 k, LeO (find_New.f k a0) (find_New.f (k + 1) a0) := by
 intro a0 k
 unfold find_New.f
 repeat' first
   | (with_reducible exact find_newIndex.mono _ _)
   | (with_reducible exact LeO.refl _)
   | (with_reducible exact LeO.none _)
   | (with_reducible refine LeO.ite ?_ ?_)
   | (with_reducible refine LeO.bind ?_ (fun _ => ?_))
   | exact find_newIndex.mono _ _
   | exact LeO.none _
   | refine LeO.ite ?_ ?_
   | refine LeO.bind ?_ (fun _ => ?_)
set_option maxHeartbeats 8000000 in
set_option maxRecDepth 100000 in
theorem find_New.calls (k : Nat) (a0 : ByteArray) (r1 : ByteArray) (r2 : List Int) (r3 : List Int) (r4 : Int) (w : World) (h : find_New.f k a0 = some (r1, r2, r3, r4)) :
  Calls Try.prog 16 #[.string a0] w fun e w' => ∃ v1_ v2_ : Value, e = .returned (.tuple #[.agg #[.string r1, v1_, v2_], .int .i64 r4]) ∧ Kd.R (Kd.int .i64) 3 w' w.heap.size (fun k_ => some k_ ≠ (v2_ : Value).ownBlock) v1_ r2 ∧ Kd.R (Kd.int .i64) 3 w' w.heap.size (fun k_ => some k_ ≠ (v1_ : Value).ownBlock) v2_ r3 ∧ Below w.heap.size w w' := by
 have hu24 := Try.underlying24
 have HB := Aside0.mk (Below.refl w.heap.size w)
 have H : (if (a0.size : Int) > 4096 then (some ((⟨#[]⟩ : ByteArray), ([] : List Int), ([] : List Int), 2)) else ((find_newIndex.f k a0).bind fun bt123 => (some (bt123.1, bt123.2.1, bt123.2.2, 0)))) = some (r1, r2, r3, r4) := h
 clear h
 by_cases c2 : (a0.size : Int) > 4096
 ·rw [if_pos c2] at H
  have c2b0 : decide (4096 < (a0.size : Int)) = true := decide_eq_true c2
  have c2b1 : decide (4096 < a0.size) = true := decide_eq_true (by omega)
  clear c2
  simp only [Option.some.injEq, Prod.mk.injEq] at H
  obtain ⟨rfl, rfl, rfl, rfl⟩ := H
  go_enter Try.func16, Try.ntmps16
  go_wp2_with (first | ((with_reducible refine gate_dst (N := 2) rfl ?_); refine box_event ?hg (N := 2) ?hd (cs := #[.string (⟨#[]⟩ : ByteArray), .slice none 0 0, .slice none 0 0]) (t := 24) ?hr ?_; (case hd => rfl); (case hg => rfl); (case hr => first | (go_simp; done) | (go_simp; rfl)); intro gb122 hg w3 hbox hb; have n0_ := Aside0.mk (below_step (by repeat (first | (with_reducible first | exact HB.out | apply below_alloc | apply pw_below_drewN | apply below_drew1) | exact HB.out)) hb); have n1_ := Aside0.mk (hbox); have n2_ := Aside0.mk ((by rw [hg]; exact (below_size (by repeat (first | (with_reducible first | exact HB.out | apply below_alloc | apply pw_below_drewN | apply below_drew1) | exact HB.out))) : w.heap.size ≤ gb122)); have n3_ := Aside0.mk ((by rw [hg]; exact (below_size (by repeat (first | (with_reducible first | exact HB.out | apply below_alloc | apply pw_below_drewN | apply below_drew1) | exact HB.out))) : w.heap.size ≤ gb122)); clear HB; have HB := n0_; have BK122 := n1_; have GW122 := n2_; have GE122 := n3_; clear n0_ n1_ n2_ n3_; clear hb hbox hg; have hcz4_0 : w3.cell? ⟨gb122, 0, none⟩ = some (.string (⟨#[]⟩ : ByteArray)) := (blk_cell BK122.out 0).trans rfl; have hcz4_1 : w3.cell? ⟨gb122, 1, none⟩ = some (.slice none 0 0) := (blk_cell BK122.out 1).trans rfl; have hcz4_2 : w3.cell? ⟨gb122, 2, none⟩ = some (.slice none 0 0) := (blk_cell BK122.out 2).trans rfl; have hfz4_0 := blk_frozen BK122.out 0; have hfz4_1 := blk_frozen BK122.out 1; have hfz4_2 := blk_frozen BK122.out 2))
  refine bodyPost_ret (results_ct rfl _ _ gb122 24 #[.string (⟨#[]⟩ : ByteArray), .slice none 0 0, .slice none 0 0] (0, 0) _ rfl (by (with_reducible repeat (first | refine blk_drewN ?_ _ | refine blk_drew ?_ | refine blk_alloc ?_ _)); refine blk_put (cs := #[.string (⟨#[]⟩ : ByteArray), .slice none 0 0, .slice none 0 0]) ?_ 2 _ rfl; (with_reducible repeat (first | refine blk_drewN ?_ _ | refine blk_drew ?_ | refine blk_alloc ?_ _)); refine blk_put (cs := #[.string (⟨#[]⟩ : ByteArray), .slice none 0 0, .slice none 0 0]) ?_ 1 _ rfl; (with_reducible repeat (first | refine blk_drewN ?_ _ | refine blk_drew ?_ | refine blk_alloc ?_ _)); refine blk_put (cs := #[.string (⟨#[]⟩ : ByteArray), .slice none 0 0, .slice none 0 0]) ?_ 0 _ rfl; (with_reducible repeat (first | refine blk_drewN ?_ _ | refine blk_drew ?_ | refine blk_alloc ?_ _)); exact BK122.out) Try.underlying24 rfl (by kernel_rfl)) rfl ?_
  exact ⟨_, _, by first | rfl | (simp [errW_none, errW_some] <;> rfl) | (simp [*, errW_none, errW_some] <;> rfl), by first | exact Kd.R_nil _ _ _ _ _ | exact Kd.N_nil _ _ _ _ _ | exact Kd.V_nil _ _ _ _ _ | exact Kd.Q_nil _ _ _ _ _ | exact Kd.S_nil _ _ _ _ _, by first | exact Kd.R_nil _ _ _ _ _ | exact Kd.N_nil _ _ _ _ _ | exact Kd.V_nil _ _ _ _ _ | exact Kd.Q_nil _ _ _ _ _ | exact Kd.S_nil _ _ _ _ _, by repeat (first | (with_reducible first | exact HB.out | apply below_alloc | apply pw_below_drewN | apply below_drew1 | refine below_set ?_ GE122.out) | exact HB.out)⟩
 ·rw [if_neg c2] at H
  have c2b0 : decide (4096 < (a0.size : Int)) = false := decide_eq_false c2
  have c2b1 : decide (4096 < a0.size) = false := decide_eq_false (by omega)
  clear c2
  replace H := Option.bind_eq_some_iff.mp H
  obtain ⟨⟨t123, t124, t127⟩, A50, H⟩ := H
  replace H : (some (t123, t124, t127, 0)) = some (r1, r2, r3, r4) := H
  have A5 := Aside0.mk A50
  clear A50
  simp only [Option.some.injEq, Prod.mk.injEq] at H
  obtain ⟨rfl, rfl, rfl, rfl⟩ := H
  go_enter Try.func16, Try.ntmps16
  go_wp2_with (first | ((with_reducible refine gate_dst (N := 2) rfl ?_); refine box_event ?hg (N := 2) ?hd (cs := #[.string (⟨#[]⟩ : ByteArray), .slice none 0 0, .slice none 0 0]) (t := 24) ?hr ?_; (case hd => rfl); (case hg => rfl); (case hr => first | (go_simp; done) | (go_simp; rfl)); intro gb122 hg w6 hbox hb; have n0_ := Aside0.mk (below_step (by repeat (first | (with_reducible first | exact HB.out | apply below_alloc | apply pw_below_drewN | apply below_drew1) | exact HB.out)) hb); have n1_ := Aside0.mk (hbox); have n2_ := Aside0.mk ((by rw [hg]; exact (below_size (by repeat (first | (with_reducible first | exact HB.out | apply below_alloc | apply pw_below_drewN | apply below_drew1) | exact HB.out))) : w.heap.size ≤ gb122)); have n3_ := Aside0.mk ((by rw [hg]; exact (below_size (by repeat (first | (with_reducible first | exact HB.out | apply below_alloc | apply pw_below_drewN | apply below_drew1) | exact HB.out))) : w.heap.size ≤ gb122)); clear HB; have HB := n0_; have BK122 := n1_; have GW122 := n2_; have GE122 := n3_; clear n0_ n1_ n2_ n3_; clear hb hbox hg) | ((with_reducible refine gate_callee (f := 41) rfl ?_); refine goesL_ (some 9) rfl rfl Try.func41 (by kernel_rfl) rfl #[.string a0] rfl (by (try simp only [List.map_toArray, List.map_cons, List.map_nil]); first | done | rfl | (simp only [List.length_drop, List.length_take]; rfl)) ?_; (with_reducible refine (find_newIndex.calls k a0 t123 t124 t127 _ A5.out).mono ?_); rintro e w7 ⟨v125, v128, rfl, ho0, ho1, hb⟩; refine ⟨_, rfl, ?_⟩; have n0_ := Aside0.mk (Kd.R_lower ho0 (below_size (by repeat (first | (with_reducible first | exact HB.out | apply below_alloc | apply pw_below_drewN | apply below_drew1 | refine below_set ?_ GE122.out) | exact HB.out)))); have n1_ := Aside0.mk (Kd.R_lower ho1 (below_size (by repeat (first | (with_reducible first | exact HB.out | apply below_alloc | apply pw_below_drewN | apply below_drew1 | refine below_set ?_ GE122.out) | exact HB.out)))); have n2_ := Aside0.mk (blk_below (g := gb122) (o := .cells #[.string (⟨#[]⟩ : ByteArray), .slice none 0 0, .slice none 0 0] 24 (0, 0)) (by (with_reducible repeat (first | refine blk_drewN ?_ _ | refine blk_drew ?_ | refine blk_alloc ?_ _)); exact BK122.out) hb); have n3_ := Aside0.mk (below_step (by repeat (first | (with_reducible first | exact HB.out | apply below_alloc | apply pw_below_drewN | apply below_drew1 | refine below_set ?_ GE122.out) | exact HB.out)) hb); clear BK122; clear HB; have HO126 := n0_; have HO129 := n1_; have BK122 := n2_; have HB := n3_; clear n0_ n1_ n2_ n3_; (try clear hb); (try clear hb2); (try clear hk); (try clear hi); (try clear ho0); (try clear ho1); have hcz8_0 : w7.cell? ⟨gb122, 0, none⟩ = some (.string (⟨#[]⟩ : ByteArray)) := (blk_cell BK122.out 0).trans rfl; have hcz8_1 : w7.cell? ⟨gb122, 1, none⟩ = some (.slice none 0 0) := (blk_cell BK122.out 1).trans rfl; have hcz8_2 : w7.cell? ⟨gb122, 2, none⟩ = some (.slice none 0 0) := (blk_cell BK122.out 2).trans rfl; have hfz8_0 := blk_frozen BK122.out 0; have hfz8_1 := blk_frozen BK122.out 1; have hfz8_2 := blk_frozen BK122.out 2; obtain ⟨Ao9, co9, eo9⟩ := Kd.R_slice HO126.out; subst eo9; obtain ⟨Ao10, co10, eo10⟩ := Kd.R_slice HO129.out; subst eo10))
  refine bodyPost_ret (results_ct rfl _ _ gb122 24 #[.string t123, .slice Ao9 t124.length co9, .slice Ao10 t127.length co10] (0, 0) _ rfl (by (with_reducible repeat (first | refine blk_drewN ?_ _ | refine blk_drew ?_ | refine blk_alloc ?_ _)); refine blk_put (cs := #[.string t123, .slice Ao9 t124.length co9, .slice none 0 0]) ?_ 2 _ rfl; (with_reducible repeat (first | refine blk_drewN ?_ _ | refine blk_drew ?_ | refine blk_alloc ?_ _)); refine blk_put (cs := #[.string t123, .slice none 0 0, .slice none 0 0]) ?_ 1 _ rfl; (with_reducible repeat (first | refine blk_drewN ?_ _ | refine blk_drew ?_ | refine blk_alloc ?_ _)); refine blk_put (cs := #[.string (⟨#[]⟩ : ByteArray), .slice none 0 0, .slice none 0 0]) ?_ 0 _ rfl; (with_reducible repeat (first | refine blk_drewN ?_ _ | refine blk_drew ?_ | refine blk_alloc ?_ _)); exact BK122.out) Try.underlying24 rfl (by kernel_rfl)) rfl ?_
  exact ⟨_, _, by first | rfl | (simp [errW_none, errW_some] <;> rfl) | (simp [*, errW_none, errW_some] <;> rfl), by (with_reducible repeat (first | apply Kd.R_alloc | apply Kd.R_drewN | apply Kd.R_drew)); exact Kd.R_mono (Kd.R_far (p := ⟨gb122, 2, none⟩) (Kd.R_far (p := ⟨gb122, 1, none⟩) (Kd.R_far (p := ⟨gb122, 0, none⟩) (Kd.R_types HO126.out BK122.out (by decide)) (fun _ hk => hk.2) (.string t123)) (fun _ hk => hk.2) (.slice Ao9 t124.length co9)) (fun _ hk => hk.2) (.slice Ao10 t127.length co10)) (fun _ hk => hk.1), by (with_reducible repeat (first | apply Kd.R_alloc | apply Kd.R_drewN | apply Kd.R_drew)); exact Kd.R_mono (Kd.R_far (p := ⟨gb122, 2, none⟩) (Kd.R_far (p := ⟨gb122, 1, none⟩) (Kd.R_far (p := ⟨gb122, 0, none⟩) (Kd.R_types HO129.out BK122.out (by decide)) (fun _ hk => hk.2) (.string t123)) (fun _ hk => hk.2) (.slice Ao9 t124.length co9)) (fun _ hk => hk.2) (.slice Ao10 t127.length co10)) (fun _ hk => hk.1), by repeat (first | (with_reducible first | exact HB.out | apply below_alloc | apply pw_below_drewN | apply below_drew1 | refine below_set ?_ GE122.out) | exact HB.out)⟩

end Go.Proofs.Ytppelnlocfcgfaa.P
namespace Go.Proofs.Fnd
theorem u8_lt (a b : UInt8) : a < b ↔ a.toNat < b.toNat := UInt8.lt_iff_toNat_lt
theorem ch_cons_zero (a : UInt8) (x : List UInt8) : ch (a :: x) 0 = a.toNat + 1 := by simp [ch]
theorem ch_cons_succ (a : UInt8) (x : List UInt8) (i : Nat) : ch (a :: x) (i + 1) = ch x i := by simp [ch]
theorem ch_nil (i : Nat) : ch [] i = 0 := by simp [ch]
/-- the order of strings, by their first difference -/
theorem lt_iff (x y : List UInt8) : x < y ↔ ∃ m, (∀ t, t < m → ch x t = ch y t) ∧ ch x m < ch y m := by
  induction x generalizing y with
  | nil =>
    cases y with
    | nil => constructor
             · intro h; exact absurd h (List.lt_irrefl _)
             · rintro ⟨m, _, h⟩; simp [ch_nil] at h
    | cons b y => exact ⟨fun _ => ⟨0, fun t h => by omega, by rw [ch_nil, ch_cons_zero]; omega⟩, fun _ => List.nil_lt_cons b y⟩
  | cons a x ih =>
    cases y with
    | nil => constructor
             · intro h; exact absurd h (List.not_lt_nil _)
             · rintro ⟨m, _, h⟩; rw [ch_nil] at h; omega
    | cons b y =>
      rw [List.cons_lt_cons_iff]
      constructor
      · rintro (h | ⟨rfl, h⟩)
        · rw [u8_lt] at h
          exact ⟨0, fun t h => by omega, by rw [ch_cons_zero, ch_cons_zero]; omega⟩
        · obtain ⟨m, h1, h2⟩ := (ih y).1 h
          refine ⟨m + 1, fun t ht => ?_, by rw [ch_cons_succ, ch_cons_succ]; exact h2⟩
          cases t with
          | zero => rw [ch_cons_zero, ch_cons_zero]
          | succ t => rw [ch_cons_succ, ch_cons_succ]; exact h1 t (by omega)
      · rintro ⟨m, h1, h2⟩
        cases m with
        | zero =>
          rw [ch_cons_zero, ch_cons_zero] at h2
          exact .inl (by rw [u8_lt]; omega)
        | succ m =>
          have h0 := h1 0 (by omega)
          rw [ch_cons_zero, ch_cons_zero] at h0
          refine .inr ⟨UInt8.toNat_inj.1 (by omega), (ih y).2 ⟨m, fun t ht => ?_, ?_⟩⟩
          · have := h1 (t + 1) (by omega)
            rwa [ch_cons_succ, ch_cons_succ] at this
          · rwa [ch_cons_succ, ch_cons_succ] at h2
theorem ch_drop (s : List UInt8) (i t : Nat) : ch (s.drop i) t = sq s i t := by
  unfold sq ch
  rw [List.getElem?_drop]
theorem ch_take (s : List UInt8) (n t : Nat) : ch (s.take n) t = if t < n then ch s t else 0 := by
  unfold ch
  rw [List.getElem?_take]
  by_cases h : t < n
  · rw [if_pos h, if_pos h]
  · rw [if_neg h, if_neg h]
theorem eq_iff_ch (x y : List UInt8) : x = y ↔ ∀ t, ch x t = ch y t := by
  constructor
  · rintro rfl _; rfl
  · intro h
    apply List.ext_getElem?
    intro t
    have := h t
    unfold ch at this
    cases hx : x[t]? with
    | none => cases hy : y[t]? with
              | none => rfl
              | some b => rw [hx, hy] at this; simp at this
    | some a => cases hy : y[t]? with
                | none => rw [hx, hy] at this; simp at this
                | some b => rw [hx, hy] at this; simp at this; rw [UInt8.toNat_inj.1 this]
/-- what two strings begin with is ordered as they are -/
theorem take_le {x y : List UInt8} (n : Nat) (h : ¬ y < x) : ¬ y.take n < x.take n := by
  intro q
  apply h
  rw [lt_iff] at q ⊢
  obtain ⟨m, h1, h2⟩ := q
  by_cases hm : m < n
  · rw [ch_take, ch_take, if_pos hm, if_pos hm] at h2
    refine ⟨m, fun t ht => ?_, h2⟩
    have := h1 t ht
    rwa [ch_take, ch_take, if_pos (by omega), if_pos (by omega)] at this
  · rw [ch_take, ch_take, if_neg hm, if_neg hm] at h2
    omega
theorem suf_lt (s : List UInt8) (i j : Nat) : s.drop i < s.drop j ↔ ∃ w, LtW w (sq s i) (sq s j) := by
  rw [lt_iff]
  constructor
  · rintro ⟨m, h1, h2⟩
    exact ⟨m + 1, m, by omega, fun t ht => by rw [← ch_drop, ← ch_drop]; exact h1 t ht, by rw [← ch_drop, ← ch_drop]; exact h2⟩
  · rintro ⟨w, m, _, h1, h2⟩
    exact ⟨m, fun t ht => by rw [ch_drop, ch_drop]; exact h1 t ht, by rw [ch_drop, ch_drop]; exact h2⟩
/-- the suffixes ascend in the order -/
theorem sufOrd_up (s : List UInt8) : (sufOrd s).Pairwise (fun i j => s.drop i < s.drop j) :=
  (sufOrd_isOrd s).up.imp fun h => (suf_lt s _ _).2 ⟨_, h⟩
/-- the first bytes of the suffix at place k of the order -/
def beginning (s : List UInt8) (n i : Nat) : List UInt8 := (s.drop i).take n
def below (s p : List UInt8) : Nat := (List.range s.length).countP fun i => decide (beginning s p.length i < p)
def upto (s p : List UInt8) : Nat := (List.range s.length).countP fun i => !decide (p < beginning s p.length i)
/-- a count over an order, place by place -/
theorem countP_places (l : List Nat) (q : Nat → Bool) : (List.range l.length).countP (fun k => q (l.getD k 0)) = l.countP q := by
  have : (List.range l.length).map (fun k => l.getD k 0) = l := by
    apply List.ext_getElem (by simp)
    intro i h1 h2
    simp at h1
    simp [h1]
  conv => rhs; rw [← this, List.countP_map]
  rfl
theorem count_order (s : List UInt8) (q : Nat → Bool) : (List.range s.length).countP (fun k => q ((sufOrd s).getD k 0)) = (List.range s.length).countP q := by
  have h := countP_places (sufOrd s) q
  rw [sufOrd_length] at h
  rw [h, (sufOrd_isOrd s).perm.countP_eq]
theorem order_le (s : List UInt8) {a b : Nat} (h : a ≤ b) (hb : b < s.length) : ¬ s.drop ((sufOrd s).getD b 0) < s.drop ((sufOrd s).getD a 0) := by
  by_cases e : a = b
  · subst e; exact List.lt_irrefl _
  · have hl := sufOrd_length s
    have := List.pairwise_iff_getElem.1 (sufOrd_up s) a b (by omega) (by omega) (by omega)
    rw [List.getD_eq_getElem?_getD, List.getElem?_eq_getElem (by omega), List.getD_eq_getElem?_getD, List.getElem?_eq_getElem (by omega)]
    exact fun q => List.lt_asymm q this
/-- the first place from m on at which two sequences differ -/
def diffAt (f g : Nat → Nat) : Nat → Nat → Nat
  | 0, m => m
  | k + 1, m => if f m = g m then diffAt f g k (m + 1) else m
/-- how many bytes two suffixes begin with in common -/
def lcp (s : List UInt8) (a b : Nat) : Nat := diffAt (sq s a) (sq s b) (s.length + 1) 0
structure IsLcp (s : List UInt8) (a b m : Nat) : Prop where
  same : ∀ t, t < m → sq s a t = sq s b t
  diff : sq s a m ≠ sq s b m
theorem diffAt_spec (f g : Nat → Nat) : ∀ (k m : Nat), (∀ t, t < m → f t = g t) → (∃ t, t < m + k ∧ f t ≠ g t) → (∀ t, t < diffAt f g k m → f t = g t) ∧ f (diffAt f g k m) ≠ g (diffAt f g k m)
  | 0, m, h1, ⟨t, ht, h2⟩ => absurd (h1 t (by omega)) h2
  | k + 1, m, h1, ⟨t, ht, h2⟩ => by
    unfold diffAt
    by_cases e : f m = g m
    · rw [if_pos e]
      refine diffAt_spec f g k (m + 1) (fun q hq => ?_) ⟨t, by omega, h2⟩
      by_cases e2 : q = m
      · subst e2; exact e
      · exact h1 q (by omega)
    · rw [if_neg e]
      exact ⟨h1, e⟩
theorem lcp_is (s : List UInt8) (a b : Nat) (ha : a ≤ s.length) (hb : b ≤ s.length) (h : a ≠ b) : IsLcp s a b (lcp s a b) := by
  have hd : ∃ t, t < 0 + (s.length + 1) ∧ sq s a t ≠ sq s b t := by
    apply Decidable.byContradiction
    intro q
    apply h
    refine sq_inj s s.length a b (Nat.le_refl _) ha hb fun t ht => ?_
    apply Decidable.byContradiction
    intro q2
    exact q ⟨t, by omega, q2⟩
  have := diffAt_spec (sq s a) (sq s b) (s.length + 1) 0 (fun t ht => by omega) hd
  exact ⟨this.1, this.2⟩
theorem IsLcp.unique {s : List UInt8} {a b m m' : Nat} (h : IsLcp s a b m) (h' : IsLcp s a b m') : m = m' := by
  rcases Nat.lt_trichotomy m m' with q | q | q
  · exact absurd (h'.same m q) h.diff
  · exact q
  · exact absurd (h.same m' q) h'.diff
theorem IsLcp.symm {s : List UInt8} {a b m : Nat} (h : IsLcp s a b m) : IsLcp s b a m := ⟨fun t ht => (h.same t ht).symm, fun e => h.diff e.symm⟩
theorem lcp_symm (s : List UInt8) (a b : Nat) (ha : a ≤ s.length) (hb : b ≤ s.length) (h : a ≠ b) : lcp s a b = lcp s b a :=
  (lcp_is s a b ha hb h).unique (lcp_is s b a hb ha (fun e => h e.symm)).symm
theorem lcp_self (s : List UInt8) (a : Nat) : lcp s a a = s.length + 1 := by
  unfold lcp
  have : ∀ k m, diffAt (sq s a) (sq s a) k m = m + k := by
    intro k
    induction k with
    | zero => intro m; rfl
    | succ k ih => intro m; unfold diffAt; rw [if_pos rfl, ih]; omega
  rw [this]; omega
/-- within what is common, neither suffix has ended -/
theorem IsLcp.inside {s : List UInt8} {a b m : Nat} (h : IsLcp s a b m) (ha : a ≤ s.length) (hb : b ≤ s.length) (hne : a ≠ b) : a + m ≤ s.length ∧ b + m ≤ s.length := by
  have key : ∀ a b, a ≤ s.length → b ≤ s.length → a ≠ b → IsLcp s a b m → a + m ≤ s.length := by
    intro a b ha hb hne h
    apply Decidable.byContradiction
    intro q
    have h1 := h.same (s.length - a) (by omega)
    unfold sq at h1
    rw [show a + (s.length - a) = s.length by omega, ch_ge s _ (Nat.le_refl _)] at h1
    have h2 := (ch_zero s _).1 h1.symm
    -- b ends there, too, or before
    by_cases hab : a = b
    · exact hne hab
    · by_cases hlt : b < a
      · omega
      · have h3 := h.same (s.length - b) (by omega)
        unfold sq at h3
        rw [show b + (s.length - b) = s.length by omega, ch_ge s _ (Nat.le_refl _), ch_zero] at h3
        omega
  exact ⟨key a b ha hb hne h, key b a hb ha (fun e => hne e.symm) h.symm⟩
/-- suffixes between two others have as much in common with the upper one -/
theorem lcp_between {s : List UInt8} {x y z l m : Nat} (hy : ¬ LtW (s.length + 1) (sq s y) (sq s x)) (hz : LtW (s.length + 1) (sq s y) (sq s z)) (h : IsLcp s x z l) (h' : IsLcp s y z m) : l ≤ m := by
  apply Decidable.byContradiction
  intro q
  -- at place m, y and z differ, x and z are one
  have e1 := h.same m (by omega)
  have e2 := h'.diff
  obtain ⟨k, hk, hk1, hk2⟩ := hz
  have hkm : k = m := by
    rcases Nat.lt_trichotomy k m with c | c | c
    · have := h'.same k c; omega
    · exact c
    · exact absurd (hk1 m c) e2
  subst hkm
  apply hy
  refine ⟨k, hk, fun t ht => ?_, by omega⟩
  rw [h'.same t ht, h.same t (by omega)]
/-- what follows two suffixes with a common beginning -/
theorem IsLcp.tail {s : List UInt8} {a b m : Nat} (h : IsLcp s a b (m + 1)) : IsLcp s (a + 1) (b + 1) m := by
  have e : ∀ a t, sq s (a + 1) t = sq s a (t + 1) := fun a t => by unfold sq; congr 1; omega
  exact ⟨fun t ht => by rw [e, e]; exact h.same (t + 1) (by omega), by rw [e, e]; exact h.diff⟩
theorem ltW_tail {s : List UInt8} {a b m : Nat} (h : IsLcp s a b (m + 1)) (hb : b < s.length) (ha : a < s.length) (hlt : LtW (s.length + 1) (sq s a) (sq s b)) : LtW (s.length + 1) (sq s (a + 1)) (sq s (b + 1)) := by
  have e : ∀ a t, sq s (a + 1) t = sq s a (t + 1) := fun a t => by unfold sq; congr 1; omega
  obtain ⟨k, hk, hk1, hk2⟩ := hlt
  have hk0 : k ≠ 0 := fun e0 => by
    subst e0
    have := h.same 0 (by omega); omega
  obtain ⟨k', rfl⟩ : ∃ k', k = k' + 1 := ⟨k - 1, by omega⟩
  exact ⟨k', by omega, fun t ht => by rw [e, e]; exact hk1 (t + 1) (by omega), by rw [e, e]; exact hk2⟩
/-- the overlaps of a text -/
def overL (s : List UInt8) : List Nat := (List.range s.length).map fun k => if k = 0 then 0 else lcp s ((sufOrd s).getD (k - 1) 0) ((sufOrd s).getD k 0)
/-- where a place stands in the order -/
def rank (s : List UInt8) (i : Nat) : Nat := (sufOrd s).idxOf i
theorem rank_lt (s : List UInt8) (i : Nat) (h : i < s.length) : rank s i < s.length := by
  unfold rank
  have : i ∈ sufOrd s := (sufOrd_isOrd s).perm.mem_iff.2 (List.mem_range.2 h)
  have := List.idxOf_lt_length_iff.2 this
  rwa [sufOrd_length] at this
theorem ord_rank (s : List UInt8) (i : Nat) (h : i < s.length) : (sufOrd s).getD (rank s i) 0 = i := by
  have h1 := rank_lt s i h
  rw [List.getD_eq_getElem?_getD, List.getElem?_eq_getElem (by rw [sufOrd_length]; exact h1), Option.getD_some]
  unfold rank
  exact List.getElem_idxOf _
theorem ord_lt (s : List UInt8) (k : Nat) (h : k < s.length) : (sufOrd s).getD k 0 < s.length := by
  rw [List.getD_eq_getElem?_getD, List.getElem?_eq_getElem (by rw [sufOrd_length]; exact h), Option.getD_some]
  exact sufOrd_lt s _ (List.getElem_mem _)
theorem ord_up (s : List UInt8) {a b : Nat} (h : a < b) (hb : b < s.length) : LtW (s.length + 1) (sq s ((sufOrd s).getD a 0)) (sq s ((sufOrd s).getD b 0)) := by
  have hl := sufOrd_length s
  have := List.pairwise_iff_getElem.1 (sufOrd_isOrd s).up a b (by omega) (by omega) h
  rw [List.getD_eq_getElem?_getD, List.getElem?_eq_getElem (by omega), List.getD_eq_getElem?_getD, List.getElem?_eq_getElem (by omega)]
  exact this
theorem ord_inj (s : List UInt8) {a b : Nat} (ha : a < s.length) (hb : b < s.length) (h : (sufOrd s).getD a 0 = (sufOrd s).getD b 0) : a = b := by
  rcases Nat.lt_trichotomy a b with c | c | c
  · have := ord_up s c hb; rw [h] at this; exact this.irrefl.elim
  · exact c
  · have := ord_up s c ha; rw [h] at this; exact this.irrefl.elim
theorem rank_ord (s : List UInt8) (k : Nat) (h : k < s.length) : rank s ((sufOrd s).getD k 0) = k :=
  ord_inj s (rank_lt s _ (ord_lt s k h)) h (ord_rank s _ (ord_lt s k h))
theorem rank_up (s : List UInt8) {i j : Nat} (hi : i < s.length) (hj : j < s.length) (h : LtW (s.length + 1) (sq s i) (sq s j)) : rank s i < rank s j := by
  apply Decidable.byContradiction
  intro q
  by_cases e : rank s i = rank s j
  · have := ord_rank s i hi
    rw [e, ord_rank s j hj] at this
    subst this
    exact h.irrefl
  · have := ord_up s (a := rank s j) (b := rank s i) (by omega) (rank_lt s i hi)
    rw [ord_rank s i hi, ord_rank s j hj] at this
    exact h.asymm this
/-- behind a byte, overlaps are less by one at most -/
theorem over_behind (s : List UInt8) {i l : Nat} (hi : i + 1 < s.length) (hr : rank s i ≠ 0) (hl : lcp s ((sufOrd s).getD (rank s i - 1) 0) i = l + 2) :
    rank s (i + 1) ≠ 0 ∧ l + 1 ≤ lcp s ((sufOrd s).getD (rank s (i + 1) - 1) 0) (i + 1) := by
  have hri := rank_lt s i (by omega)
  have hp := ord_lt s (rank s i - 1) (by omega)
  have hup := ord_up s (a := rank s i - 1) (b := rank s i) (by omega) hri
  rw [ord_rank s i (by omega)] at hup
  generalize hpe : (sufOrd s).getD (rank s i - 1) 0 = p at *
  have hpi : p ≠ i := fun e => by subst e; exact hup.irrefl
  have hL := lcp_is s p i (by omega) (by omega) hpi
  rw [hl] at hL
  have hin := hL.inside (by omega) (by omega) hpi
  have hT := hL.tail
  have hlt := ltW_tail hL (by omega) hp hup
  have hrr := rank_up s (i := p + 1) (j := i + 1) (by omega) hi hlt
  refine ⟨by omega, ?_⟩
  have hq := ord_lt s (rank s (i + 1) - 1) (by have := rank_lt s (i + 1) hi; omega)
  have hqup := ord_up s (a := rank s (i + 1) - 1) (b := rank s (i + 1)) (by omega) (rank_lt s _ hi)
  rw [ord_rank s (i + 1) hi] at hqup
  have hqp : ¬ LtW (s.length + 1) (sq s ((sufOrd s).getD (rank s (i + 1) - 1) 0)) (sq s (p + 1)) := by
    intro c
    have := rank_up s hq (by omega) c
    rw [rank_ord s _ (by have := rank_lt s (i + 1) hi; omega)] at this
    omega
  have hqi : (sufOrd s).getD (rank s (i + 1) - 1) 0 ≠ i + 1 := fun e => by rw [e] at hqup; exact hqup.irrefl
  exact lcp_between hqp hqup hT (lcp_is s _ (i + 1) (by omega) (by omega) hqi)
end Go.Proofs.Fnd
namespace Go.Proofs.Ytppelnlocfcgfaa.P
open Go.RowKit Go.Proofs.YtppelnlocfcgfaaW.PrintWords Go.Proofs.YtppelnlocfcgfaaW.PrintLast Go.Proofs.YtppelnlocfcgfaaW.PrintMore
open Go.Proofs.Fnd
theorem w64 {x : Int} (h0 : -9223372036854775808 ≤ x) (h1 : x < 9223372036854775808) : wrap64 x = x := by
  unfold wrap64; omega
theorem bt_ch (t : ByteArray) (i : Nat) (h : i < t.size) : bt t i = (ch t.data.toList i : Int) - 1 := by
  have hl : t.data.toList.length = t.size := data_length t
  rw [ch_lt _ _ (by omega)]
  unfold bt
  rw [Int.toNat_natCast, dif_pos h]
  simp
  rfl
theorem find_common_is (t : ByteArray) (ht : t.size ≤ 4096) (a b m : Nat) (ha : a < t.size) (hb : b < t.size) (hne : a ≠ b) (hm : IsLcp t.data.toList a b m) :
    ∀ (d k l : Nat), l + d = m → d < k → find_common.l0 k t a b l = some (m : Int) := by
  have hl : t.data.toList.length = t.size := data_length t
  have hin := hm.inside (by omega) (by omega) hne
  intro d
  induction d with
  | zero =>
    intro k l hld hk
    obtain ⟨k, rfl⟩ : ∃ q, k = q + 1 := ⟨k - 1, by omega⟩
    obtain rfl : l = m := by omega
    simp only [find_common.l0]
    rw [w64 (by omega) (by omega), w64 (by omega) (by omega)]
    by_cases h1 : (a : Int) + (l : Int) < (t.size : Int)
    · by_cases h2 : (b : Int) + (l : Int) < (t.size : Int)
      · rw [if_pos h1, if_pos h2, if_pos (by omega), if_pos (by omega), if_neg]
        rw [← Int.natCast_add, ← Int.natCast_add, bt_ch t _ (by omega), bt_ch t _ (by omega)]
        have := hm.diff
        unfold sq at this
        omega
      · rw [if_pos h1, if_neg h2]
    · rw [if_neg h1]
  | succ d ih =>
    intro k l hld hk
    obtain ⟨k, rfl⟩ : ∃ q, k = q + 1 := ⟨k - 1, by omega⟩
    have ih := ih k (l + 1) (by omega) (by omega)
    have hs := hm.same l (by omega)
    unfold sq at hs
    simp only [find_common.l0]
    rw [w64 (by omega) (by omega), w64 (by omega) (by omega), w64 (by omega) (by omega)]
    rw [if_pos (by omega), if_pos (by omega), if_pos (by omega), if_pos (by omega), if_pos]
    · exact ih
    · rw [← Int.natCast_add, ← Int.natCast_add, bt_ch t _ (by omega), bt_ch t _ (by omega), hs]

/-- the order as the program's numbers -/
def ordI (t : ByteArray) : List Int := (sufOrd t.data.toList).map Int.ofNat
theorem ordI_length (t : ByteArray) : (ordI t).length = t.size := by
  rw [ordI, List.length_map, sufOrd_length]; exact data_length t
theorem rd_ordI (t : ByteArray) (k : Nat) (h : k < t.size) : rd (ordI t) (k : Int) = (((sufOrd t.data.toList).getD k 0 : Nat) : Int) := by
  have hl : t.data.toList.length = t.size := data_length t
  have hk : k < (sufOrd t.data.toList).length := by rw [sufOrd_length, hl]; exact h
  unfold rd ordI
  rw [Int.toNat_natCast, List.getD_eq_getElem?_getD, List.getElem?_map, List.getD_eq_getElem?_getD, List.getElem?_eq_getElem hk]
  rfl
theorem rd_set_same (l : List Int) (i : Nat) (x : Int) (h : i < l.length) : rd (l.set i x) (i : Int) = x := by
  unfold rd; rw [Int.toNat_natCast, List.getD_eq_getElem?_getD, List.getElem?_set_self h]; rfl
theorem rd_set_ne (l : List Int) (i j : Nat) (x : Int) (h : i ≠ j) : rd (l.set i x) (j : Int) = rd l (j : Int) := by
  unfold rd; rw [Int.toNat_natCast, List.getD_eq_getElem?_getD, List.getElem?_set_ne h, List.getD_eq_getElem?_getD]
/-- the ranks, written down for the first j places of the order -/
def IsRk (t : ByteArray) (j : Nat) (x : List Int) : Prop := x.length = t.size ∧ ∀ q, q < j → rd x (((sufOrd t.data.toList).getD q 0 : Nat) : Int) = (q : Int)
theorem over_l0 (t : ByteArray) (ht : t.size ≤ 4096) (K : Nat) (r : List Int)
    (hr : ∀ x, IsRk t t.size x → find_overlaps.l1 K t (ordI t) x (List.replicate t.size 0) 0 (t.size : Int) 0 = some r) :
    ∀ (d F j : Nat) (x : List Int), F = K + d + 1 → j + d = t.size → IsRk t j x → find_overlaps.l0 F t (ordI t) x (ordI t) (t.size : Int) (j : Int) = some r := by
  have hl : t.data.toList.length = t.size := data_length t
  intro d
  induction d with
  | zero =>
    intro F j x hF hj hx
    obtain ⟨F, rfl⟩ : ∃ q, F = q + 1 := ⟨F - 1, by omega⟩
    obtain rfl : F = K := by omega
    obtain rfl : j = t.size := by omega
    simp only [find_overlaps.l0]
    rw [if_neg (by omega), if_pos (by omega), if_pos (by omega)]
    simp only [Int.toNat_natCast]
    exact hr x hx
  | succ d ih =>
    intro F j x hF hj hx
    obtain ⟨F, rfl⟩ : ∃ q, F = q + 1 := ⟨F - 1, by omega⟩
    have ho := ord_lt t.data.toList j (by omega)
    have hr1 := rd_ordI t j (by omega)
    simp only [find_overlaps.l0]
    rw [hr1, ordI_length, hx.1]
    rw [if_pos (by omega), if_pos (by omega), if_pos (by omega), if_pos (by omega), if_pos (by omega), w64 (by omega) (by omega)]
    rw [Int.toNat_natCast]
    have := ih F (j + 1) (x.set ((sufOrd t.data.toList).getD j 0) (j : Int)) (by omega) (by omega) ⟨by rw [List.length_set]; exact hx.1, fun q hq => by
      by_cases e : q = j
      · subst e
        exact rd_set_same _ _ _ (by rw [hx.1]; omega)
      · rw [rd_set_ne _ _ _ _ (fun e2 => e (ord_inj _ (by omega) (by omega) e2.symm))]
        exact hx.2 q (by omega)⟩
    exact this
theorem rank_of {t : ByteArray} {x : List Int} (h : IsRk t t.size x) (i : Nat) (hi : i < t.size) : rd x (i : Int) = (rank t.data.toList i : Int) := by
  have hl : t.data.toList.length = t.size := data_length t
  have := h.2 (rank t.data.toList i) (by have := rank_lt t.data.toList i (by omega); omega)
  rwa [ord_rank _ _ (by omega)] at this
/-- the overlap at a place's rank -/
def ovAt (t : ByteArray) (i : Nat) : Nat := if rank t.data.toList i = 0 then 0 else lcp t.data.toList ((sufOrd t.data.toList).getD (rank t.data.toList i - 1) 0) i
def IsOv (t : ByteArray) (i : Nat) (x : List Int) : Prop := x.length = t.size ∧ (0 < t.size → rd x ((0 : Nat) : Int) = 0) ∧ ∀ j, j < i → rd x (rank t.data.toList j : Int) = (ovAt t j : Int)
def overI (t : ByteArray) : List Int := (overL t.data.toList).map Int.ofNat
theorem ov_done {t : ByteArray} {x : List Int} (h : IsOv t t.size x) : x = overI t := by
  have hl : t.data.toList.length = t.size := data_length t
  apply List.ext_getElem (by rw [h.1, overI, List.length_map, overL, List.length_map, List.length_range, hl])
  intro k h1 h2
  rw [h.1] at h1
  have h3 := h.2.2 ((sufOrd t.data.toList).getD k 0) (by have := ord_lt t.data.toList k (by omega); omega)
  rw [rank_ord _ _ (by omega)] at h3
  unfold ovAt at h3
  rw [rank_ord _ _ (by omega)] at h3
  unfold rd at h3
  rw [Int.toNat_natCast, List.getD_eq_getElem?_getD, List.getElem?_eq_getElem (by rw [h.1]; exact h1), Option.getD_some] at h3
  rw [h3]
  simp [overI, overL]
theorem over_l1 (t : ByteArray) (ht : t.size ≤ 4096) (rk : List Int) (hrk : IsRk t t.size rk) :
    ∀ (d k i least : Nat) (x : List Int), i + d = t.size → t.size + d < k → IsOv t i x → (i < t.size → rank t.data.toList i ≠ 0 → least ≤ ovAt t i) → least ≤ t.size →
      find_overlaps.l1 k t (ordI t) rk x (least : Int) (t.size : Int) (i : Int) = some (overI t) := by
  have hl : t.data.toList.length = t.size := data_length t
  intro d
  induction d with
  | zero =>
    intro k i least x hi hk hx hle hls
    obtain ⟨k, rfl⟩ : ∃ q, k = q + 1 := ⟨k - 1, by omega⟩
    obtain rfl : i = t.size := by omega
    simp only [find_overlaps.l1]
    rw [if_neg (by omega), ov_done hx]
  | succ d ih =>
    intro k i least x hi hk hx hle hls
    obtain ⟨k, rfl⟩ : ∃ q, k = q + 1 := ⟨k - 1, by omega⟩
    have hri := rank_of hrk i (by omega)
    have hrl := rank_lt t.data.toList i (by omega)
    simp only [find_overlaps.l1]
    rw [hri, hrk.1, ordI_length, hx.1]
    rw [if_pos (by omega), if_pos (by omega), if_pos (by omega)]
    by_cases h0 : rank t.data.toList i = 0
    · rw [if_pos (by omega), w64 (x := (i : Int) + 1) (by omega) (by omega)]
      have := ih k (i + 1) 0 x (by omega) (by omega) ⟨hx.1, hx.2.1, fun j hj => by
        by_cases e : j = i
        · subst e
          rw [h0, hx.2.1 (by omega)]
          unfold ovAt
          rw [if_pos h0]; rfl
        · exact hx.2.2 j (by omega)⟩ (fun _ _ => Nat.zero_le _) (by omega)
      exact this
    · have hp := ord_lt t.data.toList (rank t.data.toList i - 1) (by omega)
      have hov : ovAt t i = lcp t.data.toList ((sufOrd t.data.toList).getD (rank t.data.toList i - 1) 0) i := by unfold ovAt; rw [if_neg h0]
      have hup := ord_up t.data.toList (a := rank t.data.toList i - 1) (b := rank t.data.toList i) (by omega) hrl
      rw [ord_rank _ _ (by omega)] at hup
      have hne : (sufOrd t.data.toList).getD (rank t.data.toList i - 1) 0 ≠ i := fun e => by rw [e] at hup; exact hup.irrefl
      have hL := lcp_is t.data.toList _ i (by omega) (by omega) hne
      have hin := hL.inside (by omega) (by omega) hne
      have hlle := hle (by omega) h0
      rw [hov] at hlle
      have hc := find_common_is t ht i ((sufOrd t.data.toList).getD (rank t.data.toList i - 1) 0) _ (by omega) (by omega) (fun e => hne e.symm) hL.symm (lcp t.data.toList ((sufOrd t.data.toList).getD (rank t.data.toList i - 1) 0) i - least) k least (by omega) (by omega)
      rw [if_neg (by omega), w64 (x := (rank t.data.toList i : Int) - 1) (by omega) (by omega), w64 (x := (i : Int) + 1) (by omega) (by omega), if_pos (by omega), if_pos (by omega)]
      rw [show (rank t.data.toList i : Int) - 1 = ((rank t.data.toList i - 1 : Nat) : Int) by omega, rd_ordI t _ (by omega)]
      rw [show find_common.f k t (i : Int) _ (least : Int) = some _ from hc]
      simp only [Option.bind_some]
      rw [if_pos (by omega), if_pos (by omega), Int.toNat_natCast, w64 (by omega) (by omega)]
      have hmx : mx 0 ((lcp t.data.toList ((sufOrd t.data.toList).getD (rank t.data.toList i - 1) 0) i : Int) - 1) = ((lcp t.data.toList ((sufOrd t.data.toList).getD (rank t.data.toList i - 1) 0) i - 1 : Nat) : Int) := by unfold mx; omega
      rw [hmx]
      have := ih k (i + 1) (lcp t.data.toList ((sufOrd t.data.toList).getD (rank t.data.toList i - 1) 0) i - 1) (x.set (rank t.data.toList i) (lcp t.data.toList ((sufOrd t.data.toList).getD (rank t.data.toList i - 1) 0) i : Int)) (by omega) (by omega) ⟨by rw [List.length_set]; exact hx.1, fun h => by rw [rd_set_ne _ _ _ _ h0]; exact hx.2.1 h, fun j hj => by
        by_cases e : j = i
        · subst e
          rw [rd_set_same _ _ _ (by rw [hx.1]; omega), hov]
        · rw [rd_set_ne _ _ _ _ (fun e2 => ?_)]
          · exact hx.2.2 j (by omega)
          · have := ord_rank t.data.toList i (by omega)
            rw [e2, ord_rank _ _ (by omega)] at this
            exact e this⟩ (fun hi1 hr1 => by
        by_cases hz : lcp t.data.toList ((sufOrd t.data.toList).getD (rank t.data.toList i - 1) 0) i ≤ 1
        · omega
        · obtain ⟨l, hl2⟩ : ∃ l, lcp t.data.toList ((sufOrd t.data.toList).getD (rank t.data.toList i - 1) 0) i = l + 2 := ⟨_ - 2, (Nat.sub_add_cancel (by omega)).symm⟩
          have := (over_behind t.data.toList (by omega) h0 hl2).2
          unfold ovAt
          rw [if_neg hr1, hl2]
          omega) (by omega)
      exact this
/-- the overlaps, as the program computes them -/
theorem find_overlaps_is (t : ByteArray) (ht : t.size ≤ 4096) : ∃ k, find_overlaps.f k t (ordI t) = some (overI t) := by
  refine ⟨(2 * t.size + 1) + t.size + 1, ?_⟩
  unfold find_overlaps.f
  rw [if_pos (by omega), if_pos (by omega), Int.toNat_natCast, ordI_length]
  refine over_l0 t ht (2 * t.size + 1) (overI t) (fun x hx => ?_) t.size _ 0 _ (by omega) (by omega) ⟨List.length_replicate, fun q hq => by omega⟩
  refine over_l1 t ht x hx t.size _ 0 0 _ (by omega) (by omega) ⟨List.length_replicate, fun h => ?_, fun j hj => by omega⟩ (fun _ _ => Nat.zero_le _) (by omega)
  unfold rd
  rw [List.getD_eq_getElem?_getD, List.getElem?_replicate]
  split <;> rfl
theorem find_newIndex_is (t : ByteArray) (ht : t.size ≤ 4096) : ∃ k, find_newIndex.f k t = some (t, ordI t, overI t) := by
  obtain ⟨k, hk⟩ := find_overlaps_is t ht
  refine ⟨k, ?_⟩
  unfold find_newIndex.f find_suffixes.f
  rw [if_pos ht]
  simp only [Option.bind_some]
  rw [show (sufOrd t.data.toList).map Int.ofNat = ordI t from rfl, hk]
  rfl
theorem find_New_is (t : ByteArray) (ht : t.size ≤ 4096) : ∃ k, find_New.f k t = some (t, ordI t, overI t, 0) := by
  obtain ⟨k, hk⟩ := find_newIndex_is t ht
  refine ⟨k, ?_⟩
  unfold find_New.f
  rw [if_neg (by omega), hk]
  rfl
/-- the first bytes of a suffix, as many as a pattern has -/
def beg (t p : ByteArray) (i : Nat) : ByteArray := (t.extract i t.size).extract 0 (min ((t.size - i : Nat) : Int) (p.size : Int)).toNat
/-- the boxes of an index and of a pattern -/
structure SBoxes (W : World) (gx gp gb : Nat) (t p : ByteArray) (l : List Int) (A : Option Addr) (c : Nat) (o : Value) : Prop where
  cx0 : W.cell? ⟨gx, 0, none⟩ = some (.string t)
  cx1 : W.cell? ⟨gx, 1, none⟩ = some (.slice A l.length c)
  cp : W.cell? ⟨gp, 0, none⟩ = some (.string p)
  cb : W.cell? ⟨gb, 0, none⟩ = some (.func (.func 58) #[] #[.pointer (some ⟨gx, 0, none⟩), .pointer (some ⟨gp, 0, none⟩)])
  rd : Kd.C (Kd.int .i64) W A l.length l
set_option maxHeartbeats 1000000 in
set_option maxRecDepth 100000 in
theorem begins_calls (k i gx gp gb : Nat) (t p : ByteArray) (l : List Int) (A : Option Addr) (c : Nat) (o : Value) (W : World) (hB : SBoxes W gx gp gb t p l A c o) (hk : k < l.length) (hi : el l k = (i : Int)) (hit : i ≤ t.size) (ht : t.size ≤ 4096) (hp : p.size ≤ 140737488351232) :
    Calls Try.prog 58 #[.int .i64 k, .pointer (some ⟨gx, 0, none⟩), .pointer (some ⟨gp, 0, none⟩)] W fun e w' => e = .returned (.string (beg t p i)) ∧ ∃ q, w' = W.drewN q := by
  have hcx0 := hB.cx0
  have hcx1 := hB.cx1
  have hcp := hB.cp
  obtain ⟨ad, rfl, hx⟩ := Kd.at_int hB.rd (k : Int) (by omega) (by omega)
  rw [rd_el, hi, Int.toNat_natCast] at hx
  have hkI : ((k : Nat) : Int) < ((l.length : Nat) : Int) := by omega
  have hit' : ((i : Nat) : Int) ≤ ((t.size : Nat) : Int) := by omega
  clear hB hi
  go_enter Try.func58, Try.ntmps58
  go_wp2
  go_quiet (fail)
  go_wp2
  go_ret
  exact ⟨rfl, _, rfl⟩
theorem SBoxes.drewN {W : World} {gx gp gb : Nat} {t p : ByteArray} {l : List Int} {A : Option Addr} {c : Nat} {o : Value} (h : SBoxes W gx gp gb t p l A c o) (k : Nat) : SBoxes (W.drewN k) gx gp gb t p l A c o :=
  ⟨h.cx0, h.cx1, h.cp, h.cb, Kd.C_drewN h.rd k⟩
set_option maxHeartbeats 1000000 in
set_option maxRecDepth 100000 in
theorem atleast_calls (k i gx gp gb : Nat) (t p : ByteArray) (l : List Int) (A : Option Addr) (c : Nat) (o : Value) (W : World) (hB : SBoxes W gx gp gb t p l A c o) (hk : k < l.length) (hi : el l k = (i : Int)) (hit : i ≤ t.size) (ht : t.size ≤ 4096) (hp : p.size ≤ 140737488351232) :
    Calls Try.prog 60 #[.int .i64 k, .pointer (some ⟨gb, 0, none⟩), .pointer (some ⟨gp, 0, none⟩)] W fun e w' => e = .returned (.bool (!(Op.bytesLess (beg t p i).toList p.toList))) ∧ ∃ q, w' = W.drewN q := by
  have hcp := hB.cp
  have hcb := hB.cb
  have HBG := Aside0.mk (fun n => begins_calls k i gx gp gb t p l A c o (W.drewN n) (hB.drewN n) hk hi hit ht hp)
  clear hB hi
  generalize beg t p i = b at *
  go_enter Try.func60, Try.ntmps60
  go_wp2
  go_quiet ((go_at_call 58; exact Calls.quiet_of (HBG.out _)))
  go_wp2
  go_ret
  exact ⟨rfl, _, rfl⟩
set_option maxHeartbeats 1000000 in
set_option maxRecDepth 100000 in
theorem above_calls (k i gx gp gb : Nat) (t p : ByteArray) (l : List Int) (A : Option Addr) (c : Nat) (o : Value) (W : World) (hB : SBoxes W gx gp gb t p l A c o) (hk : k < l.length) (hi : el l k = (i : Int)) (hit : i ≤ t.size) (ht : t.size ≤ 4096) (hp : p.size ≤ 140737488351232) :
    Calls Try.prog 61 #[.int .i64 k, .pointer (some ⟨gb, 0, none⟩), .pointer (some ⟨gp, 0, none⟩)] W fun e w' => e = .returned (.bool (!(Op.bytesLess (beg t p i).toList p.toList || (beg t p i).toList == p.toList))) ∧ ∃ q, w' = W.drewN q := by
  have hcp := hB.cp
  have hcb := hB.cb
  have HBG := Aside0.mk (fun n => begins_calls k i gx gp gb t p l A c o (W.drewN n) (hB.drewN n) hk hi hit ht hp)
  clear hB hi
  generalize beg t p i = b at *
  go_enter Try.func61, Try.ntmps61
  go_wp2
  go_quiet ((go_at_call 58; exact Calls.quiet_of (HBG.out _)))
  go_wp2
  go_ret
  exact ⟨by first | rfl | (simp; done), _, rfl⟩
end Go.Proofs.Ytppelnlocfcgfaa.P
namespace Go.Proofs.Ytppelnlocfcgfaa.P
open Go.RowKit Go.Proofs.YtppelnlocfcgfaaW.PrintWords Go.Proofs.YtppelnlocfcgfaaW.PrintLast Go.Proofs.YtppelnlocfcgfaaW.PrintMore
open Go.Proofs.Fnd Go.Sort
theorem beg_list (t p : ByteArray) (i : Nat) (hi : i ≤ t.size) : (beg t p i).toList = beginning t.data.toList p.data.toList.length i := by
  rw [ByteArray.toList_eq]
  unfold beg beginning
  rw [Lib.extract_data, Lib.extract_data]
  have h1 : t.data.toList.length = t.size := data_length t
  have h2 : p.data.toList.length = p.size := data_length p
  rw [h2, List.drop_zero, Nat.sub_zero, List.take_take, List.take_eq_take_iff, List.length_drop]
  omega
theorem upper_iff (x y : List UInt8) : (!(decide (x < y) || x == y)) = true ↔ y < x := by
  simp only [Bool.not_eq_true', Bool.or_eq_false_iff, decide_eq_false_iff_not, beq_eq_false_iff_ne]
  constructor
  · rintro ⟨h1, h2⟩
    exact Std.lt_of_le_of_ne (List.not_lt.1 h1) (fun e => h2 e.symm)
  · intro h
    exact ⟨List.lt_asymm h, fun e => by subst e; exact List.lt_irrefl _ h⟩
/-- where the suffixes that begin with a pattern stand in the order -/
def find_Index_span.f (a0 : ByteArray) (l1 l2 : List Int) (a1 : ByteArray) : Option (Int × Int) :=
  if a0.size ≤ 4096 ∧ a1.size ≤ 140737488351232 ∧ l1 = (sufOrd a0.data.toList).map Int.ofNat then some ((below a0.data.toList a1.data.toList : Int), (upto a0.data.toList a1.data.toList : Int)) else none
theorem SBoxes.grow {W : World} {gx gp gb : Nat} {t p : ByteArray} {l : List Int} {A : Option Addr} {c : Nat} {o : Value} (h : SBoxes W gx gp gb t p l A c o) (os : Array Obj) : SBoxes (Sort.grow W os) gx gp gb t p l A c o := by
  have hc : ∀ (a : Addr) (v : Value), W.cell? a = some v → (Sort.grow W os).cell? a = some v := fun a v hv => by
    rw [← hv]
    exact World.cell?_of_block (heap_grow (World.block_lt_of_cell? W _ hv))
  refine ⟨hc _ _ h.cx0, hc _ _ h.cx1, hc _ _ h.cp, hc _ _ h.cb, ?_⟩
  exact Kd.C_below h.rd ⟨rfl, rfl, rfl, by rw [Sort.size_grow]; omega, fun k hk => heap_grow hk⟩
theorem below_grow {w W : World} (h : Below w.heap.size w W) (q : Nat) (os : Array Obj) : Below w.heap.size w (Sort.grow (W.drewN q) os) :=
  below_step h ⟨rfl, rfl, rfl, by rw [Sort.size_grow]; exact Nat.le_add_right _ _, fun k hk => heap_grow (w := W.drewN q) hk⟩
set_option maxHeartbeats 2000000 in
set_option maxRecDepth 100000 in
theorem find_Index_span.calls (a0 : ByteArray) (A1 : Option Addr) (c1 : Nat) (l1 : List Int) (A2 : Option Addr) (c2 : Nat) (l2 : List Int) (a1 : ByteArray) (r1 r2 : Int) (w : World) (hr1 : Kd.C (Kd.int .i64) w A1 l1.length l1) (hc1 : l1.length ≤ c1) (hr2 : Kd.C (Kd.int .i64) w A2 l2.length l2) (hc2 : l2.length ≤ c2) (h : find_Index_span.f a0 l1 l2 a1 = some (r1, r2)) :
    Calls Try.prog 49 #[.agg #[.string a0, .slice A1 l1.length c1, .slice A2 l2.length c2], .string a1] w fun e w' => e = .returned (.tuple #[.int .i64 r1, .int .i64 r2]) ∧ Below w.heap.size w w' := by
  unfold find_Index_span.f at h
  by_cases hs : a0.size ≤ 4096 ∧ a1.size ≤ 140737488351232 ∧ l1 = (sufOrd a0.data.toList).map Int.ofNat
  · rw [if_pos hs] at h
    simp only [Option.some.injEq, Prod.mk.injEq] at h
    obtain ⟨h1, h2⟩ := h
    have HR1 := Aside0.mk h1
    have HR2 := Aside0.mk h2
    obtain ⟨hs1, hs2, hs3⟩ := hs
    have HSZ := Aside0.mk (show a0.data.toList.length = a0.size from data_length a0)
    have hll : l1.length = a0.size := by rw [hs3, List.length_map, sufOrd_length]; exact HSZ.out
    have HEL : Aside0 (∀ k, k < a0.size → el l1 k = (((sufOrd a0.data.toList).getD k 0 : Nat) : Int) ∧ (sufOrd a0.data.toList).getD k 0 ≤ a0.size) := ⟨fun k hk => by
      have hk' : k < (sufOrd a0.data.toList).length := by rw [sufOrd_length, HSZ.out]; exact hk
      rw [hs3]
      unfold el
      rw [List.getD_eq_getElem?_getD, List.getElem?_map, List.getD_eq_getElem?_getD, List.getElem?_eq_getElem hk']
      refine ⟨rfl, ?_⟩
      have := sufOrd_lt _ _ (List.getElem_mem hk')
      rw [HSZ.out] at this
      simp only [Option.getD_some]
      omega⟩
    have HLL := Aside0.mk hll
    have hbx : ∀ o1 o2 o3, o1 = Obj.cells #[.string a0, .slice A1 l1.length c1, .slice A2 l2.length c2] 24 → o2 = Obj.cells #[.string a1] 9 → o3 = Obj.cells #[.func (.func 58) #[] #[.pointer (some ⟨w.heap.size, 0, none⟩), .pointer (some ⟨w.heap.size + 1, 0, none⟩)]] 86 → SBoxes (((w.alloc o1).alloc o2).alloc o3) w.heap.size (w.heap.size + 1) (w.heap.size + 1 + 1) a0 a1 l1 A1 c1 (.slice A2 l2.length c2) := by
      rintro o1 o2 o3 rfl rfl rfl
      have b1 := heap_alloc_new w (Obj.cells #[.string a0, .slice A1 l1.length c1, .slice A2 l2.length c2] 24)
      have b2 := heap_alloc2_new w (Obj.cells #[.string a0, .slice A1 l1.length c1, .slice A2 l2.length c2] 24) (Obj.cells #[.string a1] 9)
      refine ⟨blk_cell (blk_alloc (blk_alloc b1 _) _) 0, blk_cell (blk_alloc (blk_alloc b1 _) _) 1, blk_cell (blk_alloc b2 _) 0, ?_, Kd.C_alloc (Kd.C_alloc (Kd.C_alloc hr1 _) _) _⟩
      refine blk_cell (t := 86) (cs := #[.func (.func 58) #[] #[.pointer (some ⟨w.heap.size, 0, none⟩), .pointer (some ⟨w.heap.size + 1, 0, none⟩)]]) ?_ 0
      have b3 := heap_alloc_new ((w.alloc (Obj.cells #[.string a0, .slice A1 l1.length c1, .slice A2 l2.length c2] 24)).alloc (Obj.cells #[.string a1] 9)) (Obj.cells #[.func (.func 58) #[] #[.pointer (some ⟨w.heap.size, 0, none⟩), .pointer (some ⟨w.heap.size + 1, 0, none⟩)]] 86)
      simpa using b3
    have HBX := Aside0.mk (hbx _ _ _ rfl rfl rfl)
    have hb0 : ∀ o1 o2 o3, Below w.heap.size w (((w.alloc o1).alloc o2).alloc o3) := fun o1 o2 o3 => below_alloc (below_alloc (below_alloc (Below.refl w.heap.size w) _) _) _
    have HB0 := Aside0.mk hb0
    clear hb0
    clear hbx hr1 hr2 h1 h2
    have hmf : ∀ (fn : Fn) (first cap : Array Value) (w : World), (Instr.makeFunc fn first cap).run Try.prog w = .ok (.func fn first cap) w := fun _ _ _ _ => rfl
    have eg60 : ∀ args w, (callFunc 60 args).run Try.prog w = .ok (.enter 60 args) w := enters_of Try.func60 (by kernel_rfl) rfl
    have eg61 : ∀ args w, (callFunc 61 args).run Try.prog w = .ok (.enter 61 args) w := enters_of Try.func61 (by kernel_rfl) rfl
    have hlo : ∀ (W : World) gx gp gb, SBoxes W gx gp gb a0 a1 l1 A1 c1 (.slice A2 l2.length c2) → Calls Try.prog 59 #[.int .i64 (a0.size : Int), .func (.func 60) #[] #[.pointer (some ⟨gb, 0, none⟩), .pointer (some ⟨gp, 0, none⟩)]] W fun e w' => e = .returned (.int .i64 r1) ∧ ∃ q os, w' = Sort.grow (W.drewN q) os := by
      intro W gx gp gb hB
      have hc := Any.sort_Search Try.search 60 #[.pointer (some ⟨gb, 0, none⟩), .pointer (some ⟨gp, 0, none⟩)] a0.size (fun k => !(Op.bytesLess (beg a0 a1 ((sufOrd a0.data.toList).getD k 0)).toList a1.toList)) W eg60 (by omega)
        (fun m os k hk => by
          obtain ⟨he, hle⟩ := HEL.out k hk
          refine (atleast_calls k _ gx gp gb a0 a1 l1 A1 c1 _ _ ((hB.drewN m).grow os) (by rw [HLL.out]; exact hk) he hle hs1 hs2).mono ?_
          rintro e w' ⟨he, q, hq⟩
          exact ⟨he, q, #[], by rw [hq, Sort.grow_empty]⟩)
        (fun a b hab hb h => by
          obtain ⟨_, ha⟩ := HEL.out a (by omega)
          obtain ⟨_, hb'⟩ := HEL.out b hb
          simp only [beg_list _ _ _ ha, beg_list _ _ _ hb', ByteArray.toList_eq, bytesLess_eq, Bool.not_eq_true', decide_eq_false_iff_not] at h ⊢
          have := take_le a1.data.toList.length (order_le a0.data.toList hab (by rw [HSZ.out]; exact hb))
          unfold beginning at h ⊢
          exact fun q => h (Std.lt_of_le_of_lt (List.not_lt.1 this) q))
      refine hc.mono ?_
      rintro e w' ⟨rfl, hw⟩
      refine ⟨?_, hw⟩
      rw [← HR1.out]
      unfold below
      rw [← count_order a0.data.toList (fun i => decide (beginning a0.data.toList a1.data.toList.length i < a1.data.toList)), HSZ.out]
      congr 3
      refine List.countP_congr fun k hk => ?_
      rw [List.mem_range] at hk
      obtain ⟨_, hle⟩ := HEL.out k hk
      simp only [beg_list _ _ _ hle, ByteArray.toList_eq, bytesLess_eq, Bool.not_not]
    have hhi : ∀ (W : World) gx gp gb, SBoxes W gx gp gb a0 a1 l1 A1 c1 (.slice A2 l2.length c2) → Calls Try.prog 59 #[.int .i64 (a0.size : Int), .func (.func 61) #[] #[.pointer (some ⟨gb, 0, none⟩), .pointer (some ⟨gp, 0, none⟩)]] W fun e w' => e = .returned (.int .i64 r2) ∧ ∃ q os, w' = Sort.grow (W.drewN q) os := by
      intro W gx gp gb hB
      have hc := Any.sort_Search Try.search 61 #[.pointer (some ⟨gb, 0, none⟩), .pointer (some ⟨gp, 0, none⟩)] a0.size (fun k => !(Op.bytesLess (beg a0 a1 ((sufOrd a0.data.toList).getD k 0)).toList a1.toList || (beg a0 a1 ((sufOrd a0.data.toList).getD k 0)).toList == a1.toList)) W eg61 (by omega)
        (fun m os k hk => by
          obtain ⟨he, hle⟩ := HEL.out k hk
          refine (above_calls k _ gx gp gb a0 a1 l1 A1 c1 _ _ ((hB.drewN m).grow os) (by rw [HLL.out]; exact hk) he hle hs1 hs2).mono ?_
          rintro e w' ⟨he, q, hq⟩
          exact ⟨he, q, #[], by rw [hq, Sort.grow_empty]⟩)
        (fun a b hab hb h => by
          obtain ⟨_, ha⟩ := HEL.out a (by omega)
          obtain ⟨_, hb'⟩ := HEL.out b hb
          simp only [beg_list _ _ _ ha, beg_list _ _ _ hb', ByteArray.toList_eq, bytesLess_eq, upper_iff] at h ⊢
          have := take_le a1.data.toList.length (order_le a0.data.toList hab (by rw [HSZ.out]; exact hb))
          unfold beginning at h ⊢
          exact Std.lt_of_lt_of_le h (List.not_lt.1 this))
      refine hc.mono ?_
      rintro e w' ⟨rfl, hw⟩
      refine ⟨?_, hw⟩
      rw [← HR2.out]
      unfold upto
      rw [← count_order a0.data.toList (fun i => !decide (a1.data.toList < beginning a0.data.toList a1.data.toList.length i)), HSZ.out]
      congr 3
      refine List.countP_congr fun k hk => ?_
      rw [List.mem_range] at hk
      obtain ⟨_, hle⟩ := HEL.out k hk
      simp only [beg_list _ _ _ hle, ByteArray.toList_eq, bytesLess_eq, Bool.not_not]
      have := upper_iff (beginning a0.data.toList a1.data.toList.length ((sufOrd a0.data.toList).getD k 0)) a1.data.toList
      cases hz : (decide (beginning a0.data.toList a1.data.toList.length ((sufOrd a0.data.toList).getD k 0) < a1.data.toList) || beginning a0.data.toList a1.data.toList.length ((sufOrd a0.data.toList).getD k 0) == a1.data.toList)
      · rw [hz] at this
        simp only [Bool.not_false, true_iff] at this
        simp only [Bool.false_eq_true, false_iff, Bool.not_eq_true', decide_eq_false_iff_not, Decidable.not_not]
        exact this
      · rw [hz] at this
        simp only [Bool.not_true, Bool.false_eq_true, false_iff] at this
        simp only [true_iff, Bool.not_eq_true', decide_eq_false_iff_not]
        exact this
    have HLO := Aside0.mk hlo
    have HHI := Aside0.mk hhi
    have hnI : ((l1.length : Nat) : Int) = (a0.size : Int) := by rw [HLL.out]
    clear hlo hhi HEL hs3 hll
    go_enter Try.func49, Try.ntmps49
    go_wp2_with (first | (go_at_call 59; (with_reducible refine (HLO.out _ _ _ _ HBX.out).mono ?_); rintro e w1 ⟨rfl, q, os, hw1⟩; have HBX1 := Aside0.mk ((HBX.out.drewN q).grow os); rw [← hw1] at HBX1; have hcx1 := HBX1.out.cx1; have HB1 : Aside0 (Below w.heap.size w w1) := ⟨by rw [hw1]; exact below_grow (HB0.out _ _ _) q os⟩; clear hw1) | (go_at_call 59; (with_reducible refine (HHI.out _ _ _ _ HBX1.out).mono ?_); rintro e w2 ⟨rfl, q, os, hw2⟩; have HB2 := Aside0.mk (below_grow HB1.out q os); rw [← hw2] at HB2; clear hw2))
    go_ret2
    exact ⟨rfl, HB2.out⟩
  · rw [if_neg hs] at h
    exact absurd h (by simp)
end Go.Proofs.Ytppelnlocfcgfaa.P
namespace Go.Proofs.Ytppelnlocfcgfaa.P
open Go.RowKit Go.Proofs.YtppelnlocfcgfaaW.PrintWords Go.Proofs.YtppelnlocfcgfaaW.PrintLast Go.Proofs.YtppelnlocfcgfaaW.PrintMore
attribute [local go_sem] max2_int min2_int max_two min_two max_three min_three max_four min_four   -- for this text's walks alone

/-! ### find_Index_Count: function 29 -/
def find_Index_Count.f (a0_0 : ByteArray) (l0_1 : List Int) (l0_2 : List Int) (a1 : ByteArray) : Option (Int) := (find_Index_span.f a0_0 l0_1 l0_2 a1).bind fun bt131 => (some (wrap64 (bt131.2 - bt131.1)))
set_option maxHeartbeats 8000000 in
set_option maxRecDepth 100000 in
theorem find_Index_Count.calls (a0_0 : ByteArray) (A0_1 : Option Addr) (c0_1 : Nat) (l0_1 : List Int) (A0_2 : Option Addr) (c0_2 : Nat) (l0_2 : List Int) (a1 : ByteArray) (r : Int) (w : World) (hr0_1 : Kd.C (Kd.int .i64) w A0_1 l0_1.length l0_1) (hc0_1 : l0_1.length ≤ c0_1) (hr0_2 : Kd.C (Kd.int .i64) w A0_2 l0_2.length l0_2) (hc0_2 : l0_2.length ≤ c0_2) (h : find_Index_Count.f a0_0 l0_1 l0_2 a1 = some r) :
  Calls Try.prog 29 #[.agg #[.string a0_0, .slice A0_1 l0_1.length c0_1, .slice A0_2 l0_2.length c0_2], .string a1] w fun e w' => e = .returned (.int .i64 r) ∧ Below w.heap.size w w' := by
 have hu24 := Try.underlying24
 have HR0_1 := Aside0.mk hr0_1
 have HC0_1 := Aside0.mk hc0_1
 clear hr0_1 hc0_1
 have HR0_2 := Aside0.mk hr0_2
 have HC0_2 := Aside0.mk hc0_2
 clear hr0_2 hc0_2
 have HB := Aside0.mk (Below.refl w.heap.size w)
 have H : ((find_Index_span.f a0_0 l0_1 l0_2 a1).bind fun bt131 => (some (wrap64 (bt131.2 - bt131.1)))) = some r := h
 clear h
 replace H := Option.bind_eq_some_iff.mp H
 obtain ⟨⟨t131, t132⟩, A30, H⟩ := H
 replace H : (some (wrap64 (t132 - t131))) = some r := H
 have A3 := Aside0.mk A30
 clear A30
 obtain rfl := Option.some.inj H
 go_enter Try.func29, Try.ntmps29
 go_wp2_with (first | ((with_reducible refine gate_dst (N := 2) rfl ?_); refine box_event ?hg (N := 2) ?hd (cs := #[.string a0_0, .slice A0_1 l0_1.length c0_1, .slice A0_2 l0_2.length c0_2]) (t := 24) ?hr ?_; (case hd => rfl); (case hg => rfl); (case hr => first | (go_simp; done) | (go_simp; rfl)); intro gb130 hg w4 hbox hb; have n0_ := Aside0.mk (below_step (by repeat (first | (with_reducible first | exact HB.out | apply below_alloc | apply pw_below_drewN | apply below_drew1) | exact HB.out)) hb); have n1_ := Aside0.mk (hbox); have n2_ := Aside0.mk ((by rw [hg]; exact (below_size (by repeat (first | (with_reducible first | exact HB.out | apply below_alloc | apply pw_below_drewN | apply below_drew1) | exact HB.out))) : w.heap.size ≤ gb130)); have n3_ := Aside0.mk ((by rw [hg]; exact (below_size (by repeat (first | (with_reducible first | exact HB.out | apply below_alloc | apply pw_below_drewN | apply below_drew1) | exact HB.out))) : w.heap.size ≤ gb130)); clear HB; have HB := n0_; have BK130 := n1_; have GW130 := n2_; have GE130 := n3_; clear n0_ n1_ n2_ n3_; clear hb hbox hg; have hcz5_0 : w4.cell? ⟨gb130, 0, none⟩ = some (.string a0_0) := (blk_cell BK130.out 0).trans rfl; have hcz5_1 : w4.cell? ⟨gb130, 1, none⟩ = some (.slice A0_1 l0_1.length c0_1) := (blk_cell BK130.out 1).trans rfl; have hcz5_2 : w4.cell? ⟨gb130, 2, none⟩ = some (.slice A0_2 l0_2.length c0_2) := (blk_cell BK130.out 2).trans rfl; have hfz5_0 := blk_frozen BK130.out 0; have hfz5_1 := blk_frozen BK130.out 1; have hfz5_2 := blk_frozen BK130.out 2) | ((with_reducible refine gate_callee (f := 49) rfl ?_); refine goesL_ (some 10) rfl rfl Try.func49 (by kernel_rfl) rfl #[.agg #[.string a0_0, .slice A0_1 l0_1.length c0_1, .slice A0_2 l0_2.length c0_2], .string a1] rfl (by (try simp only [List.map_toArray, List.map_cons, List.map_nil]); first | done | rfl | (simp only [List.length_drop, List.length_take]; rfl)) ?_; (with_reducible refine (find_Index_span.calls a0_0 _ _ l0_1 _ _ l0_2 a1 t131 t132 _ ?side1 ?side2 ?side3 ?side4 A3.out).mono ?_); (case side1 => repeat (first | exact (Kd.C_below HR0_1.out HB.out) | (with_reducible refine Kd.C_alloc ?_ _) | (with_reducible refine Kd.C_drewN ?_ _) | (with_reducible refine Kd.C_drew ?_))); (case side2 => exact HC0_1.out); (case side3 => repeat (first | exact (Kd.C_below HR0_2.out HB.out) | (with_reducible refine Kd.C_alloc ?_ _) | (with_reducible refine Kd.C_drewN ?_ _) | (with_reducible refine Kd.C_drew ?_))); (case side4 => exact HC0_2.out); rintro e w6 ⟨rfl, hb⟩; refine ⟨_, rfl, ?_⟩; have n0_ := Aside0.mk (blk_below (g := gb130) (o := .cells #[.string a0_0, .slice A0_1 l0_1.length c0_1, .slice A0_2 l0_2.length c0_2] 24 (0, 0)) (by (with_reducible repeat (first | refine blk_drewN ?_ _ | refine blk_drew ?_ | refine blk_alloc ?_ _)); exact BK130.out) hb); have n1_ := Aside0.mk (below_step (by repeat (first | (with_reducible first | exact HB.out | apply below_alloc | apply pw_below_drewN | apply below_drew1 | refine below_set ?_ GE130.out) | exact HB.out)) hb); clear BK130; clear HB; have BK130 := n0_; have HB := n1_; clear n0_ n1_; (try clear hb); (try clear hb2); (try clear hk); (try clear hi)))
 go_ret
 exact ⟨by first | rfl | (simp [errW_none, errW_some] <;> rfl) | (simp [*, errW_none, errW_some] <;> rfl), by repeat (first | (with_reducible first | exact HB.out | apply below_alloc | apply pw_below_drewN | apply below_drew1 | refine below_set ?_ GE130.out) | exact HB.out)⟩

end Go.Proofs.Ytppelnlocfcgfaa.P
namespace Go.Proofs.Ytppelnlocfcgfaa.P
open Go.RowKit Go.Proofs.YtppelnlocfcgfaaW.PrintWords Go.Proofs.YtppelnlocfcgfaaW.PrintLast Go.Proofs.YtppelnlocfcgfaaW.PrintMore
/-- strings.Clone -/
def strings_Clone.f (a0 : ByteArray) : Option ByteArray := if a0.size ≤ 281474976710656 then some a0 else none
set_option maxHeartbeats 1000000 in
set_option maxRecDepth 100000 in
theorem strings_Clone.calls (a0 : ByteArray) (r : ByteArray) (w : World) (h : strings_Clone.f a0 = some r) :
    Calls Try.prog 42 #[.string a0] w fun e w' => e = .returned (.string r) ∧ Below w.heap.size w w' := by
  unfold strings_Clone.f at h
  by_cases hs : a0.size ≤ 281474976710656
  · rw [if_pos hs] at h
    injection h with h
    subst h
    have HC := Aside0.mk (Try.stringslite_Clone a0 w hs)
    go_enter Try.func42, Try.ntmps42
    go_wp2_with (go_at_call 56; refine HC.out.mono ?_; rintro e w' ⟨rfl, hb⟩)
    go_ret
    exact ⟨rfl, hb⟩
  · rw [if_neg hs] at h
    exact absurd h (by simp)
end Go.Proofs.Ytppelnlocfcgfaa.P
namespace Go.Proofs.Ytppelnlocfcgfaa.P
open Go.RowKit Go.Proofs.YtppelnlocfcgfaaW.PrintWords Go.Proofs.YtppelnlocfcgfaaW.PrintLast Go.Proofs.YtppelnlocfcgfaaW.PrintMore
attribute [local go_sem] max2_int min2_int max_two min_two max_three min_three max_four min_four   -- for this text's walks alone

/-! ### find_Index_Repeat: function 17 -/
def find_Index_Repeat.l0 : Nat → Int → Int → List Int → Int → Int → ByteArray → List Int → List Int → Option (ByteArray × Int × Int)
 | 0, _, _, _, _, _, _, _, _ => none
 | k + 1, x5, x6, x11, x12, x13, x134000, x134001, x134002 => if x13 < x12 then (if 0 ≤ x13 then (if x13 < (x11.length : Int) then (if (rd x11 x13) > x5 then (if x13 < (x134001.length : Int) then (find_Index_Repeat.l0 k (rd x11 x13) (rd x134001 x13) x11 x12 (wrap64 (x13 + 1)) x134000 x134001 x134002) else (none)) else (find_Index_Repeat.l0 k x5 x6 x11 x12 (wrap64 (x13 + 1)) x134000 x134001 x134002)) else (none)) else (none)) else (if x5 = 0 then (some ((⟨#[]⟩ : ByteArray), 0, 6)) else (if 0 ≤ x6 then (if x6 ≤ (wrap64 (x6 + x5)) then (if (wrap64 (x6 + x5)) ≤ (x134000.size : Int) then ((strings_Clone.f (x134000.extract (x6 : Int).toNat ((wrap64 (x6 + x5)) : Int).toNat)).bind fun t136 => ((find_Index_Count.f x134000 x134001 x134002 t136).bind fun t137 => (some (t136, t137, 0)))) else (none)) else (none)) else (none)))
def find_Index_Repeat.f (k : Nat) (a0_0 : ByteArray) (l0_1 : List Int) (l0_2 : List Int) : Option (ByteArray × Int × Int) := find_Index_Repeat.l0 k 0 0 l0_2 (l0_2.length : Int) 0 a0_0 l0_1 l0_2
theorem find_Index_Repeat.mono_l : ∀ k, (∀ y0 y1 y2 y3 y4 y5 y6 y7, LeO (find_Index_Repeat.l0 k y0 y1 y2 y3 y4 y5 y6 y7) (find_Index_Repeat.l0 (k + 1) y0 y1 y2 y3 y4 y5 y6 y7))
 | 0 => fun _ _ _ _ _ _ _ _ r h => by simp [find_Index_Repeat.l0] at h
 | k + 1 => by
  have ih0 := find_Index_Repeat.mono_l k
  ·intro y0 y1 y2 y3 y4 y5 y6 y7
   unfold find_Index_Repeat.l0
   repeat' first
   | (with_reducible exact ih0 _ _ _ _ _ _ _ _)
   | (with_reducible exact LeO.refl _)
   | (with_reducible exact LeO.none _)
   | (with_reducible refine LeO.ite ?_ ?_)
   | (with_reducible refine LeO.bind ?_ (fun _ => ?_))
   | exact ih0 _ _ _ _ _ _ _ _
   | exact LeO.none _
   | refine LeO.ite ?_ ?_
   | refine LeO.bind ?_ (fun _ => ?_)
theorem find_Index_Repeat.mono : ∀ a0 a1 a2 k, LeO (find_Index_Repeat.f k a0 a1 a2) (find_Index_Repeat.f (k + 1) a0 a1 a2) := by
 intro a0 a1 a2 k
 have ih0 := find_Index_Repeat.mono_l k
 unfold find_Index_Repeat.f
 repeat' first
   | (with_reducible exact ih0 _ _ _ _ _ _ _ _)
   | (with_reducible exact LeO.refl _)
   | (with_reducible exact LeO.none _)
   | (with_reducible refine LeO.ite ?_ ?_)
   | (with_reducible refine LeO.bind ?_ (fun _ => ?_))
   | exact ih0 _ _ _ _ _ _ _ _
   | exact LeO.none _
   | refine LeO.ite ?_ ?_
   | refine LeO.bind ?_ (fun _ => ?_)
set_option maxHeartbeats 8000000 in
set_option maxRecDepth 100000 in
theorem find_Index_Repeat.calls (k : Nat) (a0_0 : ByteArray) (A0_1 : Option Addr) (c0_1 : Nat) (l0_1 : List Int) (A0_2 : Option Addr) (c0_2 : Nat) (l0_2 : List Int) (r1 : ByteArray) (r2 : Int) (r3 : Int) (w : World) (hr0_1 : Kd.C (Kd.int .i64) w A0_1 l0_1.length l0_1) (hc0_1 : l0_1.length ≤ c0_1) (hr0_2 : Kd.C (Kd.int .i64) w A0_2 l0_2.length l0_2) (hc0_2 : l0_2.length ≤ c0_2) (h : find_Index_Repeat.f k a0_0 l0_1 l0_2 = some (r1, r2, r3)) :
  Calls Try.prog 17 #[.agg #[.string a0_0, .slice A0_1 l0_1.length c0_1, .slice A0_2 l0_2.length c0_2]] w fun e w' => e = .returned (.tuple #[.string r1, .int .i64 r2, .int .i64 r3]) ∧ Below w.heap.size w w' := by
 have hu24 := Try.underlying24
 have HR0_1 := Aside0.mk hr0_1
 have HC0_1 := Aside0.mk hc0_1
 clear hr0_1 hc0_1
 have HR0_2 := Aside0.mk hr0_2
 have HC0_2 := Aside0.mk hc0_2
 clear hr0_2 hc0_2
 have HB := Aside0.mk (Below.refl w.heap.size w)
 have H : (find_Index_Repeat.l0 k 0 0 l0_2 (l0_2.length : Int) 0 a0_0 l0_1 l0_2) = some (r1, r2, r3) := h
 clear h
 have H' := Aside0.mk H
 clear H
 go_enter Try.func17, Try.ntmps17
 go_wp2_with (first | ((with_reducible refine gate_dst (N := 1) rfl ?_); refine box_event ?hg (N := 1) ?hd (cs := #[.string a0_0, .slice A0_1 l0_1.length c0_1, .slice A0_2 l0_2.length c0_2]) (t := 24) ?hr ?_; (case hd => rfl); (case hg => rfl); (case hr => first | (go_simp; done) | (go_simp; rfl)); intro gb133 hg w2 hbox hb; have n0_ := Aside0.mk (below_step (by repeat (first | (with_reducible first | exact HB.out | apply below_alloc | apply pw_below_drewN | apply below_drew1) | exact HB.out)) hb); have n1_ := Aside0.mk (hbox); have n2_ := Aside0.mk ((by rw [hg]; exact (below_size (by repeat (first | (with_reducible first | exact HB.out | apply below_alloc | apply pw_below_drewN | apply below_drew1) | exact HB.out))) : w.heap.size ≤ gb133)); have n3_ := Aside0.mk ((by rw [hg]; exact (below_size (by repeat (first | (with_reducible first | exact HB.out | apply below_alloc | apply pw_below_drewN | apply below_drew1) | exact HB.out))) : w.heap.size ≤ gb133)); clear HB; have HB := n0_; have BK133 := n1_; have GW133 := n2_; have GE133 := n3_; clear n0_ n1_ n2_ n3_; clear hb hbox hg; have hcz3_0 : w2.cell? ⟨gb133, 0, none⟩ = some (.string a0_0) := (blk_cell BK133.out 0).trans rfl; have hcz3_1 : w2.cell? ⟨gb133, 1, none⟩ = some (.slice A0_1 l0_1.length c0_1) := (blk_cell BK133.out 1).trans rfl; have hcz3_2 : w2.cell? ⟨gb133, 2, none⟩ = some (.slice A0_2 l0_2.length c0_2) := (blk_cell BK133.out 2).trans rfl; have hfz3_0 := blk_frozen BK133.out 0; have hfz3_1 := blk_frozen BK133.out 1; have hfz3_2 := blk_frozen BK133.out 2))
 repeat (go_quiet (first | ((with_reducible refine gate_dst (N := 1) rfl ?_); refine box_event ?hg (N := 1) ?hd (cs := #[.string a0_0, .slice A0_1 l0_1.length c0_1, .slice A0_2 l0_2.length c0_2]) (t := 24) ?hr ?_; (case hd => rfl); (case hg => rfl); (case hr => first | (go_simp; done) | (go_simp; rfl)); intro gb133 hg w2 hbox hb; have n0_ := Aside0.mk (below_step (by repeat (first | (with_reducible first | exact HB.out | apply below_alloc | apply pw_below_drewN | apply below_drew1) | exact HB.out)) hb); have n1_ := Aside0.mk (hbox); have n2_ := Aside0.mk ((by rw [hg]; exact (below_size (by repeat (first | (with_reducible first | exact HB.out | apply below_alloc | apply pw_below_drewN | apply below_drew1) | exact HB.out))) : w.heap.size ≤ gb133)); have n3_ := Aside0.mk ((by rw [hg]; exact (below_size (by repeat (first | (with_reducible first | exact HB.out | apply below_alloc | apply pw_below_drewN | apply below_drew1) | exact HB.out))) : w.heap.size ≤ gb133)); clear HB; have HB := n0_; have BK133 := n1_; have GW133 := n2_; have GE133 := n3_; clear n0_ n1_ n2_ n3_; clear hb hbox hg; have hcz3_0 : w2.cell? ⟨gb133, 0, none⟩ = some (.string a0_0) := (blk_cell BK133.out 0).trans rfl; have hcz3_1 : w2.cell? ⟨gb133, 1, none⟩ = some (.slice A0_1 l0_1.length c0_1) := (blk_cell BK133.out 1).trans rfl; have hcz3_2 : w2.cell? ⟨gb133, 2, none⟩ = some (.slice A0_2 l0_2.length c0_2) := (blk_cell BK133.out 2).trans rfl; have hfz3_0 := blk_frozen BK133.out 0; have hfz3_1 := blk_frozen BK133.out 1; have hfz3_2 := blk_frozen BK133.out 2)); try go_wp2_with (first | ((with_reducible refine gate_dst (N := 1) rfl ?_); refine box_event ?hg (N := 1) ?hd (cs := #[.string a0_0, .slice A0_1 l0_1.length c0_1, .slice A0_2 l0_2.length c0_2]) (t := 24) ?hr ?_; (case hd => rfl); (case hg => rfl); (case hr => first | (go_simp; done) | (go_simp; rfl)); intro gb133 hg w2 hbox hb; have n0_ := Aside0.mk (below_step (by repeat (first | (with_reducible first | exact HB.out | apply below_alloc | apply pw_below_drewN | apply below_drew1) | exact HB.out)) hb); have n1_ := Aside0.mk (hbox); have n2_ := Aside0.mk ((by rw [hg]; exact (below_size (by repeat (first | (with_reducible first | exact HB.out | apply below_alloc | apply pw_below_drewN | apply below_drew1) | exact HB.out))) : w.heap.size ≤ gb133)); have n3_ := Aside0.mk ((by rw [hg]; exact (below_size (by repeat (first | (with_reducible first | exact HB.out | apply below_alloc | apply pw_below_drewN | apply below_drew1) | exact HB.out))) : w.heap.size ≤ gb133)); clear HB; have HB := n0_; have BK133 := n1_; have GW133 := n2_; have GE133 := n3_; clear n0_ n1_ n2_ n3_; clear hb hbox hg; have hcz3_0 : w2.cell? ⟨gb133, 0, none⟩ = some (.string a0_0) := (blk_cell BK133.out 0).trans rfl; have hcz3_1 : w2.cell? ⟨gb133, 1, none⟩ = some (.slice A0_1 l0_1.length c0_1) := (blk_cell BK133.out 1).trans rfl; have hcz3_2 : w2.cell? ⟨gb133, 2, none⟩ = some (.slice A0_2 l0_2.length c0_2) := (blk_cell BK133.out 2).trans rfl; have hfz3_0 := blk_frozen BK133.out 0; have hfz3_1 := blk_frozen BK133.out 1; have hfz3_2 := blk_frozen BK133.out 2)))
 go_loopg [5, 6, 13] k (fun kq v5 v6 v13 w' => ∃ (x5_1 : Int) (x6_1 : Int) (x13_1 : Int), v5 = .int .i64 x5_1 ∧ v6 = .int .i64 x6_1 ∧ v13 = .int .i64 x13_1 ∧ Aside0 (find_Index_Repeat.l0 kq x5_1 x6_1 l0_2 (l0_2.length : Int) x13_1 a0_0 l0_1 l0_2 = some (r1, r2, r3)) ∧ Aside0 (kq ≤ k) ∧ Aside0 (w'.heap[gb133]? = some (.cells #[.string a0_0, (.slice A0_1 l0_1.length c0_1), (.slice A0_2 l0_2.length c0_2)] 24 (0, 0))) ∧ Aside0 (Below w.heap.size w w'))
 case atStart => exact ⟨(0), (0), (0), (by first | rfl | (simp; done) | (simp [*]; done)), (by first | rfl | (simp; done) | (simp [*]; done)), (by first | rfl | (simp; done) | (simp [*]; done)), H', ⟨Nat.le_refl _⟩, ⟨by (with_reducible repeat (first | refine blk_drewN ?_ _ | refine blk_drew ?_ | refine blk_alloc ?_ _)); exact BK133.out⟩, ⟨by repeat (first | (with_reducible first | exact HB.out | apply below_alloc | apply pw_below_drewN | apply below_drew1 | refine below_set ?_ GE133.out) | exact HB.out)⟩⟩
 case round =>
  clear H'
  try clear c1
  try clear p2
  try clear hcz3_0
  try clear hcz3_1
  try clear hcz3_2
  try clear hfz3_0
  try clear hfz3_1
  try clear hfz3_2
  obtain ⟨x5_1, x6_1, x13_1, rfl, rfl, rfl, HA, HK1, BK133, HB⟩ := hrel
  cases gk with
  | zero => exact absurd HA.out (by simp [find_Index_Repeat.l0])
  | succ k1 =>
   have H := HA.out
   clear HA
   simp only [find_Index_Repeat.l0] at H
   by_cases c4 : x13_1 < (l0_2.length : Int)
   ·rw [if_pos c4] at H
    have c4b0 : decide (x13_1 < (l0_2.length : Int)) = true := decide_eq_true c4
    clear c4
    by_cases c5 : 0 ≤ x13_1
    ·rw [if_pos c5] at H
     have c5b0 : decide (0 ≤ x13_1) = true := decide_eq_true c5
     clear c5
     by_cases c6 : x13_1 < (l0_2.length : Int)
     ·rw [if_pos c6] at H
      have c6b0 : decide (x13_1 < (l0_2.length : Int)) = true := decide_eq_true c6
      clear c6
      by_cases c7 : (rd l0_2 x13_1) > x5_1
      ·rw [if_pos c7] at H
       have c7b0 : decide (x5_1 < (rd l0_2 x13_1)) = true := decide_eq_true c7
       clear c7
       by_cases c8 : x13_1 < (l0_1.length : Int)
       ·rw [if_pos c8] at H
        have c8b0 : decide (x13_1 < (l0_1.length : Int)) = true := decide_eq_true c8
        clear c8
        have H' := Aside0.mk H
        clear H
        have p134 : 0 ≤ (x13_1 : Int) := of_decide_eq_true (by first | (with_reducible assumption) | assumption)
        have q134 : x13_1 < (l0_2.length : Int) := of_decide_eq_true (by first | (with_reducible assumption) | assumption)
        obtain ⟨ad134, e134, hx134_0⟩ := Kd.at_int HR0_2.out x13_1 p134 q134
        cases e134
        replace hx134_0 := (HB.out.cell (World.block_lt_of_cell? w _ hx134_0)).trans hx134_0
        replace p134 := eq_true p134
        replace q134 := eq_true q134
        have hcz9_0 : wr.cell? ⟨gb133, 0, none⟩ = some (.string a0_0) := (blk_cell BK133.out 0).trans rfl
        have hcz9_1 : wr.cell? ⟨gb133, 1, none⟩ = some (.slice A0_1 l0_1.length c0_1) := (blk_cell BK133.out 1).trans rfl
        have hcz9_2 : wr.cell? ⟨gb133, 2, none⟩ = some (.slice (some ad134) l0_2.length c0_2) := (blk_cell BK133.out 2).trans rfl
        have hfz9_0 := blk_frozen BK133.out 0
        have hfz9_1 := blk_frozen BK133.out 1
        have hfz9_2 := blk_frozen BK133.out 2
        have p135 : 0 ≤ (x13_1 : Int) := of_decide_eq_true (by first | (with_reducible assumption) | assumption)
        have q135 : x13_1 < (l0_1.length : Int) := of_decide_eq_true (by first | (with_reducible assumption) | assumption)
        obtain ⟨ad135, e135, hx135_0⟩ := Kd.at_int HR0_1.out x13_1 p135 q135
        cases e135
        replace hx135_0 := (HB.out.cell (World.block_lt_of_cell? w _ hx135_0)).trans hx135_0
        replace p135 := eq_true p135
        replace q135 := eq_true q135
        go_wp2
        repeat (go_quiet (fail); try go_wp2)
        go_roundg k1
        case measure => have := HK1.out; omega
        case rel => exact ⟨(rd l0_2 x13_1), (rd l0_1 x13_1), (wrap64 (x13_1 + 1)), (by first | rfl | (simp; done) | (simp [*]; done)), (by first | rfl | (simp; done) | (simp [*]; done)), (by first | rfl | (simp; done) | (simp [*]; done)), H', ⟨by have := HK1.out; omega⟩, ⟨by (with_reducible repeat (first | refine blk_drewN ?_ _ | refine blk_drew ?_ | refine blk_alloc ?_ _)); exact BK133.out⟩, ⟨by repeat (first | (with_reducible first | exact HB.out | apply below_alloc | apply pw_below_drewN | apply below_drew1 | refine below_set ?_ GE133.out) | exact HB.out)⟩⟩
       ·rw [if_neg c8] at H
        exact absurd H (by simp)
      ·rw [if_neg c7] at H
       have c7b0 : decide (x5_1 < (rd l0_2 x13_1)) = false := decide_eq_false c7
       clear c7
       have H' := Aside0.mk H
       clear H
       have p134 : 0 ≤ (x13_1 : Int) := of_decide_eq_true (by first | (with_reducible assumption) | assumption)
       have q134 : x13_1 < (l0_2.length : Int) := of_decide_eq_true (by first | (with_reducible assumption) | assumption)
       obtain ⟨ad134, e134, hx134_0⟩ := Kd.at_int HR0_2.out x13_1 p134 q134
       cases e134
       replace hx134_0 := (HB.out.cell (World.block_lt_of_cell? w _ hx134_0)).trans hx134_0
       replace p134 := eq_true p134
       replace q134 := eq_true q134
       go_wp2
       repeat (go_quiet (fail); try go_wp2)
       go_roundg k1
       case measure => have := HK1.out; omega
       case rel => exact ⟨(x5_1), (x6_1), (wrap64 (x13_1 + 1)), (by first | rfl | (simp; done) | (simp [*]; done)), (by first | rfl | (simp; done) | (simp [*]; done)), (by first | rfl | (simp; done) | (simp [*]; done)), H', ⟨by have := HK1.out; omega⟩, ⟨by (with_reducible repeat (first | refine blk_drewN ?_ _ | refine blk_drew ?_ | refine blk_alloc ?_ _)); exact BK133.out⟩, ⟨by repeat (first | (with_reducible first | exact HB.out | apply below_alloc | apply pw_below_drewN | apply below_drew1 | refine below_set ?_ GE133.out) | exact HB.out)⟩⟩
     ·rw [if_neg c6] at H
      exact absurd H (by simp)
    ·rw [if_neg c5] at H
     exact absurd H (by simp)
   ·rw [if_neg c4] at H
    have c4b0 : decide (x13_1 < (l0_2.length : Int)) = false := decide_eq_false c4
    clear c4
    by_cases c10 : x5_1 = 0
    ·rw [if_pos c10] at H
     have c10b0 : (x5_1 == 0) = true := beq_iff_eq.mpr c10
     have c10b1 : (x5_1 != 0) = false := bne_eq_false_iff_eq.mpr c10
     clear c10
     simp only [Option.some.injEq, Prod.mk.injEq] at H
     obtain ⟨rfl, rfl, rfl⟩ := H
     go_wp2
     repeat (go_quiet (fail); try go_wp2)
     go_ret3
     exact ⟨by first | rfl | (simp [errW_none, errW_some] <;> rfl) | (simp [*, errW_none, errW_some] <;> rfl), by repeat (first | (with_reducible first | exact HB.out | apply below_alloc | apply pw_below_drewN | apply below_drew1 | refine below_set ?_ GE133.out) | exact HB.out)⟩
    ·rw [if_neg c10] at H
     have c10b0 : (x5_1 == 0) = false := beq_eq_false_iff_ne.mpr c10
     have c10b1 : (x5_1 != 0) = true := bne_iff_ne.mpr c10
     by_cases c11 : 0 ≤ x6_1
     ·rw [if_pos c11] at H
      have c11b0 := eq_true c11
      have c11b1 : decide (0 ≤ x6_1) = true := decide_eq_true c11
      clear c11
      by_cases c12 : x6_1 ≤ (wrap64 (x6_1 + x5_1))
      ·rw [if_pos c12] at H
       have c12b0 := eq_true c12
       have c12b1 : decide (x6_1 ≤ (wrap64 (x6_1 + x5_1))) = true := decide_eq_true c12
       by_cases c13 : (wrap64 (x6_1 + x5_1)) ≤ (a0_0.size : Int)
       ·rw [if_pos c13] at H
        have c13b0 := eq_true c13
        have c13b1 : decide ((wrap64 (x6_1 + x5_1)) ≤ (a0_0.size : Int)) = true := decide_eq_true c13
        replace H := Option.bind_eq_some_iff.mp H
        obtain ⟨t136, A140, H⟩ := H
        replace H : ((find_Index_Count.f a0_0 l0_1 l0_2 t136).bind fun t137 => (some (t136, t137, 0))) = some (r1, r2, r3) := H
        have A14 := Aside0.mk A140
        clear A140
        replace H := Option.bind_eq_some_iff.mp H
        obtain ⟨t137, A150, H⟩ := H
        replace H : (some (t136, t137, 0)) = some (r1, r2, r3) := H
        have A15 := Aside0.mk A150
        clear A150
        simp only [Option.some.injEq, Prod.mk.injEq] at H
        obtain ⟨rfl, rfl, rfl⟩ := H
        have hcz16_0 : wr.cell? ⟨gb133, 0, none⟩ = some (.string a0_0) := (blk_cell BK133.out 0).trans rfl
        have hcz16_1 : wr.cell? ⟨gb133, 1, none⟩ = some (.slice A0_1 l0_1.length c0_1) := (blk_cell BK133.out 1).trans rfl
        have hcz16_2 : wr.cell? ⟨gb133, 2, none⟩ = some (.slice A0_2 l0_2.length c0_2) := (blk_cell BK133.out 2).trans rfl
        have hfz16_0 := blk_frozen BK133.out 0
        have hfz16_1 := blk_frozen BK133.out 1
        have hfz16_2 := blk_frozen BK133.out 2
        go_wp2_with (first | (go_at_call 42; (with_reducible refine (strings_Clone.calls (a0_0.extract (x6_1 : Int).toNat ((wrap64 (x6_1 + x5_1)) : Int).toNat) t136 _ A14.out).mono ?_); rintro e w17 ⟨rfl, hb⟩; have n0_ := Aside0.mk (blk_below (g := gb133) (o := .cells #[.string a0_0, .slice A0_1 l0_1.length c0_1, .slice A0_2 l0_2.length c0_2] 24 (0, 0)) (by (with_reducible repeat (first | refine blk_drewN ?_ _ | refine blk_drew ?_ | refine blk_alloc ?_ _)); exact BK133.out) hb); have n1_ := Aside0.mk (below_step (by repeat (first | (with_reducible first | exact HB.out | apply below_alloc | apply pw_below_drewN | apply below_drew1 | refine below_set ?_ GE133.out) | exact HB.out)) hb); clear BK133; clear HB; have BK133 := n0_; have HB := n1_; clear n0_ n1_; (try clear hb); (try clear hb2); (try clear hk); (try clear hi); have hcz18_0 : w17.cell? ⟨gb133, 0, none⟩ = some (.string a0_0) := (blk_cell BK133.out 0).trans rfl; have hcz18_1 : w17.cell? ⟨gb133, 1, none⟩ = some (.slice A0_1 l0_1.length c0_1) := (blk_cell BK133.out 1).trans rfl; have hcz18_2 : w17.cell? ⟨gb133, 2, none⟩ = some (.slice A0_2 l0_2.length c0_2) := (blk_cell BK133.out 2).trans rfl; have hfz18_0 := blk_frozen BK133.out 0; have hfz18_1 := blk_frozen BK133.out 1; have hfz18_2 := blk_frozen BK133.out 2) | (go_at_call 29; (with_reducible refine (find_Index_Count.calls a0_0 _ _ l0_1 _ _ l0_2 t136 t137 _ ?side1 ?side2 ?side3 ?side4 A15.out).mono ?_); (case side1 => repeat (first | exact (Kd.C_below HR0_1.out HB.out) | (with_reducible refine Kd.C_alloc ?_ _) | (with_reducible refine Kd.C_drewN ?_ _) | (with_reducible refine Kd.C_drew ?_))); (case side2 => exact HC0_1.out); (case side3 => repeat (first | exact (Kd.C_below HR0_2.out HB.out) | (with_reducible refine Kd.C_alloc ?_ _) | (with_reducible refine Kd.C_drewN ?_ _) | (with_reducible refine Kd.C_drew ?_))); (case side4 => exact HC0_2.out); rintro e w19 ⟨rfl, hb⟩; have n0_ := Aside0.mk (blk_below (g := gb133) (o := .cells #[.string a0_0, .slice A0_1 l0_1.length c0_1, .slice A0_2 l0_2.length c0_2] 24 (0, 0)) (by (with_reducible repeat (first | refine blk_drewN ?_ _ | refine blk_drew ?_ | refine blk_alloc ?_ _)); exact BK133.out) hb); have n1_ := Aside0.mk (below_step (by repeat (first | (with_reducible first | exact HB.out | apply below_alloc | apply pw_below_drewN | apply below_drew1 | refine below_set ?_ GE133.out) | exact HB.out)) hb); clear BK133; clear HB; have BK133 := n0_; have HB := n1_; clear n0_ n1_; (try clear hb); (try clear hb2); (try clear hk); (try clear hi)))
        repeat (go_quiet (first | (go_at_call 42; (with_reducible refine (strings_Clone.calls (a0_0.extract (x6_1 : Int).toNat ((wrap64 (x6_1 + x5_1)) : Int).toNat) t136 _ A14.out).mono ?_); rintro e w17 ⟨rfl, hb⟩; have n0_ := Aside0.mk (blk_below (g := gb133) (o := .cells #[.string a0_0, .slice A0_1 l0_1.length c0_1, .slice A0_2 l0_2.length c0_2] 24 (0, 0)) (by (with_reducible repeat (first | refine blk_drewN ?_ _ | refine blk_drew ?_ | refine blk_alloc ?_ _)); exact BK133.out) hb); have n1_ := Aside0.mk (below_step (by repeat (first | (with_reducible first | exact HB.out | apply below_alloc | apply pw_below_drewN | apply below_drew1 | refine below_set ?_ GE133.out) | exact HB.out)) hb); clear BK133; clear HB; have BK133 := n0_; have HB := n1_; clear n0_ n1_; (try clear hb); (try clear hb2); (try clear hk); (try clear hi); have hcz18_0 : w17.cell? ⟨gb133, 0, none⟩ = some (.string a0_0) := (blk_cell BK133.out 0).trans rfl; have hcz18_1 : w17.cell? ⟨gb133, 1, none⟩ = some (.slice A0_1 l0_1.length c0_1) := (blk_cell BK133.out 1).trans rfl; have hcz18_2 : w17.cell? ⟨gb133, 2, none⟩ = some (.slice A0_2 l0_2.length c0_2) := (blk_cell BK133.out 2).trans rfl; have hfz18_0 := blk_frozen BK133.out 0; have hfz18_1 := blk_frozen BK133.out 1; have hfz18_2 := blk_frozen BK133.out 2) | (go_at_call 29; (with_reducible refine (find_Index_Count.calls a0_0 _ _ l0_1 _ _ l0_2 t136 t137 _ ?side1 ?side2 ?side3 ?side4 A15.out).mono ?_); (case side1 => repeat (first | exact (Kd.C_below HR0_1.out HB.out) | (with_reducible refine Kd.C_alloc ?_ _) | (with_reducible refine Kd.C_drewN ?_ _) | (with_reducible refine Kd.C_drew ?_))); (case side2 => exact HC0_1.out); (case side3 => repeat (first | exact (Kd.C_below HR0_2.out HB.out) | (with_reducible refine Kd.C_alloc ?_ _) | (with_reducible refine Kd.C_drewN ?_ _) | (with_reducible refine Kd.C_drew ?_))); (case side4 => exact HC0_2.out); rintro e w19 ⟨rfl, hb⟩; have n0_ := Aside0.mk (blk_below (g := gb133) (o := .cells #[.string a0_0, .slice A0_1 l0_1.length c0_1, .slice A0_2 l0_2.length c0_2] 24 (0, 0)) (by (with_reducible repeat (first | refine blk_drewN ?_ _ | refine blk_drew ?_ | refine blk_alloc ?_ _)); exact BK133.out) hb); have n1_ := Aside0.mk (below_step (by repeat (first | (with_reducible first | exact HB.out | apply below_alloc | apply pw_below_drewN | apply below_drew1 | refine below_set ?_ GE133.out) | exact HB.out)) hb); clear BK133; clear HB; have BK133 := n0_; have HB := n1_; clear n0_ n1_; (try clear hb); (try clear hb2); (try clear hk); (try clear hi))); try go_wp2_with (first | (go_at_call 42; (with_reducible refine (strings_Clone.calls (a0_0.extract (x6_1 : Int).toNat ((wrap64 (x6_1 + x5_1)) : Int).toNat) t136 _ A14.out).mono ?_); rintro e w17 ⟨rfl, hb⟩; have n0_ := Aside0.mk (blk_below (g := gb133) (o := .cells #[.string a0_0, .slice A0_1 l0_1.length c0_1, .slice A0_2 l0_2.length c0_2] 24 (0, 0)) (by (with_reducible repeat (first | refine blk_drewN ?_ _ | refine blk_drew ?_ | refine blk_alloc ?_ _)); exact BK133.out) hb); have n1_ := Aside0.mk (below_step (by repeat (first | (with_reducible first | exact HB.out | apply below_alloc | apply pw_below_drewN | apply below_drew1 | refine below_set ?_ GE133.out) | exact HB.out)) hb); clear BK133; clear HB; have BK133 := n0_; have HB := n1_; clear n0_ n1_; (try clear hb); (try clear hb2); (try clear hk); (try clear hi); have hcz18_0 : w17.cell? ⟨gb133, 0, none⟩ = some (.string a0_0) := (blk_cell BK133.out 0).trans rfl; have hcz18_1 : w17.cell? ⟨gb133, 1, none⟩ = some (.slice A0_1 l0_1.length c0_1) := (blk_cell BK133.out 1).trans rfl; have hcz18_2 : w17.cell? ⟨gb133, 2, none⟩ = some (.slice A0_2 l0_2.length c0_2) := (blk_cell BK133.out 2).trans rfl; have hfz18_0 := blk_frozen BK133.out 0; have hfz18_1 := blk_frozen BK133.out 1; have hfz18_2 := blk_frozen BK133.out 2) | (go_at_call 29; (with_reducible refine (find_Index_Count.calls a0_0 _ _ l0_1 _ _ l0_2 t136 t137 _ ?side1 ?side2 ?side3 ?side4 A15.out).mono ?_); (case side1 => repeat (first | exact (Kd.C_below HR0_1.out HB.out) | (with_reducible refine Kd.C_alloc ?_ _) | (with_reducible refine Kd.C_drewN ?_ _) | (with_reducible refine Kd.C_drew ?_))); (case side2 => exact HC0_1.out); (case side3 => repeat (first | exact (Kd.C_below HR0_2.out HB.out) | (with_reducible refine Kd.C_alloc ?_ _) | (with_reducible refine Kd.C_drewN ?_ _) | (with_reducible refine Kd.C_drew ?_))); (case side4 => exact HC0_2.out); rintro e w19 ⟨rfl, hb⟩; have n0_ := Aside0.mk (blk_below (g := gb133) (o := .cells #[.string a0_0, .slice A0_1 l0_1.length c0_1, .slice A0_2 l0_2.length c0_2] 24 (0, 0)) (by (with_reducible repeat (first | refine blk_drewN ?_ _ | refine blk_drew ?_ | refine blk_alloc ?_ _)); exact BK133.out) hb); have n1_ := Aside0.mk (below_step (by repeat (first | (with_reducible first | exact HB.out | apply below_alloc | apply pw_below_drewN | apply below_drew1 | refine below_set ?_ GE133.out) | exact HB.out)) hb); clear BK133; clear HB; have BK133 := n0_; have HB := n1_; clear n0_ n1_; (try clear hb); (try clear hb2); (try clear hk); (try clear hi))))
        go_ret3
        exact ⟨by first | rfl | (simp [errW_none, errW_some] <;> rfl) | (simp [*, errW_none, errW_some] <;> rfl), by repeat (first | (with_reducible first | exact HB.out | apply below_alloc | apply pw_below_drewN | apply below_drew1 | refine below_set ?_ GE133.out) | exact HB.out)⟩
       ·rw [if_neg c13] at H
        exact absurd H (by simp)
      ·rw [if_neg c12] at H
       exact absurd H (by simp)
     ·rw [if_neg c11] at H
      exact absurd H (by simp)

end Go.Proofs.Ytppelnlocfcgfaa.P
namespace Go.Proofs.Ytppelnlocfcgfaa.P
open Go.RowKit Go.Proofs.YtppelnlocfcgfaaW.PrintWords Go.Proofs.YtppelnlocfcgfaaW.PrintLast Go.Proofs.YtppelnlocfcgfaaW.PrintMore
open Go.Proofs.Fnd
theorem find_New_ev (t : ByteArray) (ht : t.size ≤ 4096) : Ev (fun k => find_New.f k t) (t, ordI t, overI t, 0) := by
  obtain ⟨k, hk⟩ := find_New_is t ht
  exact Ev.of (find_New.mono t) hk
theorem overI_length (t : ByteArray) : (overI t).length = t.size := by
  rw [overI, List.length_map, overL, List.length_map, List.length_range]; exact data_length t
theorem rd_overI (t : ByteArray) (k : Nat) (h : k < t.size) : rd (overI t) (k : Int) = (((overL t.data.toList).getD k 0 : Nat) : Int) := by
  have h1 : k < (overL t.data.toList).length := by rw [overL, List.length_map, List.length_range, data_length t]; exact h
  simp only [rd, overI, Int.toNat_natCast, List.getD_eq_getElem?_getD, List.getElem?_map, List.getElem?_eq_getElem h1]
  rfl
theorem below_le (s p : List UInt8) : below s p ≤ s.length := by
  unfold below
  have := List.countP_le_length (p := fun i => decide (beginning s p.length i < p)) (l := List.range s.length)
  rwa [List.length_range] at this
theorem upto_le (s p : List UInt8) : upto s p ≤ s.length := by
  unfold upto
  have := List.countP_le_length (p := fun i => !decide (p < beginning s p.length i)) (l := List.range s.length)
  rwa [List.length_range] at this
/-- how often a pattern occurs -/
theorem count_is (t p : ByteArray) (ht : t.size ≤ 4096) (hp : p.size ≤ 140737488351232) : find_Index_Count.f t (ordI t) (overI t) p = some ((upto t.data.toList p.data.toList : Int) - (below t.data.toList p.data.toList : Int)) := by
  unfold find_Index_Count.f find_Index_span.f
  rw [if_pos ⟨ht, hp, rfl⟩]
  simp only [Option.bind_some]
  have h1 := below_le t.data.toList p.data.toList
  have h2 := upto_le t.data.toList p.data.toList
  rw [data_length t] at h1 h2
  rw [w64 (by omega) (by omega)]
/-- the greatest overlap so far, and where -/
def bestOf (o v : List Nat) : Nat → Nat × Nat
  | 0 => (0, 0)
  | k + 1 => if (bestOf o v k).1 < v.getD k 0 then (v.getD k 0, o.getD k 0) else bestOf o v k
/-- what Repeat answers -/
def repeatA (t : ByteArray) : ByteArray × Int × Int :=
  let b := bestOf (sufOrd t.data.toList) (overL t.data.toList) t.size
  if b.1 = 0 then ((⟨#[]⟩ : ByteArray), 0, 6) else (t.extract b.2 (b.2 + b.1), (upto t.data.toList (t.extract b.2 (b.2 + b.1)).data.toList : Int) - (below t.data.toList (t.extract b.2 (b.2 + b.1)).data.toList : Int), 0)
theorem overL_at (s : List UInt8) (k : Nat) (h : k < s.length) : (overL s).getD k 0 = if k = 0 then 0 else lcp s ((sufOrd s).getD (k - 1) 0) ((sufOrd s).getD k 0) := by
  rw [List.getD_eq_getElem?_getD, overL, List.getElem?_map, List.getElem?_range h]; rfl
theorem over_is (s : List UInt8) (k : Nat) (h : k < s.length) (h0 : k ≠ 0) : IsLcp s ((sufOrd s).getD (k - 1) 0) ((sufOrd s).getD k 0) ((overL s).getD k 0) := by
  rw [overL_at s k h, if_neg h0]
  have h3 := ord_lt s k h
  have h4 := ord_lt s (k - 1) (by omega)
  exact lcp_is s _ _ (by omega) (by omega) (fun e => by have := ord_inj s (by omega) h e; omega)
theorem over_in (s : List UInt8) (k : Nat) (h : k < s.length) : (sufOrd s).getD k 0 + (overL s).getD k 0 ≤ s.length := by
  have h3 := ord_lt s k h
  by_cases h0 : k = 0
  · rw [overL_at s k h, if_pos h0]; omega
  · have h4 := ord_lt s (k - 1) (by omega)
    exact ((over_is s k h h0).inside (by omega) (by omega) (fun e => by have := ord_inj s (by omega) h e; omega)).2
theorem best_in (t : ByteArray) (k : Nat) (hk : k ≤ t.size) : (bestOf (sufOrd t.data.toList) (overL t.data.toList) k).2 + (bestOf (sufOrd t.data.toList) (overL t.data.toList) k).1 ≤ t.size := by
  induction k with
  | zero => simp [bestOf]
  | succ k ih =>
    unfold bestOf
    split
    · have hl := data_length t
      have := over_in t.data.toList k (by omega)
      omega
    · exact ih (by omega)
theorem repeat_l0 (t : ByteArray) (ht : t.size ≤ 4096) : ∀ (d k : Nat), k + d = t.size → Ev (fun K => find_Index_Repeat.l0 K ((bestOf (sufOrd t.data.toList) (overL t.data.toList) k).1 : Int) ((bestOf (sufOrd t.data.toList) (overL t.data.toList) k).2 : Int) (overI t) (t.size : Int) (k : Int) t (ordI t) (overI t)) (repeatA t) := by
  have hl := data_length t
  intro d
  induction d with
  | zero =>
    intro k hk
    obtain rfl : k = t.size := by omega
    refine Ev.step (f := fun _ => some (repeatA t)) (fun K => ?_) (Ev.now _)
    have hb := best_in t t.size (Nat.le_refl _)
    unfold find_Index_Repeat.l0 repeatA
    generalize bestOf (sufOrd t.data.toList) (overL t.data.toList) t.size = b at *
    rw [if_neg (by omega)]
    by_cases h0 : b.1 = 0
    · rw [if_pos (by omega)]; simp [h0]
    · rw [if_neg (by omega), if_pos (by omega), w64 (by omega) (by omega), if_pos (by omega), if_pos (by omega)]
      rw [show ((b.2 : Int)).toNat = b.2 by omega, show ((b.2 : Int) + (b.1 : Int)).toNat = b.2 + b.1 by omega]
      have hps : (t.extract b.2 (b.2 + b.1)).size ≤ 4096 := by simp only [ByteArray.size_extract]; omega
      unfold strings_Clone.f
      rw [if_pos (by omega)]
      simp only [Option.bind_some]
      rw [count_is t _ ht (by omega)]
      simp [h0]
  | succ d ih =>
    intro k hk
    have h := ih (k + 1) (by omega)
    refine Ev.step (fun K => ?_) h
    have h1 := rd_overI t k (by omega)
    have h2 := rd_ordI t k (by omega)
    have h3 := overI_length t
    have h4 := ordI_length t
    conv => lhs; unfold find_Index_Repeat.l0
    rw [if_pos (by omega), if_pos (by omega), if_pos (by omega), w64 (by omega) (by omega), h1, h2]
    by_cases hb : (bestOf (sufOrd t.data.toList) (overL t.data.toList) k).1 < (overL t.data.toList).getD k 0
    · rw [if_pos (by omega), if_pos (by omega)]
      have e : bestOf (sufOrd t.data.toList) (overL t.data.toList) (k + 1) = ((overL t.data.toList).getD k 0, (sufOrd t.data.toList).getD k 0) := by rw [bestOf, if_pos hb]
      rw [e]; rfl
    · rw [if_neg (by omega)]
      have e : bestOf (sufOrd t.data.toList) (overL t.data.toList) (k + 1) = bestOf (sufOrd t.data.toList) (overL t.data.toList) k := by rw [bestOf, if_neg hb]
      rw [e]; rfl
theorem repeat_ev (t : ByteArray) (ht : t.size ≤ 4096) : Ev (fun K => find_Index_Repeat.f K t (ordI t) (overI t)) (repeatA t) := by
  have := repeat_l0 t ht t.size 0 (by omega)
  refine Ev.congr (fun K => ?_) this
  unfold find_Index_Repeat.f
  rw [overI_length]; rfl
/-- the first overlaps' sum -/
def sumTo (v : List Nat) : Nat → Nat
  | 0 => 0
  | k + 1 => sumTo v k + v.getD k 0
theorem sumTo_le (t : ByteArray) (k : Nat) (hk : k ≤ t.size) : sumTo (overL t.data.toList) k ≤ k * t.size := by
  induction k with
  | zero => simp [sumTo]
  | succ k ih =>
    have hl := data_length t
    have := over_in t.data.toList k (by omega)
    have := ih (by omega)
    unfold sumTo
    rw [Nat.succ_mul]; omega
/-- what Distinct answers -/
def distinctA (t : ByteArray) : Int := ((t.size * (t.size + 1) / 2 : Nat) : Int) - (sumTo (overL t.data.toList) t.size : Int)
theorem distinct_l0 (t : ByteArray) (ht : t.size ≤ 4096) : ∀ (d k : Nat), k + d = t.size → Ev (fun K => find_Index_Distinct.l0 K (((t.size * (t.size + 1) / 2 : Nat) : Int) - (sumTo (overL t.data.toList) k : Int)) (overI t) (t.size : Int) (k : Int)) (distinctA t) := by
  have hl := data_length t
  have hsq : t.size * (t.size + 1) / 2 ≤ 16777216 := by
    have : t.size * (t.size + 1) ≤ 4096 * 4097 := Nat.mul_le_mul ht (by omega)
    omega
  intro d
  induction d with
  | zero =>
    intro k hk
    obtain rfl : k = t.size := by omega
    refine Ev.step (f := fun _ => some (distinctA t)) (fun K => ?_) (Ev.now _)
    unfold find_Index_Distinct.l0
    rw [if_neg (by omega)]; rfl
  | succ d ih =>
    intro k hk
    have h := ih (k + 1) (by omega)
    refine Ev.step (fun K => ?_) h
    have h1 := rd_overI t k (by omega)
    have h3 := overI_length t
    have h5 := sumTo_le t k (by omega)
    have h6 : k * t.size ≤ 4096 * 4096 := Nat.mul_le_mul (by omega) ht
    have h7 := over_in t.data.toList k (by omega)
    conv => lhs; unfold find_Index_Distinct.l0
    rw [if_pos (by omega), if_pos (by omega), if_pos (by omega), h1, w64 (x := (k : Int) + 1) (by omega) (by omega), w64 (by omega) (by omega)]
    have e : ((t.size * (t.size + 1) / 2 : Nat) : Int) - (sumTo (overL t.data.toList) k : Int) - ((overL t.data.toList).getD k 0 : Int) = ((t.size * (t.size + 1) / 2 : Nat) : Int) - (sumTo (overL t.data.toList) (k + 1) : Int) := by rw [sumTo]; push_cast; omega
    rw [e]; rfl
theorem distinct_ev (t : ByteArray) (ht : t.size ≤ 4096) : Ev (fun K => find_Index_Distinct.f K t (ordI t) (overI t)) (distinctA t) := by
  have := distinct_l0 t ht t.size 0 (by omega)
  refine Ev.congr (fun K => ?_) this
  unfold find_Index_Distinct.f
  have hsq : t.size * (t.size + 1) ≤ 4096 * 4097 := Nat.mul_le_mul ht (by omega)
  have hc : (t.size : Int) * ((t.size : Int) + 1) = ((t.size * (t.size + 1) : Nat) : Int) := by push_cast; rfl
  rw [overI_length, w64 (x := (t.size : Int) + 1) (by omega) (by omega), hc, w64 (x := ((t.size * (t.size + 1) : Nat) : Int)) (by omega) (by omega)]
  have ht2 : Int.tdiv ((t.size * (t.size + 1) : Nat) : Int) 2 = ((t.size * (t.size + 1) / 2 : Nat) : Int) := by
    rw [Int.tdiv_eq_ediv_of_nonneg (by omega)]; omega
  rw [ht2, w64 (by omega) (by omega)]
  simp [sumTo]
theorem sufOrd_banana : sufOrd [98, 97, 110, 97, 110, 97] = [5, 3, 1, 0, 4, 2] := (IsOrd.eq ⟨by decide, by decide⟩).symm
theorem overL_banana : overL [98, 97, 110, 97, 110, 97] = [0, 1, 3, 0, 0, 2] := by
  unfold overL
  rw [sufOrd_banana]
  decide
theorem repeat_banana : repeatA (⟨#[98, 97, 110, 97, 110, 97]⟩ : ByteArray) = ((⟨#[97, 110, 97]⟩ : ByteArray), 2, 0) := by
  unfold repeatA
  rw [show (⟨#[98, 97, 110, 97, 110, 97]⟩ : ByteArray).data.toList = [98, 97, 110, 97, 110, 97] from rfl, sufOrd_banana, overL_banana]
  decide
theorem distinct_banana : distinctA (⟨#[98, 97, 110, 97, 110, 97]⟩ : ByteArray) = 15 := by
  unfold distinctA
  rw [show (⟨#[98, 97, 110, 97, 110, 97]⟩ : ByteArray).data.toList = [98, 97, 110, 97, 110, 97] from rfl, overL_banana]
  decide
/-- how long two texts run alike -/
def cpl : List UInt8 → List UInt8 → Nat
  | a :: x, b :: y => if a = b then cpl x y + 1 else 0
  | [], _ => 0
  | _ :: _, [] => 0
theorem cpl_of : ∀ (m : Nat) (x y : List UInt8), (∀ t, t < m → ch x t = ch y t) → ch x m ≠ ch y m → cpl x y = m
  | 0, [], [], _, h => absurd rfl h
  | 0, [], b :: y, _, _ => rfl
  | 0, a :: x, [], _, _ => rfl
  | 0, a :: x, b :: y, _, h => by
    rw [ch_cons_zero, ch_cons_zero] at h
    rw [cpl, if_neg (fun e => h (by rw [e]))]
  | m + 1, [], [], _, h => absurd rfl h
  | m + 1, [], b :: y, h1, _ => by have := h1 0 (by omega); rw [ch_cons_zero, ch_nil] at this; omega
  | m + 1, a :: x, [], h1, _ => by have := h1 0 (by omega); rw [ch_cons_zero, ch_nil] at this; omega
  | m + 1, a :: x, b :: y, h1, h => by
    have h0 := h1 0 (by omega)
    rw [ch_cons_zero, ch_cons_zero] at h0
    have e : a = b := UInt8.toNat_inj.1 (by omega)
    rw [ch_cons_succ, ch_cons_succ] at h
    rw [cpl, if_pos e, cpl_of m x y (fun t ht => by have := h1 (t + 1) (by omega); rwa [ch_cons_succ, ch_cons_succ] at this) h]
theorem cpl_lcp {s : List UInt8} {a b m : Nat} (h : IsLcp s a b m) : cpl (s.drop a) (s.drop b) = m :=
  cpl_of m _ _ (fun t ht => by rw [ch_drop, ch_drop]; exact h.same t ht) (by rw [ch_drop, ch_drop]; exact h.diff)
theorem cpl_le (x y : List UInt8) : cpl x y ≤ x.length ∧ cpl x y ≤ y.length := by
  induction x generalizing y with
  | nil => simp [cpl]
  | cons a x ih =>
    cases y with
    | nil => simp [cpl]
    | cons b y =>
      have := ih y
      unfold cpl
      split <;> simp <;> omega
theorem bt_nth (t : ByteArray) (i : Nat) (h : i < t.size) : bt t i = ((t.data.toList[i]'(by rw [data_length t]; exact h)).toNat : Int) := by
  have hl : t.data.toList.length = t.size := data_length t
  rw [bt_ch t i h, ch_lt _ _ (by omega)]
  simp
theorem common_l0 (x y : ByteArray) (hx : x.size ≤ 1000000) (hy : y.size ≤ 1000000) (i k : Nat) (hi : i ≤ x.size) (hk : k ≤ y.size) :
    ∀ (d n : Nat), i + n + d = x.size → k + n ≤ y.size → Ev (fun K => silversideref07_Common.l0 K x i y k n) ((n + cpl (x.data.toList.drop (i + n)) (y.data.toList.drop (k + n)) : Nat) : Int) := by
  have hlx := data_length x
  have hly := data_length y
  intro d
  induction d with
  | zero =>
    intro n hd hn
    refine Ev.step (f := fun _ => some (((n + cpl (x.data.toList.drop (i + n)) (y.data.toList.drop (k + n)) : Nat) : Int))) (fun K => ?_) (Ev.now _)
    rw [silversideref07_Common.l0, w64 (by omega) (by omega), if_neg (by omega), List.drop_eq_nil_of_le (by omega)]
    simp [cpl]
  | succ d ih =>
    intro n hd hn
    by_cases h1 : k + n < y.size
    · have e1 : x.data.toList.drop (i + n) = x.data.toList[i + n] :: x.data.toList.drop (i + (n + 1)) := (List.drop_eq_getElem_cons (by omega))
      have e2 : y.data.toList.drop (k + n) = y.data.toList[k + n] :: y.data.toList.drop (k + (n + 1)) := (List.drop_eq_getElem_cons (by omega))
      have b1 := bt_nth x (i + n) (by omega)
      have b2 := bt_nth y (k + n) (by omega)
      push_cast at b1 b2
      by_cases hc : x.data.toList[i + n] = y.data.toList[k + n]
      · have h := ih (n + 1) (by omega) (by omega)
        rw [e1, e2, cpl, if_pos hc, show n + (cpl (x.data.toList.drop (i + (n + 1))) (y.data.toList.drop (k + (n + 1))) + 1) = n + 1 + cpl (x.data.toList.drop (i + (n + 1))) (y.data.toList.drop (k + (n + 1))) by omega]
        refine Ev.step (fun K => ?_) h
        conv => lhs; unfold silversideref07_Common.l0
        rw [w64 (x := (i : Int) + n) (by omega) (by omega), w64 (x := (k : Int) + n) (by omega) (by omega), w64 (x := (n : Int) + 1) (by omega) (by omega), if_pos (by omega), if_pos (by omega), if_pos (by omega), if_pos (by omega), b1, b2, hc, if_pos rfl]
        rfl
      · rw [e1, e2, cpl, if_neg hc]
        refine Ev.step (f := fun _ => some (((n + 0 : Nat) : Int))) (fun K => ?_) (Ev.now _)
        conv => lhs; unfold silversideref07_Common.l0
        rw [w64 (x := (i : Int) + n) (by omega) (by omega), w64 (x := (k : Int) + n) (by omega) (by omega), if_pos (by omega), if_pos (by omega), if_pos (by omega), if_pos (by omega), b1, b2, if_neg (fun e => hc (UInt8.toNat_inj.1 (by omega)))]
        simp
    · rw [show y.data.toList.drop (k + n) = [] from List.drop_eq_nil_of_le (by omega)]
      have e0 : cpl (x.data.toList.drop (i + n)) [] = 0 := by cases x.data.toList.drop (i + n) <;> rfl
      rw [e0]
      refine Ev.step (f := fun _ => some (((n + 0 : Nat) : Int))) (fun K => ?_) (Ev.now _)
      conv => lhs; unfold silversideref07_Common.l0
      rw [w64 (x := (i : Int) + n) (by omega) (by omega), w64 (x := (k : Int) + n) (by omega) (by omega), if_pos (by omega), if_neg (by omega)]
      simp
theorem common_ev (x y : ByteArray) (hx : x.size ≤ 1000000) (hy : y.size ≤ 1000000) (i k : Nat) (hi : i ≤ x.size) (hk : k ≤ y.size) :
    Ev (fun K => silversideref07_Common.f K x i y k) ((cpl (x.data.toList.drop i) (y.data.toList.drop k) : Nat) : Int) := by
  have := common_l0 x y hx hy i k hi hk (x.size - i) 0 (by omega) (by omega)
  simpa [silversideref07_Common.f] using this
theorem less_ev (t : ByteArray) (ht : t.size ≤ 1000000) (i k : Nat) (hi : i < t.size) (hk : k < t.size) (hne : i ≠ k) :
    Ev (fun K => silversideref07_less.f K t i k) (decide (LtW (t.size + 1) (sq t.data.toList i) (sq t.data.toList k))) := by
  have hl := data_length t
  have hm := lcp_is t.data.toList i k (by omega) (by omega) hne
  have hin := hm.inside (by omega) (by omega) hne
  have hc := cpl_lcp hm
  generalize lcp t.data.toList i k = m at *
  have hco := common_ev t t ht ht i k (by omega) (by omega)
  rw [hc] at hco
  unfold silversideref07_less.f
  refine Ev.bind hco ?_
  rw [w64 (x := (i : Int) + m) (by omega) (by omega), w64 (x := (k : Int) + m) (by omega) (by omega)]
  have hw : LtW (t.size + 1) (sq t.data.toList i) (sq t.data.toList k) ↔ ch t.data.toList (i + m) < ch t.data.toList (k + m) := by
    constructor
    · rintro ⟨q, h1, h2, h3⟩
      rcases Nat.lt_trichotomy q m with c | c | c
      · have := hm.same q c; omega
      · subst c; exact h3
      · exact absurd (h2 m c) hm.diff
    · intro h
      exact ⟨m, by omega, hm.same, h⟩
  have hd := hm.diff
  unfold sq at hd
  by_cases h1 : i + m = t.size
  · rw [if_pos (by omega)]
    have z1 := ch_ge t.data.toList (i + m) (by omega)
    have : decide ((i : Int) > (k : Int)) = decide (LtW (t.size + 1) (sq t.data.toList i) (sq t.data.toList k)) := by
      rw [decide_eq_decide, hw]
      have := (ch_zero t.data.toList (k + m))
      omega
    rw [this]; exact Ev.now _
  · by_cases h2 : k + m = t.size
    · rw [if_neg (by omega), if_pos (by omega)]
      have z1 := ch_ge t.data.toList (k + m) (by omega)
      have : decide ((i : Int) > (k : Int)) = decide (LtW (t.size + 1) (sq t.data.toList i) (sq t.data.toList k)) := by
        rw [decide_eq_decide, hw]
        omega
      rw [this]; exact Ev.now _
    · rw [if_neg (by omega), if_neg (by omega), if_pos (by omega), if_pos (by omega), if_pos (by omega), if_pos (by omega)]
      have b1 := bt_ch t (i + m) (by omega)
      have b2 := bt_ch t (k + m) (by omega)
      push_cast at b1 b2
      have : decide (bt t ((i : Int) + m) < bt t ((k : Int) + m)) = decide (LtW (t.size + 1) (sq t.data.toList i) (sq t.data.toList k)) := by
        rw [decide_eq_decide, hw, b1, b2]
        omega
      rw [this]; exact Ev.now _
end Go.Proofs.Ytppelnlocfcgfaa.P
