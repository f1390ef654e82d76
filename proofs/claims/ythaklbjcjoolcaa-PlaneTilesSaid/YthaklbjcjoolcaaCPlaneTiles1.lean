/- Proved here: what functions that the law reaches compute, and plain laws of that. Put together by a program; a part was printed by one (wip/printplus.py). -/
import Derived.Test.YthaklbjcjoolcaaBPlaneTiles1
import Derived.Ground.Names2Prog
import Derived.Shelf.Slices.Delete
import Derived.Test.YthaklbjcjoolcaaProg
import Derived.Test.YthaklbjcjoolcaaBPlaneTiles2
import Derived.Test.YthaklbjcjoolcaaBPlaneTiles4
import Derived.Test.YthaklbjcjoolcaaBPlaneTiles3
import Derived.Outline
import Derived.Deep.DeepMust
import Derived.Laws.EntriesVeiled
import Derived.BigRegion
import Derived.BigQuiet
set_option linter.unusedVariables false
set_option linter.unusedSimpArgs false
namespace Go.Proofs.Ythaklbjcjoolcaa.P
open Go.RowKit YthaklbjcjoolcaaW.PrintWords YthaklbjcjoolcaaW.PrintLast YthaklbjcjoolcaaW.PrintMore
section
variable {P : Program} {ops : Array Oper} {Q : Exit → Act → World → Prop} {md : Region.Mode} {S : World → Prop} {ds : List Nat}
abbrev Bx (W : World) (g : Nat) (x y : Int) : Prop := W.heap[g]? = some (.cells #[.int .i64 x, .int .i64 y] 31 (0, 0))
abbrev pq (g : Nat) : Value := .pointer (some ⟨g, 0, none⟩)
theorem act_comm (a : Act) {m n : Nat} (h : m ≠ n) (u v : Value) : (a.put (some m) u).put (some n) v = (a.put (some n) v).put (some m) u := by
 show ({ a with tmps := (a.tmps.setIfInBounds m u).setIfInBounds n v } : Act) = { a with tmps := (a.tmps.setIfInBounds n v).setIfInBounds m u }
 rw [Array.setIfInBounds_comm _ _ h]
def MkB (P : Program) (ops : Array Oper) (oi : Oper) (ob : Obj) : Prop := ∀ (a : Act) (W : World), Region.wanted oi (yielded ops a.tmps) = true ∧ (execOp a.eval oi).run P W = .ok (.value (pq W.heap.size)) (W.alloc ob)
theorem mk_step {oi : Oper} {ob : Obj} {a : Act} {W : World} {N : Nat} {K : Act → World → Prop} (m : MkB P ops oi ob) (hN : oi.dst = some N) (h : K (a.put (some N) (pq W.heap.size)) (W.alloc ob)) : if Region.wanted oi (yielded ops a.tmps) = true then Oper.wp P oi a W K Q else K (a.put (some N) undef) W := by
 rw [← hN] at h ⊢
 exact event_step (m a W).1 (m a W).2 h
theorem boxes3 {i j k : Nat} {Ni Nj Nk : Nat} {oi oj ok : Oper} {ob : Obj} {fuel : Nat} {l : Array Bool} {a : Act} {w : World} (li lj lk lij lik ljk l' : Array Bool)
  (hi : ops[i]? = some oi) (hj : ops[j]? = some oj) (hk : ops[k]? = some ok) (hNi : oi.dst = some Ni) (hNj : oj.dst = some Nj) (hNk : ok.dst = some Nk) (mi : MkB P ops oi ob) (mj : MkB P ops oj ob) (mk : MkB P ops ok ob)
  (c3 : (Region.ready md ops l == [i, j, k] && l.setIfInBounds i true == li && l.setIfInBounds j true == lj && l.setIfInBounds k true == lk) = true)
  (ci : (Region.ready md ops li == [j, k] && li.setIfInBounds j true == lij && li.setIfInBounds k true == lik) = true)
  (cj : (Region.ready md ops lj == [i, k] && lj.setIfInBounds i true == lij && lj.setIfInBounds k true == ljk) = true)
  (ck : (Region.ready md ops lk == [i, j] && lk.setIfInBounds i true == lik && lk.setIfInBounds j true == ljk) = true)
  (cij : readyB md ops lij l' k = true) (cik : readyB md ops lik l' j = true) (cjk : readyB md ops ljk l' i = true)
  (di : i ∉ ds) (dj : j ∉ ds) (dk : k ∉ ds) (nij : Ni ≠ Nj) (nik : Ni ≠ Nk) (njk : Nj ≠ Nk) (hSa : ∀ W, S W → S (W.alloc ob)) (hS : S w)
  (h : ∀ g1 g2 g3 w', S w' → w'.heap[g1]? = some ob → w'.heap[g2]? = some ob → w'.heap[g3]? = some ob → w.heap.size ≤ g1 → w.heap.size ≤ g2 → w.heap.size ≤ g3 → g1 ≠ g2 → g1 ≠ g3 → g2 ≠ g3 → Below w.heap.size w w' →
   wpAnyLast P md ops Q S ds fuel l' (((a.put (some Ni) (pq g1)).put (some Nj) (pq g2)).put (some Nk) (pq g3)) w') : wpAnyLast P md ops Q S ds (fuel + 3) l a w := by
 obtain ⟨n, hn⟩ : ∃ n, n = w.heap.size := ⟨_, rfl⟩
 have s1 : (w.alloc ob).heap.size = n + 1 := by simp [hn]
 have s2 : ((w.alloc ob).alloc ob).heap.size = n + 2 := by simp [hn]
 have b3 : Below w.heap.size w (((w.alloc ob).alloc ob).alloc ob) := below_alloc (below_alloc (below_alloc (Below.refl _ _) _) _) _
 have k1 : (((w.alloc ob).alloc ob).alloc ob).heap[n]? = some ob := by
  rw [(MapKept.heap_alloc _ ob).2 n (by omega), (MapKept.heap_alloc _ ob).2 n (by omega), hn]; exact (MapKept.heap_alloc w ob).1
 have k2 : (((w.alloc ob).alloc ob).alloc ob).heap[n + 1]? = some ob := by
  rw [(MapKept.heap_alloc _ ob).2 (n + 1) (by omega), ← s1]; exact (MapKept.heap_alloc _ ob).1
 have k3 : (((w.alloc ob).alloc ob).alloc ob).heap[n + 2]? = some ob := by
  rw [← s2]; exact (MapKept.heap_alloc _ ob).1
 have h1 := hSa _ hS; have h2 := hSa _ h1; have h3 := hSa _ h2
 have key : ∀ x y z, (x = n ∨ x = n + 1 ∨ x = n + 2) → (y = n ∨ y = n + 1 ∨ y = n + 2) → (z = n ∨ z = n + 1 ∨ z = n + 2) → x ≠ y → x ≠ z → y ≠ z → wpAnyLast P md ops Q S ds fuel l' (((a.put (some Ni) (pq x)).put (some Nj) (pq y)).put (some Nk) (pq z)) (((w.alloc ob).alloc ob).alloc ob) := by
  intro x y z hx hy hz e1 e2 e3
  have kk : ∀ u, (u = n ∨ u = n + 1 ∨ u = n + 2) → (((w.alloc ob).alloc ob).alloc ob).heap[u]? = some ob := by
   rintro u (rfl | rfl | rfl)
   ·exact k1
   ·exact k2
   ·exact k3
  exact h x y z _ h3 (kk x hx) (kk y hy) (kk z hz) (by omega) (by omega) (by omega) e1 e2 e3 b3
 refine three_ (i := i) (j := j) (k := k) (Ni := some Ni) (Nj := some Nj) (Nk := some Nk) li lj lk hi hj hk hNi hNj hNk c3 di dj dk (fun K hK => ?_) (fun K hK => ?_) (fun K hK => ?_)
 ·refine mk_step mi hNi (hK.out _ _ h1 (fun _ => ?_)); rw [← hn]
  refine two_ (i := j) (j := k) (Ni := some Nj) (Nj := some Nk) lij lik hj hk hNj hNk ci dj dk (fun K hK => ?_) (fun K hK => ?_)
  ·refine mk_step mj hNj (hK.out _ _ h2 (fun _ => ?_)); rw [s1]
   refine one_ (i := k) (N := some Nk) l' hk hNk cij dk (fun K hK => ?_)
   refine mk_step mk hNk (hK.out _ _ h3 (fun _ => ?_)); rw [s2]
   exact key n (n + 1) (n + 2) (by omega) (by omega) (by omega) (by omega) (by omega) (by omega)
  ·refine mk_step mk hNk (hK.out _ _ h2 (fun _ => ?_)); rw [s1]
   refine one_ (i := j) (N := some Nj) l' hj hNj cik dj (fun K hK => ?_)
   refine mk_step mj hNj (hK.out _ _ h3 (fun _ => ?_)); rw [s2, act_comm _ (Ne.symm njk)]
   exact key n (n + 2) (n + 1) (by omega) (by omega) (by omega) (by omega) (by omega) (by omega)
 ·refine mk_step mj hNj (hK.out _ _ h1 (fun _ => ?_)); rw [← hn]
  refine two_ (i := i) (j := k) (Ni := some Ni) (Nj := some Nk) lij ljk hi hk hNi hNk cj di dk (fun K hK => ?_) (fun K hK => ?_)
  ·refine mk_step mi hNi (hK.out _ _ h2 (fun _ => ?_)); rw [s1]
   refine one_ (i := k) (N := some Nk) l' hk hNk cij dk (fun K hK => ?_)
   refine mk_step mk hNk (hK.out _ _ h3 (fun _ => ?_)); rw [s2, act_comm a (Ne.symm nij)]
   exact key (n + 1) n (n + 2) (by omega) (by omega) (by omega) (by omega) (by omega) (by omega)
  ·refine mk_step mk hNk (hK.out _ _ h2 (fun _ => ?_)); rw [s1]
   refine one_ (i := i) (N := some Ni) l' hi hNi cjk di (fun K hK => ?_)
   refine mk_step mi hNi (hK.out _ _ h3 (fun _ => ?_)); rw [s2, act_comm _ (Ne.symm nik), act_comm a (Ne.symm nij)]
   exact key (n + 2) n (n + 1) (by omega) (by omega) (by omega) (by omega) (by omega) (by omega)
 ·refine mk_step mk hNk (hK.out _ _ h1 (fun _ => ?_)); rw [← hn]
  refine two_ (i := i) (j := j) (Ni := some Ni) (Nj := some Nj) lik ljk hi hj hNi hNj ck di dj (fun K hK => ?_) (fun K hK => ?_)
  ·refine mk_step mi hNi (hK.out _ _ h2 (fun _ => ?_)); rw [s1]
   refine one_ (i := j) (N := some Nj) l' hj hNj cik dj (fun K hK => ?_)
   refine mk_step mj hNj (hK.out _ _ h3 (fun _ => ?_)); rw [s2, act_comm a (Ne.symm nik), act_comm _ (Ne.symm njk)]
   exact key (n + 1) (n + 2) n (by omega) (by omega) (by omega) (by omega) (by omega) (by omega)
  ·refine mk_step mj hNj (hK.out _ _ h2 (fun _ => ?_)); rw [s1]
   refine one_ (i := i) (N := some Ni) l' hi hNi cjk di (fun K hK => ?_)
   refine mk_step mi hNi (hK.out _ _ h3 (fun _ => ?_)); rw [s2, act_comm _ (Ne.symm nij), act_comm a (Ne.symm nik), act_comm _ (Ne.symm njk)]
   exact key (n + 2) (n + 1) n (by omega) (by omega) (by omega) (by omega) (by omega) (by omega)
structure Wr (W W1 : World) (g : Nat) (x y : Int) : Prop where
 box : Bx W1 g x y
 far : ∀ b, b ≠ g → W1.heap[b]? = W.heap[b]?
 size : W1.heap.size = W.heap.size
 os : W1.os = W.os
 tape : W1.tape = W.tape
 output : W1.output = W.output
theorem Wr.below {w W W1 : World} {g : Nat} {x y : Int} (h : Wr W W1 g x y) (hb : Below w.heap.size w W) (hg : w.heap.size ≤ g) : Below w.heap.size w W1 :=
 ⟨h.os.trans hb.os, h.tape.trans hb.tape, h.output.trans hb.output, by rw [h.size]; exact hb.size, fun b hlt => (h.far b (by omega)).trans (hb.block b hlt)⟩
theorem Wr.bx {W W1 : World} {g g' : Nat} {x y u v : Int} (h : Wr W W1 g x y) (n : g' ≠ g) (k : Bx W g' u v) : Bx W1 g' u v := (h.far g' n).trans k
theorem wr_mk {W : World} {g : Nat} {x0 y0 x y : Int} (h : Bx W g x0 y0) : Wr W ((W.setCell ⟨g, 0, none⟩ (.int .i64 x)).setCell ⟨g, 1, none⟩ (.int .i64 y)) g x y := by
 have h1 := blk_put (cs' := #[.int .i64 x, .int .i64 y0]) h 0 (.int .i64 x) rfl
 have h2 := blk_put (cs' := #[.int .i64 x, .int .i64 y]) h1 1 (.int .i64 y) rfl
 have b2 := Below.setCell (Below.setCell (Below.refl 0 W) (p := ⟨g, 0, none⟩) (Nat.zero_le g) (.int .i64 x)) (p := ⟨g, 1, none⟩) (Nat.zero_le g) (.int .i64 y)
 refine ⟨h2, fun b hb => (Below.heap_setCell _ ⟨g, 1, none⟩ _ b hb).trans (Below.heap_setCell _ ⟨g, 0, none⟩ _ b hb), by simp, b2.os, b2.tape, b2.output⟩
theorem store_run {o : Oper} {ev : Operand → Value} {W : World} {p v : Operand} {g : Nat} {x0 y0 x y : Int} (hop : o.op = .store 31 p v) (hp : ev p = pq g) (hv : ev v = .agg #[.int .i64 x, .int .i64 y]) (hb : Bx W g x0 y0) :
  (execOp ev o).run Try.prog W = .ok .skip ((W.setCell ⟨g, 0, none⟩ (.int .i64 x)).setCell ⟨g, 1, none⟩ (.int .i64 y)) := by
 have hu31 := Try.underlying31
 have c0 : W.cell? ⟨g, 0, none⟩ = some (.int .i64 x0) := (blk_cell hb 0).trans rfl
 have c1 : W.cell? ⟨g, 1, none⟩ = some (.int .i64 y0) := (blk_cell hb 1).trans rfl
 have f0 := blk_frozen hb 0
 have f1 := blk_frozen hb 1
 go_simp
theorem st_step {ops : Array Oper} {Q : Exit → Act → World → Prop} {o : Oper} {a : Act} {K : Act → World → Prop} {W : World} {p v : Operand} {g : Nat} {x0 y0 x y : Int} (hb : Bx W g x0 y0)
  (h : ∀ W1, Wr W W1 g x y → K a W1) (hop : o.op = .store 31 p v := by rfl) (hN : o.dst = none := by rfl) (hw : Region.wanted o (yielded ops a.tmps) = true := by rfl) (hp : a.eval p = pq g := by rfl) (hv : a.eval v = .agg #[.int .i64 x, .int .i64 y] := by rfl) :
  if Region.wanted o (yielded ops a.tmps) = true then Oper.wp Try.prog o a W K Q else K (a.put none undef) W :=
 skip_ hw hN (store_run hop hp hv hb) (h _ (wr_mk hb))
theorem st_list {ops : Array Oper} {Q : Exit → Act → World → Prop} {rest : List Oper} {o : Oper} {a : Act} {W : World} {p v : Operand} {g : Nat} {x0 y0 x y : Int} (hb : Bx W g x0 y0) (hop : o.op = .store 31 p v) (hg : o.guard = none) (hN : o.dst = none)
  (hp : a.eval p = pq g) (hv : a.eval v = .agg #[.int .i64 x, .int .i64 y]) (h : ∀ W1, Wr W W1 g x y → wpList Try.prog ops Q rest a W1) : wpList Try.prog ops Q (o :: rest) a W := by
 refine wpList_plain hg fun K hK => ?_
 unfold Oper.wp
 rw [store_run hop hp hv hb]
 show K (a.put o.dst undef) _
 rw [hN]
 exact hK _ _ (h _ (wr_mk hb))
end
abbrev B58 (W : World) (g : Nat) (x y z : Int) : Prop := W.heap[g]? = some (.cells #[.int .i64 x, .int .i64 y, .int .i64 z] 58 (0, 0))
abbrev B49 (W : World) (g : Nat) (x y : Int) : Prop := W.heap[g]? = some (.cells #[.int .i64 x, .int .i64 y] 49 (0, 0))
theorem B58.cells {W : World} {g : Nat} {x y z : Int} (h : B58 W g x y z) : W.cell? ⟨g, 0, none⟩ = some (.int .i64 x) ∧ W.cell? ⟨g, 1, none⟩ = some (.int .i64 y) ∧ W.cell? ⟨g, 2, none⟩ = some (.int .i64 z) := ⟨(blk_cell h 0).trans rfl, (blk_cell h 1).trans rfl, (blk_cell h 2).trans rfl⟩
theorem B49.cells {W : World} {g : Nat} {x y : Int} (h : B49 W g x y) : W.cell? ⟨g, 0, none⟩ = some (.int .i64 x) ∧ W.cell? ⟨g, 1, none⟩ = some (.int .i64 y) := ⟨(blk_cell h 0).trans rfl, (blk_cell h 1).trans rfl⟩
end Go.Proofs.Ythaklbjcjoolcaa.P
namespace Go.Proofs
open Go.Shelf
def Try.laysNm223_ren : Go.Shelf.Ren := ⟨fun | 23 => 79 | n => n, fun | 22 => 78 | 3 => 3 | 4 => 4 | 0 => 0 | n => n, fun | n => n⟩
theorem Try.laysNm223 : Go.Proofs.Lays2.n23 Try.prog Try.laysNm223_ren := {
 mixed := by kernel_rfl
 f23 := Try.func79.trans (congrArg some (by kernel_rfl))
 t0 := Try.underlying0
 a0 := Try.isAgg0
 z0 := Try.sizeOf0
 v0 := Try.zeroValue0
 t3 := Try.underlying3
 a3 := Try.isAgg3
 z3 := Try.sizeOf3
 v3 := Try.zeroValue3
 t4 := Try.underlying4
 a4 := Try.isAgg4
 z4 := Try.sizeOf4
 v4 := Try.zeroValue4
 t22 := Try.underlying78
 a22 := Try.isAgg78
 z22 := Try.sizeOf78
 v22 := Try.zeroValue78
 i3 := by kernel_rfl }
open Go.RowKit Go.Lib Go.Sort in
theorem Try.slices_Delete_int (blk off cap i j : Nat) (zs : List Int) (w : World) (hH : Holds (Value.int .i64) w blk off zs.toArray) (hcap : zs.length ≤ cap) (hm : cap ≤ 9223372036854775807) (hij : i ≤ j) (hj : j ≤ zs.length) :
  Calls Try.prog 79 #[.slice (some ⟨blk, off, none⟩) zs.length cap, .int .i64 i, .int .i64 j] w fun e w' => e = .returned (.slice (some ⟨blk, off, none⟩) (zs.length - (j - i)) cap) ∧ ∃ q, w' = putRow (Value.int .i64) (Sort.ahead w q) blk off (zs.take i ++ zs.drop j ++ List.replicate (j - i) 0).toArray := Any.slices_Delete_int Try.laysNm223 blk off cap i j zs w hH hcap hm hij hj
end Go.Proofs
namespace Go.Proofs.Ythaklbjcjoolcaa.P
open Go.RowKit Go.Shelf Go.Sort YthaklbjcjoolcaaW.PrintWords YthaklbjcjoolcaaW.PrintLast YthaklbjcjoolcaaW.PrintMore
theorem putCells_take1 {α : Type} [Inhabited α] (enc : α → Value) (d : Array α) (c : Array Value) (h : d.size ≤ c.size) : (putCells enc 0 d c).toList.take d.size = d.toList.map enc := by
 apply List.ext_getElem
 ·simp [putCells]; omega
 ·intro i h1 h2
  simp at h2
  simp [putCells, h2]
theorem holds_ints {w : World} {base g n cap : Nat} {e : TypeId} {xs : List Int} (hn : xs.length = n) (h : w.ownsRow base e 1 (.slice (some ⟨g, 0, none⟩) n cap) n (encs (Value.int .i64) xs)) : Holds (Value.int .i64) w g 0 xs.toArray := by
 obtain ⟨hlen, hv⟩ := h
 intro j hj
 have hj' : j < xs.length := by simpa using hj
 rcases hv with ⟨hv, _⟩ | ⟨g', cap', cur, hv, hg, hblk, _, _, hcs, htk⟩
 ·simp at hv
 ·simp only [Value.slice.injEq, Option.some.injEq, Addr.mk.injEq] at hv
  obtain ⟨⟨rfl, _⟩, _, rfl⟩ := hv
  constructor
  ·rw [Nat.zero_add, cell_of_row _ _ _ _ _ _ hblk]
   have h1 : (cur.toList.take (n * 1))[j]? = (encs (Value.int .i64) xs)[j]? := by rw [htk]
   rw [List.getElem?_take, if_pos (by omega)] at h1
   rw [← Array.getElem?_toList, h1]
   unfold encs
   rw [List.getElem?_map, List.getElem?_eq_getElem hj']
   simp [hj']
  ·exact frozen_of_row _ _ _ _ _ hblk
theorem delete_calls (w : World) (base : Nat) (ok : Nat → Prop) (v : Value) (xs : List Int) (k : Nat) (h : Kd.R (Kd.int .i64) 3 w base ok v xs) (hk : k < xs.length) (hsz : xs.length < 4611686018427387904) :
  Calls Try.prog 79 #[v, .int .i64 k, .int .i64 (((k + 1 : Nat) : Int))] w fun e w' => ∃ v', e = .returned v' ∧ Kd.R (Kd.int .i64) 3 w' base ok v' (xs.eraseIdx k) ∧ w.grownBy w' v.ownBlock ∧ v'.ownBlock = v.ownBlock := by
 have ho := Kd.own_of_R h
 obtain ⟨hlen, hv⟩ := ho
 rcases hv with ⟨rfl, hn⟩ | ⟨g, cap, cur, rfl, hg, hblk, hc1, hc2, hcs, htk⟩
 ·exact absurd hn (by omega)
 ·have hH : Holds (Value.int .i64) w g 0 xs.toArray := holds_ints rfl (Kd.own_of_R h)
  have hc := Try.slices_Delete_int g 0 cap k (k + 1) xs w hH hc1 (by unfold maxLen at hc2; omega) (by omega) (by omega)
  refine hc.mono ?_
  rintro e w' ⟨he, q, rfl⟩
  have hF : xs.length - (k + 1 - k) = (xs.eraseIdx k).length := by rw [List.length_eraseIdx, if_pos hk]; omega
  refine ⟨_, he, ?_, ?_, rfl⟩
  ·refine Kd.R_of_own (h1 := fun _ => rfl) ?_ h.1
   rw [hF]
   have hbk : (putRow (Value.int .i64) (Sort.ahead w q) g 0 (xs.take k ++ xs.drop (k + 1) ++ List.replicate (k + 1 - k) 0).toArray).heap[g]? = some (.cells (putCells (Value.int .i64) 0 (xs.take k ++ xs.drop (k + 1) ++ List.replicate (k + 1 - k) 0).toArray cur) 3) := heap_mapBlock_same (w := Sort.ahead w q) hblk
   refine ⟨by rw [encs_length, Nat.mul_one], .inr ⟨g, cap, putCells (Value.int .i64) 0 (xs.take k ++ xs.drop (k + 1) ++ List.replicate (k + 1 - k) 0).toArray cur, rfl, hg, hbk, by omega, hc2, by simp [putCells, hcs], ?_⟩⟩
   have hsize : (xs.take k ++ xs.drop (k + 1) ++ List.replicate (k + 1 - k) 0).toArray.size = xs.length := by simp; omega
   have ht := putCells_take1 (Value.int .i64) (xs.take k ++ xs.drop (k + 1) ++ List.replicate (k + 1 - k) 0).toArray cur (by rw [hsize, hcs]; omega)
   rw [hsize] at ht
   have e0 : (xs.eraseIdx k).length * 1 = min (xs.eraseIdx k).length xs.length := by rw [← hF]; omega
   rw [e0, ← List.take_take, ht]
   unfold encs
   rw [← List.map_take, List.eraseIdx_eq_take_drop_succ]
   congr 1
   exact List.take_left
  ·exact ⟨rfl, rfl, rfl, by unfold putRow; rw [size_mapBlock]; exact Nat.le_refl _, fun i hi hne => by unfold putRow; rw [heap_mapBlock_other (fun e => hne (by rw [e]; rfl))]; rfl⟩
end Go.Proofs.Ythaklbjcjoolcaa.P
namespace Go.Proofs.Ythaklbjcjoolcaa.P
open Go.RowKit YthaklbjcjoolcaaW.PrintWords YthaklbjcjoolcaaW.PrintLast YthaklbjcjoolcaaW.PrintMore
attribute [local go_sem] max2_int min2_int max_two min_two max_three min_three max_four min_four

def R1_on.f (a0_0 : Int) (a0_1 : Int) (a1_0 : Int) (a1_1 : Int) (a2_0 : Int) (a2_1 : Int) : Option (Bool) := (R1_Turn.f a0_0 a0_1 a1_0 a1_1 a2_0 a2_1).bind fun t247 => (if t247 = 0 then (if a2_0 ≥ (mn a0_0 a1_0) then (if a2_0 ≤ (mx a0_0 a1_0) then (if a2_1 ≥ (mn a0_1 a1_1) then (some (decide (a2_1 ≤ (mx a0_1 a1_1)))) else (some false)) else (some false)) else (some false)) else (some false))
set_option maxHeartbeats 8000000 in
set_option maxRecDepth 100000 in
theorem R1_on.calls (a0_0 : Int) (a0_1 : Int) (a1_0 : Int) (a1_1 : Int) (a2_0 : Int) (a2_1 : Int) (r : Bool) (w : World) (h : R1_on.f a0_0 a0_1 a1_0 a1_1 a2_0 a2_1 = some r) :
  Calls Try.prog 59 #[.agg #[.int .i64 a0_0, .int .i64 a0_1], .agg #[.int .i64 a1_0, .int .i64 a1_1], .agg #[.int .i64 a2_0, .int .i64 a2_1]] w fun e w' => e = .returned (.bool r) ∧ Below w.heap.size w w' := by
 have hu31 := Try.underlying31
 have HB := Aside0.mk (Below.refl w.heap.size w)
 have H : ((R1_Turn.f a0_0 a0_1 a1_0 a1_1 a2_0 a2_1).bind fun t247 => (if t247 = 0 then (if a2_0 ≥ (mn a0_0 a1_0) then (if a2_0 ≤ (mx a0_0 a1_0) then (if a2_1 ≥ (mn a0_1 a1_1) then (some (decide (a2_1 ≤ (mx a0_1 a1_1)))) else (some false)) else (some false)) else (some false)) else (some false))) = some r := h
 clear h
 replace H := Option.bind_eq_some_iff.mp H
 obtain ⟨t247, A40, H⟩ := H
 replace H : (if t247 = 0 then (if a2_0 ≥ (mn a0_0 a1_0) then (if a2_0 ≤ (mx a0_0 a1_0) then (if a2_1 ≥ (mn a0_1 a1_1) then (some (decide (a2_1 ≤ (mx a0_1 a1_1)))) else (some false)) else (some false)) else (some false)) else (some false)) = some r := H
 have A4 := Aside0.mk A40
 clear A40
 by_cases c5 : t247 = 0
 rw [if_pos c5] at H
 have c5b0 : (t247 == 0) = true := beq_iff_eq.mpr c5
 have c5b1 : (t247 != 0) = false := bne_eq_false_iff_eq.mpr c5
 clear c5
 obtain ⟨ji6, hji6⟩ : ∃ j_ : Int, (mn a0_0 a1_0) = j_ := ⟨_, rfl⟩
 replace H : (if a2_0 ≥ (ji6) then (if a2_0 ≤ (mx a0_0 a1_0) then (if a2_1 ≥ (mn a0_1 a1_1) then (some (decide (a2_1 ≤ (mx a0_1 a1_1)))) else (some false)) else (some false)) else (some false)) = some r := by first | (rw [hji6] at H; exact H) | (simp only [hji6] at H ⊢; exact H)
 (try rw [hji6] at A4)
 have hji6_ : (if a1_0 < a0_0 then a1_0 else a0_0) = ji6 := hji6
 by_cases c7 : a2_0 ≥ (ji6)
 rw [if_pos c7] at H
 have c7b0 : decide ((ji6) ≤ a2_0) = true := decide_eq_true c7
 clear c7
 obtain ⟨ji8, hji8⟩ : ∃ j_ : Int, (mx a0_0 a1_0) = j_ := ⟨_, rfl⟩
 replace H : (if a2_0 ≤ (ji8) then (if a2_1 ≥ (mn a0_1 a1_1) then (some (decide (a2_1 ≤ (mx a0_1 a1_1)))) else (some false)) else (some false)) = some r := by first | (rw [hji8] at H; exact H) | (simp only [hji8] at H ⊢; exact H)
 (try rw [hji8] at A4)
 have hji8_ : (if a0_0 < a1_0 then a1_0 else a0_0) = ji8 := hji8
 by_cases c9 : a2_0 ≤ (ji8)
 rw [if_pos c9] at H
 have c9b0 : decide (a2_0 ≤ (ji8)) = true := decide_eq_true c9
 clear c9
 obtain ⟨ji10, hji10⟩ : ∃ j_ : Int, (mn a0_1 a1_1) = j_ := ⟨_, rfl⟩
 replace H : (if a2_1 ≥ (ji10) then (some (decide (a2_1 ≤ (mx a0_1 a1_1)))) else (some false)) = some r := by first | (rw [hji10] at H; exact H) | (simp only [hji10] at H ⊢; exact H)
 (try rw [hji10] at A4)
 have hji10_ : (if a1_1 < a0_1 then a1_1 else a0_1) = ji10 := hji10
 by_cases c11 : a2_1 ≥ (ji10)
 rw [if_pos c11] at H
 have c11b0 : decide ((ji10) ≤ a2_1) = true := decide_eq_true c11
 clear c11
 obtain ⟨ji12, hji12⟩ : ∃ j_ : Int, (mx a0_1 a1_1) = j_ := ⟨_, rfl⟩
 replace H : (some (decide (a2_1 ≤ (ji12)))) = some r := by first | (rw [hji12] at H; exact H) | (simp only [hji12] at H ⊢; exact H)
 (try rw [hji12] at A4)
 have hji12_ : (if a0_1 < a1_1 then a1_1 else a0_1) = ji12 := hji12
 obtain rfl := Option.some.inj H
 go_enter Try.func59, Try.ntmps59
 rotate_left 1
 rw [if_neg c11] at H
 have c11b0 : decide ((ji10) ≤ a2_1) = false := decide_eq_false c11
 clear c11
 obtain rfl := Option.some.inj H
 go_enter Try.func59, Try.ntmps59
 rotate_left 1
 rw [if_neg c9] at H
 have c9b0 : decide (a2_0 ≤ (ji8)) = false := decide_eq_false c9
 clear c9
 obtain rfl := Option.some.inj H
 go_enter Try.func59, Try.ntmps59
 rotate_left 1
 rw [if_neg c7] at H
 have c7b0 : decide ((ji6) ≤ a2_0) = false := decide_eq_false c7
 clear c7
 obtain rfl := Option.some.inj H
 go_enter Try.func59, Try.ntmps59
 rotate_left 1
 rw [if_neg c5] at H
 have c5b0 : (t247 == 0) = false := beq_eq_false_iff_ne.mpr c5
 have c5b1 : (t247 != 0) = true := bne_iff_ne.mpr c5
 obtain rfl := Option.some.inj H
 go_enter Try.func59, Try.ntmps59
 all_goals go_wp2_with (first | ((with_reducible refine gate_dst (N := 3) rfl ?_); (try (refine gate_guard (by rfl) ?_; dsimp only)); refine bxe 3 #[.int .i64 a0_0, .int .i64 a0_1] 31 ?_; intro gb244 hg wz0 hbox hb; have n0_ := Aside0.mk (below_step lB hb); have n1_ := Aside0.mk (hbox); have n2_ := Aside0.mk (lG (w := w) hg); have n3_ := Aside0.mk (lG (w := w) hg); clear HB; have HB := n0_; have BK244 := n1_; have GW244 := n2_; have GE244 := n3_; clear n0_ n1_ n2_ n3_; clear hb hbox hg) | ((with_reducible refine gate_dst (N := 4) rfl ?_); (try (refine gate_guard (by rfl) ?_; dsimp only)); refine bxe 4 #[.int .i64 a1_0, .int .i64 a1_1] 31 ?_; intro gb245 hg wz1 hbox hb; have n0_ := Aside0.mk (blk_below (g := gb244) (o := .cells #[.int .i64 a0_0, .int .i64 a0_1] 31 (0, 0)) (kX BK244.out) hb); have n1_ := Aside0.mk (below_step lB hb); have n2_ := Aside0.mk (hbox); have n3_ := Aside0.mk (lG (w := w) hg); have n4_ := Aside0.mk (lG (w := w) hg); have n5_ := Aside0.mk ((by rw [hg]; exact Nat.ne_of_lt (blk_lt (g := gb244) (o := .cells #[.int .i64 a0_0, .int .i64 a0_1] 31 (0, 0)) (kX BK244.out)) : gb244 ≠ gb245)); have n6_ := Aside0.mk ((by rw [hg]; exact Nat.ne_of_gt (blk_lt (g := gb244) (o := .cells #[.int .i64 a0_0, .int .i64 a0_1] 31 (0, 0)) (kX BK244.out)) : gb245 ≠ gb244)); clear BK244; clear HB; have BK244 := n0_; have HB := n1_; have BK245 := n2_; have GW245 := n3_; have GE245 := n4_; have NB244_245 := n5_; have NB245_244 := n6_; clear n0_ n1_ n2_ n3_ n4_ n5_ n6_; clear hb hbox hg) | ((with_reducible refine gate_dst (N := 5) rfl ?_); (try (refine gate_guard (by rfl) ?_; dsimp only)); refine bxe 5 #[.int .i64 a2_0, .int .i64 a2_1] 31 ?_; intro gb246 hg wz2 hbox hb; have n0_ := Aside0.mk (blk_below (g := gb244) (o := .cells #[.int .i64 a0_0, .int .i64 a0_1] 31 (0, 0)) (kX BK244.out) hb); have n1_ := Aside0.mk (blk_below (g := gb245) (o := .cells #[.int .i64 a1_0, .int .i64 a1_1] 31 (0, 0)) (kX BK245.out) hb); have n2_ := Aside0.mk (below_step lB hb); have n3_ := Aside0.mk (hbox); have n4_ := Aside0.mk (lG (w := w) hg); have n5_ := Aside0.mk (lG (w := w) hg); have n6_ := Aside0.mk ((by rw [hg]; exact Nat.ne_of_lt (blk_lt (g := gb244) (o := .cells #[.int .i64 a0_0, .int .i64 a0_1] 31 (0, 0)) (kX BK244.out)) : gb244 ≠ gb246)); have n7_ := Aside0.mk ((by rw [hg]; exact Nat.ne_of_gt (blk_lt (g := gb244) (o := .cells #[.int .i64 a0_0, .int .i64 a0_1] 31 (0, 0)) (kX BK244.out)) : gb246 ≠ gb244)); have n8_ := Aside0.mk ((by rw [hg]; exact Nat.ne_of_lt (blk_lt (g := gb245) (o := .cells #[.int .i64 a1_0, .int .i64 a1_1] 31 (0, 0)) (kX BK245.out)) : gb245 ≠ gb246)); have n9_ := Aside0.mk ((by rw [hg]; exact Nat.ne_of_gt (blk_lt (g := gb245) (o := .cells #[.int .i64 a1_0, .int .i64 a1_1] 31 (0, 0)) (kX BK245.out)) : gb246 ≠ gb245)); clear BK244; clear BK245; clear HB; have BK244 := n0_; have BK245 := n1_; have HB := n2_; have BK246 := n3_; have GW246 := n4_; have GE246 := n5_; have NB244_246 := n6_; have NB246_244 := n7_; have NB245_246 := n8_; have NB246_245 := n9_; clear n0_ n1_ n2_ n3_ n4_ n5_ n6_ n7_ n8_ n9_; clear hb hbox hg; have hnb16 := NB244_245.out; have hnc16 := NB245_244.out; have hnb17 := NB244_246.out; have hnc17 := NB246_244.out; have hcz18_0 : wz2.cell? ⟨gb244, 0, none⟩ = some (.int .i64 a0_0) := (blk_cell BK244.out 0).trans rfl; have hcz18_1 : wz2.cell? ⟨gb244, 1, none⟩ = some (.int .i64 a0_1) := (blk_cell BK244.out 1).trans rfl; have hfz18_0 := blk_frozen BK244.out 0; have hfz18_1 := blk_frozen BK244.out 1; have hnb19 := NB245_246.out; have hnc19 := NB246_245.out; have hcz20_0 : wz2.cell? ⟨gb245, 0, none⟩ = some (.int .i64 a1_0) := (blk_cell BK245.out 0).trans rfl; have hcz20_1 : wz2.cell? ⟨gb245, 1, none⟩ = some (.int .i64 a1_1) := (blk_cell BK245.out 1).trans rfl; have hfz20_0 := blk_frozen BK245.out 0; have hfz20_1 := blk_frozen BK245.out 1; have hcz21_0 : wz2.cell? ⟨gb246, 0, none⟩ = some (.int .i64 a2_0) := (blk_cell BK246.out 0).trans rfl; have hcz21_1 : wz2.cell? ⟨gb246, 1, none⟩ = some (.int .i64 a2_1) := (blk_cell BK246.out 1).trans rfl; have hfz21_0 := blk_frozen BK246.out 0; have hfz21_1 := blk_frozen BK246.out 1) | ((with_reducible refine gate_callee (f := 31) rfl ?_); refine goesL_ (some 10) rfl rfl Try.func31 (by kernel_rfl) rfl #[.agg #[.int .i64 a0_0, .int .i64 a0_1], .agg #[.int .i64 a1_0, .int .i64 a1_1], .agg #[.int .i64 a2_0, .int .i64 a2_1]] rfl (by (try simp only [List.map_toArray, List.map_cons, List.map_nil]); first | done | rfl | (simp only [List.length_drop, List.length_take]; rfl)) ?_; (with_reducible refine (R1_Turn.calls a0_0 a0_1 a1_0 a1_1 a2_0 a2_1 t247 _ A4.out).mono ?_); rintro e wz3 ⟨rfl, hb⟩; refine ⟨_, rfl, ?_⟩; have n0_ := Aside0.mk (blk_below (g := gb244) (o := .cells #[.int .i64 a0_0, .int .i64 a0_1] 31 (0, 0)) (kX BK244.out) hb); have n1_ := Aside0.mk (blk_below (g := gb245) (o := .cells #[.int .i64 a1_0, .int .i64 a1_1] 31 (0, 0)) (kX BK245.out) hb); have n2_ := Aside0.mk (blk_below (g := gb246) (o := .cells #[.int .i64 a2_0, .int .i64 a2_1] 31 (0, 0)) (kX BK246.out) hb); have n3_ := Aside0.mk (below_step lB hb); clear BK244; clear BK245; clear BK246; clear HB; have BK244 := n0_; have BK245 := n1_; have BK246 := n2_; have HB := n3_; clear n0_ n1_ n2_ n3_; (try clear hb); (try clear hb2); (try clear hk); (try clear hi); have hcz23_0 : wz3.cell? ⟨gb246, 0, none⟩ = some (.int .i64 a2_0) := (blk_cell BK246.out 0).trans rfl; have hcz23_1 : wz3.cell? ⟨gb246, 1, none⟩ = some (.int .i64 a2_1) := (blk_cell BK246.out 1).trans rfl; have hfz23_0 := blk_frozen BK246.out 0; have hfz23_1 := blk_frozen BK246.out 1; have hcz24_0 : wz3.cell? ⟨gb244, 0, none⟩ = some (.int .i64 a0_0) := (blk_cell BK244.out 0).trans rfl; have hcz24_1 : wz3.cell? ⟨gb244, 1, none⟩ = some (.int .i64 a0_1) := (blk_cell BK244.out 1).trans rfl; have hfz24_0 := blk_frozen BK244.out 0; have hfz24_1 := blk_frozen BK244.out 1; have hcz25_0 : wz3.cell? ⟨gb245, 0, none⟩ = some (.int .i64 a1_0) := (blk_cell BK245.out 0).trans rfl; have hcz25_1 : wz3.cell? ⟨gb245, 1, none⟩ = some (.int .i64 a1_1) := (blk_cell BK245.out 1).trans rfl; have hfz25_0 := blk_frozen BK245.out 0; have hfz25_1 := blk_frozen BK245.out 1))
 all_goals first
   | (go_ret
      exact ⟨by first | rfl | (simp [errW_none, errW_some] <;> rfl) | (simp only [← hji6, ← hji8, ← hji10, ← hji12]; first | rfl | (simp [errW_none, errW_some] <;> rfl)) | (simp [*, errW_none, errW_some] <;> rfl), lB⟩)
   | (go_ret
      exact ⟨by first | rfl | (simp [errW_none, errW_some] <;> rfl) | (simp only [← hji6, ← hji8, ← hji10]; first | rfl | (simp [errW_none, errW_some] <;> rfl)) | (simp [*, errW_none, errW_some] <;> rfl), lB⟩)
   | (go_ret
      exact ⟨by first | rfl | (simp [errW_none, errW_some] <;> rfl) | (simp only [← hji6, ← hji8]; first | rfl | (simp [errW_none, errW_some] <;> rfl)) | (simp [*, errW_none, errW_some] <;> rfl), lB⟩)
   | (go_ret
      exact ⟨by first | rfl | (simp [errW_none, errW_some] <;> rfl) | (simp only [← hji6]; first | rfl | (simp [errW_none, errW_some] <;> rfl)) | (simp [*, errW_none, errW_some] <;> rfl), lB⟩)
   | (go_ret
      exact en)


def R1_meet.j0 : Nat → Bool → Int → Int → Int → Int → Int → Int → Int → Int → Option (Bool)
 | 0, _, _, _, _, _, _, _, _, _ => none
 | k + 1, x30, x249000, x249001, x250000, x250001, x251000, x251001, x252000, x252001 => if x30 = true then (some true) else ((R1_on.f x249000 x249001 x250000 x250001 x251000 x251001).bind fun t256 => (if t256 = true then (some true) else ((R1_on.f x249000 x249001 x250000 x250001 x252000 x252001).bind fun t257 => (if t257 = true then (some true) else ((R1_on.f x251000 x251001 x252000 x252001 x249000 x249001).bind fun t258 => (if t258 = true then (some true) else ((R1_on.f x251000 x251001 x252000 x252001 x250000 x250001).bind fun t259 => (some t259))))))))
def R1_meet.f (k : Nat) (a0_0 : Int) (a0_1 : Int) (a1_0 : Int) (a1_1 : Int) (a2_0 : Int) (a2_1 : Int) (a3_0 : Int) (a3_1 : Int) : Option (Bool) := (R1_Turn.f a0_0 a0_1 a1_0 a1_1 a2_0 a2_1).bind fun t252 => ((R1_Turn.f a0_0 a0_1 a1_0 a1_1 a3_0 a3_1).bind fun t253 => (if (wrap64 (t252 * t253)) < 0 then ((R1_Turn.f a2_0 a2_1 a3_0 a3_1 a0_0 a0_1).bind fun t254 => ((R1_Turn.f a2_0 a2_1 a3_0 a3_1 a1_0 a1_1).bind fun t255 => (R1_meet.j0 k (decide ((wrap64 (t254 * t255)) < 0)) a0_0 a0_1 a1_0 a1_1 a2_0 a2_1 a3_0 a3_1))) else (R1_meet.j0 k false a0_0 a0_1 a1_0 a1_1 a2_0 a2_1 a3_0 a3_1)))
theorem R1_meet.mono_l : ∀ k, (∀ y0 y1 y2 y3 y4 y5 y6 y7 y8, LeO (R1_meet.j0 k y0 y1 y2 y3 y4 y5 y6 y7 y8) (R1_meet.j0 (k + 1) y0 y1 y2 y3 y4 y5 y6 y7 y8))
 | 0 => fun _ _ _ _ _ _ _ _ _ r h => by simp [R1_meet.j0] at h
 | k + 1 => by
  have ih0 := R1_meet.mono_l k
  ·intro y0 y1 y2 y3 y4 y5 y6 y7 y8
   unfold R1_meet.j0
   repeat' first
   | (with_reducible exact ih0 _ _ _ _ _ _ _ _ _)
   | (with_reducible first | exact LeO.refl _ | exact LeO.none _ | refine LeO.ite ?_ ?_ | refine LeO.bind ?_ (fun _ => ?_))
   | exact ih0 _ _ _ _ _ _ _ _ _
   | exact LeO.none _ | refine LeO.ite ?_ ?_ | refine LeO.bind ?_ (fun _ => ?_)
theorem R1_meet.mono : ∀ a0 a1 a2 a3 a4 a5 a6 a7 k, LeO (R1_meet.f k a0 a1 a2 a3 a4 a5 a6 a7) (R1_meet.f (k + 1) a0 a1 a2 a3 a4 a5 a6 a7) := by
 intro a0 a1 a2 a3 a4 a5 a6 a7 k
 have ih0 := R1_meet.mono_l k
 unfold R1_meet.f
 repeat' first
   | (with_reducible exact ih0 _ _ _ _ _ _ _ _ _)
   | (with_reducible first | exact LeO.refl _ | exact LeO.none _ | refine LeO.ite ?_ ?_ | refine LeO.bind ?_ (fun _ => ?_))
   | exact ih0 _ _ _ _ _ _ _ _ _
   | exact LeO.none _ | refine LeO.ite ?_ ?_ | refine LeO.bind ?_ (fun _ => ?_)
def R1_meet.T1 : Bool × List (List Nat × List Nat) := (true, [([], []), ([], []), ([], []), ([0, 1, 2], [0, 1, 2]), ([], []), ([], []), ([], []), ([4, 5, 6, 3], [4, 5, 6]), ([3, 7], [3, 7]), ([8], [8]), ([9, 7], [9]), ([10], [10]), ([10], [10]), ([10], [10]), ([11, 12, 13, 10, 10], [10, 11, 12, 13]), ([10], [10]), ([10], [10]), ([10], [10]), ([15, 16, 17, 14, 10], [10, 15, 16, 17]), ([14, 18, 10], [10, 14, 18]), ([19, 10], [10, 19]), ([10, 20], [10, 20])])
def R1_meet.B1 : List Nat := [0, 0, 0, 7, 0, 0, 0, 127, 255, 511, 1023, 2047, 2047, 2047, 16383, 2047, 2047, 2047, 262143, 524287, 1048575, 2097151]
theorem R1_meet.tab1 : rtab .any (opsOf Try.f60 1) = R1_meet.T1 := by kernel_rfl
theorem R1_meet.bits1 : waitsOk R1_meet.T1.2 R1_meet.B1 = true := by kernel_rfl
set_option maxHeartbeats 8000000 in
set_option maxRecDepth 100000 in
theorem R1_meet.calls (k : Nat) (a0_0 : Int) (a0_1 : Int) (a1_0 : Int) (a1_1 : Int) (a2_0 : Int) (a2_1 : Int) (a3_0 : Int) (a3_1 : Int) (r : Bool) (w : World) (h : R1_meet.f k a0_0 a0_1 a1_0 a1_1 a2_0 a2_1 a3_0 a3_1 = some r) :
  Calls Try.prog 60 #[.agg #[.int .i64 a0_0, .int .i64 a0_1], .agg #[.int .i64 a1_0, .int .i64 a1_1], .agg #[.int .i64 a2_0, .int .i64 a2_1], .agg #[.int .i64 a3_0, .int .i64 a3_1]] w fun e w' => e = .returned (.bool r) ∧ Below w.heap.size w w' := by
 have hu31 := Try.underlying31
 have HB := Aside0.mk (Below.refl w.heap.size w)
 have H : ((R1_Turn.f a0_0 a0_1 a1_0 a1_1 a2_0 a2_1).bind fun t252 => ((R1_Turn.f a0_0 a0_1 a1_0 a1_1 a3_0 a3_1).bind fun t253 => (if (wrap64 (t252 * t253)) < 0 then ((R1_Turn.f a2_0 a2_1 a3_0 a3_1 a0_0 a0_1).bind fun t254 => ((R1_Turn.f a2_0 a2_1 a3_0 a3_1 a1_0 a1_1).bind fun t255 => (R1_meet.j0 k (decide ((wrap64 (t254 * t255)) < 0)) a0_0 a0_1 a1_0 a1_1 a2_0 a2_1 a3_0 a3_1))) else (R1_meet.j0 k false a0_0 a0_1 a1_0 a1_1 a2_0 a2_1 a3_0 a3_1)))) = some r := h
 clear h
 have HC5 := Aside0.mk H
 clear H
 go_enter Try.func60, Try.ntmps60
 go_upto_region 1 with (first | ((with_reducible refine gate_dst (N := 4) rfl ?_); refine bxe 4 #[.int .i64 a0_0, .int .i64 a0_1] 31 ?_; intro gb248 hg w6 hbox hb; have n0_ := Aside0.mk (below_step lB hb); have n1_ := Aside0.mk (hbox); have n2_ := Aside0.mk (lG (w := w) hg); have n3_ := Aside0.mk (lG (w := w) hg); clear HB; have HB := n0_; have BK248 := n1_; have GW248 := n2_; have GE248 := n3_; clear n0_ n1_ n2_ n3_; clear hb hbox hg) | ((with_reducible refine gate_dst (N := 5) rfl ?_); refine bxe 5 #[.int .i64 a1_0, .int .i64 a1_1] 31 ?_; intro gb249 hg w7 hbox hb; have n0_ := Aside0.mk (blk_below (g := gb248) (o := .cells #[.int .i64 a0_0, .int .i64 a0_1] 31 (0, 0)) (kX BK248.out) hb); have n1_ := Aside0.mk (below_step lB hb); have n2_ := Aside0.mk (hbox); have n3_ := Aside0.mk (lG (w := w) hg); have n4_ := Aside0.mk (lG (w := w) hg); have n5_ := Aside0.mk ((by rw [hg]; exact Nat.ne_of_lt (blk_lt (g := gb248) (o := .cells #[.int .i64 a0_0, .int .i64 a0_1] 31 (0, 0)) (kX BK248.out)) : gb248 ≠ gb249)); have n6_ := Aside0.mk ((by rw [hg]; exact Nat.ne_of_gt (blk_lt (g := gb248) (o := .cells #[.int .i64 a0_0, .int .i64 a0_1] 31 (0, 0)) (kX BK248.out)) : gb249 ≠ gb248)); clear BK248; clear HB; have BK248 := n0_; have HB := n1_; have BK249 := n2_; have GW249 := n3_; have GE249 := n4_; have NB248_249 := n5_; have NB249_248 := n6_; clear n0_ n1_ n2_ n3_ n4_ n5_ n6_; clear hb hbox hg) | ((with_reducible refine gate_dst (N := 6) rfl ?_); refine bxe 6 #[.int .i64 a2_0, .int .i64 a2_1] 31 ?_; intro gb250 hg w8 hbox hb; have n0_ := Aside0.mk (blk_below (g := gb248) (o := .cells #[.int .i64 a0_0, .int .i64 a0_1] 31 (0, 0)) (kX BK248.out) hb); have n1_ := Aside0.mk (blk_below (g := gb249) (o := .cells #[.int .i64 a1_0, .int .i64 a1_1] 31 (0, 0)) (kX BK249.out) hb); have n2_ := Aside0.mk (below_step lB hb); have n3_ := Aside0.mk (hbox); have n4_ := Aside0.mk (lG (w := w) hg); have n5_ := Aside0.mk (lG (w := w) hg); have n6_ := Aside0.mk ((by rw [hg]; exact Nat.ne_of_lt (blk_lt (g := gb248) (o := .cells #[.int .i64 a0_0, .int .i64 a0_1] 31 (0, 0)) (kX BK248.out)) : gb248 ≠ gb250)); have n7_ := Aside0.mk ((by rw [hg]; exact Nat.ne_of_gt (blk_lt (g := gb248) (o := .cells #[.int .i64 a0_0, .int .i64 a0_1] 31 (0, 0)) (kX BK248.out)) : gb250 ≠ gb248)); have n8_ := Aside0.mk ((by rw [hg]; exact Nat.ne_of_lt (blk_lt (g := gb249) (o := .cells #[.int .i64 a1_0, .int .i64 a1_1] 31 (0, 0)) (kX BK249.out)) : gb249 ≠ gb250)); have n9_ := Aside0.mk ((by rw [hg]; exact Nat.ne_of_gt (blk_lt (g := gb249) (o := .cells #[.int .i64 a1_0, .int .i64 a1_1] 31 (0, 0)) (kX BK249.out)) : gb250 ≠ gb249)); clear BK248; clear BK249; clear HB; have BK248 := n0_; have BK249 := n1_; have HB := n2_; have BK250 := n3_; have GW250 := n4_; have GE250 := n5_; have NB248_250 := n6_; have NB250_248 := n7_; have NB249_250 := n8_; have NB250_249 := n9_; clear n0_ n1_ n2_ n3_ n4_ n5_ n6_ n7_ n8_ n9_; clear hb hbox hg) | ((with_reducible refine gate_dst (N := 7) rfl ?_); refine bxe 7 #[.int .i64 a3_0, .int .i64 a3_1] 31 ?_; intro gb251 hg w9 hbox hb; have n0_ := Aside0.mk (blk_below (g := gb248) (o := .cells #[.int .i64 a0_0, .int .i64 a0_1] 31 (0, 0)) (kX BK248.out) hb); have n1_ := Aside0.mk (blk_below (g := gb249) (o := .cells #[.int .i64 a1_0, .int .i64 a1_1] 31 (0, 0)) (kX BK249.out) hb); have n2_ := Aside0.mk (blk_below (g := gb250) (o := .cells #[.int .i64 a2_0, .int .i64 a2_1] 31 (0, 0)) (kX BK250.out) hb); have n3_ := Aside0.mk (below_step lB hb); have n4_ := Aside0.mk (hbox); have n5_ := Aside0.mk (lG (w := w) hg); have n6_ := Aside0.mk (lG (w := w) hg); have n7_ := Aside0.mk ((by rw [hg]; exact Nat.ne_of_lt (blk_lt (g := gb248) (o := .cells #[.int .i64 a0_0, .int .i64 a0_1] 31 (0, 0)) (kX BK248.out)) : gb248 ≠ gb251)); have n8_ := Aside0.mk ((by rw [hg]; exact Nat.ne_of_gt (blk_lt (g := gb248) (o := .cells #[.int .i64 a0_0, .int .i64 a0_1] 31 (0, 0)) (kX BK248.out)) : gb251 ≠ gb248)); have n9_ := Aside0.mk ((by rw [hg]; exact Nat.ne_of_lt (blk_lt (g := gb249) (o := .cells #[.int .i64 a1_0, .int .i64 a1_1] 31 (0, 0)) (kX BK249.out)) : gb249 ≠ gb251)); have n10_ := Aside0.mk ((by rw [hg]; exact Nat.ne_of_gt (blk_lt (g := gb249) (o := .cells #[.int .i64 a1_0, .int .i64 a1_1] 31 (0, 0)) (kX BK249.out)) : gb251 ≠ gb249)); have n11_ := Aside0.mk ((by rw [hg]; exact Nat.ne_of_lt (blk_lt (g := gb250) (o := .cells #[.int .i64 a2_0, .int .i64 a2_1] 31 (0, 0)) (kX BK250.out)) : gb250 ≠ gb251)); have n12_ := Aside0.mk ((by rw [hg]; exact Nat.ne_of_gt (blk_lt (g := gb250) (o := .cells #[.int .i64 a2_0, .int .i64 a2_1] 31 (0, 0)) (kX BK250.out)) : gb251 ≠ gb250)); clear BK248; clear BK249; clear BK250; clear HB; have BK248 := n0_; have BK249 := n1_; have BK250 := n2_; have HB := n3_; have BK251 := n4_; have GW251 := n5_; have GE251 := n6_; have NB248_251 := n7_; have NB251_248 := n8_; have NB249_251 := n9_; have NB251_249 := n10_; have NB250_251 := n11_; have NB251_250 := n12_; clear n0_ n1_ n2_ n3_ n4_ n5_ n6_ n7_ n8_ n9_ n10_ n11_ n12_; clear hb hbox hg))
 (try simp only [Act.put, sA, sB, sC])
 go_cut [30] (fun v30 wc => ∃ (kq : Nat) (x30_4 : Bool), v30 = .bool x30_4 ∧ Aside0 (R1_meet.j0 kq x30_4 a0_0 a0_1 a1_0 a1_1 a2_0 a2_1 a3_0 a3_1 = some r) ∧ Aside0 (kq ≤ k) ∧ Aside0 (wc.heap[gb248]? = some (.cells #[.int .i64 a0_0, .int .i64 a0_1] 31 (0, 0))) ∧ Aside0 (wc.heap[gb249]? = some (.cells #[.int .i64 a1_0, .int .i64 a1_1] 31 (0, 0))) ∧ Aside0 (wc.heap[gb250]? = some (.cells #[.int .i64 a2_0, .int .i64 a2_1] 31 (0, 0))) ∧ Aside0 (wc.heap[gb251]? = some (.cells #[.int .i64 a3_0, .int .i64 a3_1] 31 (0, 0))) ∧ Aside0 (Below w.heap.size w wc))
 case first =>
  have H := HC5.out
  clear HC5
  replace H := Option.bind_eq_some_iff.mp H
  obtain ⟨t252, A100, H⟩ := H
  replace H : ((R1_Turn.f a0_0 a0_1 a1_0 a1_1 a3_0 a3_1).bind fun t253 => (if (wrap64 (t252 * t253)) < 0 then ((R1_Turn.f a2_0 a2_1 a3_0 a3_1 a0_0 a0_1).bind fun t254 => ((R1_Turn.f a2_0 a2_1 a3_0 a3_1 a1_0 a1_1).bind fun t255 => (R1_meet.j0 k (decide ((wrap64 (t254 * t255)) < 0)) a0_0 a0_1 a1_0 a1_1 a2_0 a2_1 a3_0 a3_1))) else (R1_meet.j0 k false a0_0 a0_1 a1_0 a1_1 a2_0 a2_1 a3_0 a3_1))) = some r := H
  have A10 := Aside0.mk A100
  clear A100
  replace H := Option.bind_eq_some_iff.mp H
  obtain ⟨t253, A110, H⟩ := H
  replace H : (if (wrap64 (t252 * t253)) < 0 then ((R1_Turn.f a2_0 a2_1 a3_0 a3_1 a0_0 a0_1).bind fun t254 => ((R1_Turn.f a2_0 a2_1 a3_0 a3_1 a1_0 a1_1).bind fun t255 => (R1_meet.j0 k (decide ((wrap64 (t254 * t255)) < 0)) a0_0 a0_1 a1_0 a1_1 a2_0 a2_1 a3_0 a3_1))) else (R1_meet.j0 k false a0_0 a0_1 a1_0 a1_1 a2_0 a2_1 a3_0 a3_1)) = some r := H
  have A11 := Aside0.mk A110
  clear A110
  by_cases c12 : (wrap64 (t252 * t253)) < 0
  ·rw [if_pos c12] at H
   have c12b0 : decide ((wrap64 (t252 * t253)) < 0) = true := decide_eq_true c12
   clear c12
   (first | rw [c12b0] | (simp only [i64_w, i32_w]; rw [c12b0]) | skip)
   replace H := Option.bind_eq_some_iff.mp H
   obtain ⟨t254, A130, H⟩ := H
   replace H : ((R1_Turn.f a2_0 a2_1 a3_0 a3_1 a1_0 a1_1).bind fun t255 => (R1_meet.j0 k (decide ((wrap64 (t254 * t255)) < 0)) a0_0 a0_1 a1_0 a1_1 a2_0 a2_1 a3_0 a3_1)) = some r := H
   have A13 := Aside0.mk A130
   clear A130
   replace H := Option.bind_eq_some_iff.mp H
   obtain ⟨t255, A140, H⟩ := H
   replace H : (R1_meet.j0 k (decide ((wrap64 (t254 * t255)) < 0)) a0_0 a0_1 a1_0 a1_1 a2_0 a2_1 a3_0 a3_1) = some r := H
   have A14 := Aside0.mk A140
   clear A140
   have H' := Aside0.mk H
   clear H
   try go_wp2
   replace BK248 := Aside0.mk (kD BK248.out)
   replace BK249 := Aside0.mk (kD BK249.out)
   replace BK250 := Aside0.mk (kD BK250.out)
   replace BK251 := Aside0.mk (kD BK251.out)
   replace HB := Aside0.mk (lD HB.out)
   refine start_ (n := 22) (S := fun w' => w'.cell? ⟨gb248, 0, none⟩ = some (.int .i64 a0_0) ∧ w'.cell? ⟨gb248, 1, none⟩ = some (.int .i64 a0_1) ∧ w'.cell? ⟨gb249, 0, none⟩ = some (.int .i64 a1_0) ∧ w'.cell? ⟨gb249, 1, none⟩ = some (.int .i64 a1_1) ∧ w'.cell? ⟨gb250, 0, none⟩ = some (.int .i64 a2_0) ∧ w'.cell? ⟨gb250, 1, none⟩ = some (.int .i64 a2_1) ∧ w'.cell? ⟨gb251, 0, none⟩ = some (.int .i64 a3_0) ∧ w'.cell? ⟨gb251, 1, none⟩ = some (.int .i64 a3_1)) (ds := []) (Bs 0 22) (by kernel_rfl) rfl rfl ⟨(blk_cell BK248.out 0).trans rfl, (blk_cell BK248.out 1).trans rfl, (blk_cell BK249.out 0).trans rfl, (blk_cell BK249.out 1).trans rfl, (blk_cell BK250.out 0).trans rfl, (blk_cell BK250.out 1).trans rfl, (blk_cell BK251.out 0).trans rfl, (blk_cell BK251.out 1).trans rfl⟩ (fun hHeld => ?_); refine with_tabW R1_meet.tab1 R1_meet.bits1 (fun HT_ HW_ => ?_)
   generalize w9.drew = w15 at BK248 BK249 BK250 BK251 HB hHeld ⊢
   refine ta 0 9 (Bs 1 22) HT_ HW_ hHeld ?_
   refine ta 1 10 (Bs 2 22) HT_ HW_ hHeld ?_
   refine ta 2 11 (Bs 3 22) HT_ HW_ hHeld ?_
   refine ta 4 13 (Br [3,1,1,17]) HT_ HW_ hHeld ?_
   refine ta 5 14 (Br [3,1,2,16]) HT_ HW_ hHeld ?_
   refine ta 6 15 (Br [3,1,3,15]) HT_ HW_ hHeld ?_
   refine one_ (i := 3) (N := some 12) (Bs 7 22) rfl rfl (one_of HT_.out (by kernel_rfl)) (by decide) (fun K hK => ?_)
   refine goes_ Try.func31 (by kernel_rfl) rfl #[.agg #[.int .i64 a0_0, .int .i64 a0_1], .agg #[.int .i64 a1_0, .int .i64 a1_1], .agg #[.int .i64 a2_0, .int .i64 a2_1]] (by rfl) rfl rfl (by (try simp only [List.map_toArray, List.map_cons, List.map_nil]); first | done | rfl | (simp only [List.length_drop, List.length_take]; rfl)) ?_
   with_reducible refine (R1_Turn.calls a0_0 a0_1 a1_0 a1_1 a2_0 a2_1 t252 _ A10.out).mono ?_
   rintro e w16 ⟨rfl, hb⟩
   refine ⟨_, rfl, ?_⟩
   have n4_ := Aside0.mk (below_step lB hb)
   clear HB
   have HB := n4_
   clear n4_
   replace BK248 := Aside0.mk (blk_below (g := gb248) (o := .cells #[.int .i64 a0_0, .int .i64 a0_1] 31 (0, 0)) (kX BK248.out) hb)
   replace BK249 := Aside0.mk (blk_below (g := gb249) (o := .cells #[.int .i64 a1_0, .int .i64 a1_1] 31 (0, 0)) (kX BK249.out) hb)
   replace BK250 := Aside0.mk (blk_below (g := gb250) (o := .cells #[.int .i64 a2_0, .int .i64 a2_1] 31 (0, 0)) (kX BK250.out) hb)
   replace BK251 := Aside0.mk (blk_below (g := gb251) (o := .cells #[.int .i64 a3_0, .int .i64 a3_1] 31 (0, 0)) (kX BK251.out) hb)
   (try clear hb)
   (try clear hb2)
   (try clear hk)
   (try clear hi)
   refine hK.out _ _ ⟨(blk_cell BK248.out 0).trans rfl, (blk_cell BK248.out 1).trans rfl, (blk_cell BK249.out 0).trans rfl, (blk_cell BK249.out 1).trans rfl, (blk_cell BK250.out 0).trans rfl, (blk_cell BK250.out 1).trans rfl, (blk_cell BK251.out 0).trans rfl, (blk_cell BK251.out 1).trans rfl⟩ (fun hHeld => ?_)
   clear hK K
   refine nm 12 ?_
   refine one_ (i := 7) (N := some 16) (Bs 8 22) rfl rfl (one_of HT_.out (by kernel_rfl)) (by decide) (fun K hK => ?_)
   refine goes_ Try.func31 (by kernel_rfl) rfl #[.agg #[.int .i64 a0_0, .int .i64 a0_1], .agg #[.int .i64 a1_0, .int .i64 a1_1], .agg #[.int .i64 a3_0, .int .i64 a3_1]] (by rfl) rfl rfl (by (try simp only [List.map_toArray, List.map_cons, List.map_nil]); first | done | rfl | (simp only [List.length_drop, List.length_take]; rfl)) ?_
   with_reducible refine (R1_Turn.calls a0_0 a0_1 a1_0 a1_1 a3_0 a3_1 t253 _ A11.out).mono ?_
   rintro e w17 ⟨rfl, hb⟩
   refine ⟨_, rfl, ?_⟩
   have n4_ := Aside0.mk (below_step lB hb)
   clear HB
   have HB := n4_
   clear n4_
   replace BK248 := Aside0.mk (blk_below (g := gb248) (o := .cells #[.int .i64 a0_0, .int .i64 a0_1] 31 (0, 0)) (kX BK248.out) hb)
   replace BK249 := Aside0.mk (blk_below (g := gb249) (o := .cells #[.int .i64 a1_0, .int .i64 a1_1] 31 (0, 0)) (kX BK249.out) hb)
   replace BK250 := Aside0.mk (blk_below (g := gb250) (o := .cells #[.int .i64 a2_0, .int .i64 a2_1] 31 (0, 0)) (kX BK250.out) hb)
   replace BK251 := Aside0.mk (blk_below (g := gb251) (o := .cells #[.int .i64 a3_0, .int .i64 a3_1] 31 (0, 0)) (kX BK251.out) hb)
   (try clear hb)
   (try clear hb2)
   (try clear hk)
   (try clear hi)
   refine hK.out _ _ ⟨(blk_cell BK248.out 0).trans rfl, (blk_cell BK248.out 1).trans rfl, (blk_cell BK249.out 0).trans rfl, (blk_cell BK249.out 1).trans rfl, (blk_cell BK250.out 0).trans rfl, (blk_cell BK250.out 1).trans rfl, (blk_cell BK251.out 0).trans rfl, (blk_cell BK251.out 1).trans rfl⟩ (fun hHeld => ?_)
   clear hK K
   refine nm 16 ?_
   refine pu 8 17 (Bs 9 22) HT_ ?_
   refine pu 9 18 (Bs 10 22) HT_ ?_
   refine pu 10 19 (Bs 11 22) HT_ ?_
   refine ta 11 20 (Bs 12 22) HT_ HW_ hHeld ?_
   refine ta 12 21 (Bs 13 22) HT_ HW_ hHeld ?_
   refine ta 13 22 (Bs 14 22) HT_ HW_ hHeld ?_
   refine ta 15 24 (Br [14,1,1,6]) HT_ HW_ hHeld ?_
   refine ta 16 25 (Br [14,1,2,5]) HT_ HW_ hHeld ?_
   refine ta 17 26 (Br [14,1,3,4]) HT_ HW_ hHeld ?_
   refine one_ (i := 14) (N := some 23) (Bs 18 22) rfl rfl (one_of HT_.out (by kernel_rfl)) (by decide) (fun K hK => ?_)
   refine goes_ Try.func31 (by kernel_rfl) rfl #[.agg #[.int .i64 a2_0, .int .i64 a2_1], .agg #[.int .i64 a3_0, .int .i64 a3_1], .agg #[.int .i64 a0_0, .int .i64 a0_1]] (by rfl) rfl rfl (by (try simp only [List.map_toArray, List.map_cons, List.map_nil]); first | done | rfl | (simp only [List.length_drop, List.length_take]; rfl)) ?_
   with_reducible refine (R1_Turn.calls a2_0 a2_1 a3_0 a3_1 a0_0 a0_1 t254 _ A13.out).mono ?_
   rintro e w18 ⟨rfl, hb⟩
   refine ⟨_, rfl, ?_⟩
   have n4_ := Aside0.mk (below_step lB hb)
   clear HB
   have HB := n4_
   clear n4_
   replace BK248 := Aside0.mk (blk_below (g := gb248) (o := .cells #[.int .i64 a0_0, .int .i64 a0_1] 31 (0, 0)) (kX BK248.out) hb)
   replace BK249 := Aside0.mk (blk_below (g := gb249) (o := .cells #[.int .i64 a1_0, .int .i64 a1_1] 31 (0, 0)) (kX BK249.out) hb)
   replace BK250 := Aside0.mk (blk_below (g := gb250) (o := .cells #[.int .i64 a2_0, .int .i64 a2_1] 31 (0, 0)) (kX BK250.out) hb)
   replace BK251 := Aside0.mk (blk_below (g := gb251) (o := .cells #[.int .i64 a3_0, .int .i64 a3_1] 31 (0, 0)) (kX BK251.out) hb)
   (try clear hb)
   (try clear hb2)
   (try clear hk)
   (try clear hi)
   refine hK.out _ _ ⟨(blk_cell BK248.out 0).trans rfl, (blk_cell BK248.out 1).trans rfl, (blk_cell BK249.out 0).trans rfl, (blk_cell BK249.out 1).trans rfl, (blk_cell BK250.out 0).trans rfl, (blk_cell BK250.out 1).trans rfl, (blk_cell BK251.out 0).trans rfl, (blk_cell BK251.out 1).trans rfl⟩ (fun hHeld => ?_)
   clear hK K
   refine nm 23 ?_
   refine one_ (i := 18) (N := some 27) (Bs 19 22) rfl rfl (one_of HT_.out (by kernel_rfl)) (by decide) (fun K hK => ?_)
   refine goes_ Try.func31 (by kernel_rfl) rfl #[.agg #[.int .i64 a2_0, .int .i64 a2_1], .agg #[.int .i64 a3_0, .int .i64 a3_1], .agg #[.int .i64 a1_0, .int .i64 a1_1]] (by rfl) rfl rfl (by (try simp only [List.map_toArray, List.map_cons, List.map_nil]); first | done | rfl | (simp only [List.length_drop, List.length_take]; rfl)) ?_
   with_reducible refine (R1_Turn.calls a2_0 a2_1 a3_0 a3_1 a1_0 a1_1 t255 _ A14.out).mono ?_
   rintro e w19 ⟨rfl, hb⟩
   refine ⟨_, rfl, ?_⟩
   have n4_ := Aside0.mk (below_step lB hb)
   clear HB
   have HB := n4_
   clear n4_
   replace BK248 := Aside0.mk (blk_below (g := gb248) (o := .cells #[.int .i64 a0_0, .int .i64 a0_1] 31 (0, 0)) (kX BK248.out) hb)
   replace BK249 := Aside0.mk (blk_below (g := gb249) (o := .cells #[.int .i64 a1_0, .int .i64 a1_1] 31 (0, 0)) (kX BK249.out) hb)
   replace BK250 := Aside0.mk (blk_below (g := gb250) (o := .cells #[.int .i64 a2_0, .int .i64 a2_1] 31 (0, 0)) (kX BK250.out) hb)
   replace BK251 := Aside0.mk (blk_below (g := gb251) (o := .cells #[.int .i64 a3_0, .int .i64 a3_1] 31 (0, 0)) (kX BK251.out) hb)
   (try clear hb)
   (try clear hb2)
   (try clear hk)
   (try clear hi)
   refine hK.out _ _ ⟨(blk_cell BK248.out 0).trans rfl, (blk_cell BK248.out 1).trans rfl, (blk_cell BK249.out 0).trans rfl, (blk_cell BK249.out 1).trans rfl, (blk_cell BK250.out 0).trans rfl, (blk_cell BK250.out 1).trans rfl, (blk_cell BK251.out 0).trans rfl, (blk_cell BK251.out 1).trans rfl⟩ (fun hHeld => ?_)
   clear hK K
   refine nm 27 ?_
   refine pu 19 28 (Bs 20 22) HT_ ?_
   refine pu 20 29 (Bs 21 22) HT_ ?_
   refine pu 21 30 (Bs 22 22) HT_ ?_
   refine done_ (done_of HT_.out (by kernel_rfl)) ?_
   try go_wp2
   go_meet
   case rel => exact ⟨_, (decide ((wrap64 (t254 * t255)) < 0)), (by first | rfl | (simp; done) | (simp [*]; done)), H', ⟨by first | omega | exact Nat.le_refl _⟩, ⟨by (with_reducible repeat (first | refine kN ?_ _ | refine kD ?_ | refine kA ?_ _)); exact BK248.out⟩, ⟨by (with_reducible repeat (first | refine kN ?_ _ | refine kD ?_ | refine kA ?_ _)); exact BK249.out⟩, ⟨by (with_reducible repeat (first | refine kN ?_ _ | refine kD ?_ | refine kA ?_ _)); exact BK250.out⟩, ⟨by (with_reducible repeat (first | refine kN ?_ _ | refine kD ?_ | refine kA ?_ _)); exact BK251.out⟩, ⟨by repeat (first | (with_reducible first | exact HB.out | apply lA | apply lN | apply lD | refine lS ?_ GE248.out | refine lS ?_ GE249.out | refine lS ?_ GE250.out | refine lS ?_ GE251.out) | exact HB.out)⟩⟩
  rw [if_neg c12] at H
  have c12b0 : decide ((wrap64 (t252 * t253)) < 0) = false := decide_eq_false c12
  clear c12
  (first | rw [c12b0] | (simp only [i64_w, i32_w]; rw [c12b0]) | skip)
  have H' := Aside0.mk H
  clear H
  try go_wp2
  replace BK248 := Aside0.mk (kD BK248.out)
  replace BK249 := Aside0.mk (kD BK249.out)
  replace BK250 := Aside0.mk (kD BK250.out)
  replace BK251 := Aside0.mk (kD BK251.out)
  replace HB := Aside0.mk (lD HB.out)
  refine start_ (n := 22) (S := fun w' => w'.cell? ⟨gb248, 0, none⟩ = some (.int .i64 a0_0) ∧ w'.cell? ⟨gb248, 1, none⟩ = some (.int .i64 a0_1) ∧ w'.cell? ⟨gb249, 0, none⟩ = some (.int .i64 a1_0) ∧ w'.cell? ⟨gb249, 1, none⟩ = some (.int .i64 a1_1) ∧ w'.cell? ⟨gb250, 0, none⟩ = some (.int .i64 a2_0) ∧ w'.cell? ⟨gb250, 1, none⟩ = some (.int .i64 a2_1) ∧ w'.cell? ⟨gb251, 0, none⟩ = some (.int .i64 a3_0) ∧ w'.cell? ⟨gb251, 1, none⟩ = some (.int .i64 a3_1)) (ds := []) (Bs 0 22) (by kernel_rfl) rfl rfl ⟨(blk_cell BK248.out 0).trans rfl, (blk_cell BK248.out 1).trans rfl, (blk_cell BK249.out 0).trans rfl, (blk_cell BK249.out 1).trans rfl, (blk_cell BK250.out 0).trans rfl, (blk_cell BK250.out 1).trans rfl, (blk_cell BK251.out 0).trans rfl, (blk_cell BK251.out 1).trans rfl⟩ (fun hHeld => ?_); refine with_tabW R1_meet.tab1 R1_meet.bits1 (fun HT_ HW_ => ?_)
  generalize w9.drew = w20 at BK248 BK249 BK250 BK251 HB hHeld ⊢
  refine ta 0 9 (Bs 1 22) HT_ HW_ hHeld ?_
  refine ta 1 10 (Bs 2 22) HT_ HW_ hHeld ?_
  refine ta 2 11 (Bs 3 22) HT_ HW_ hHeld ?_
  refine ta 4 13 (Br [3,1,1,17]) HT_ HW_ hHeld ?_
  refine ta 5 14 (Br [3,1,2,16]) HT_ HW_ hHeld ?_
  refine ta 6 15 (Br [3,1,3,15]) HT_ HW_ hHeld ?_
  refine one_ (i := 3) (N := some 12) (Bs 7 22) rfl rfl (one_of HT_.out (by kernel_rfl)) (by decide) (fun K hK => ?_)
  refine goes_ Try.func31 (by kernel_rfl) rfl #[.agg #[.int .i64 a0_0, .int .i64 a0_1], .agg #[.int .i64 a1_0, .int .i64 a1_1], .agg #[.int .i64 a2_0, .int .i64 a2_1]] (by rfl) rfl rfl (by (try simp only [List.map_toArray, List.map_cons, List.map_nil]); first | done | rfl | (simp only [List.length_drop, List.length_take]; rfl)) ?_
  with_reducible refine (R1_Turn.calls a0_0 a0_1 a1_0 a1_1 a2_0 a2_1 t252 _ A10.out).mono ?_
  rintro e w21 ⟨rfl, hb⟩
  refine ⟨_, rfl, ?_⟩
  have n4_ := Aside0.mk (below_step lB hb)
  clear HB
  have HB := n4_
  clear n4_
  replace BK248 := Aside0.mk (blk_below (g := gb248) (o := .cells #[.int .i64 a0_0, .int .i64 a0_1] 31 (0, 0)) (kX BK248.out) hb)
  replace BK249 := Aside0.mk (blk_below (g := gb249) (o := .cells #[.int .i64 a1_0, .int .i64 a1_1] 31 (0, 0)) (kX BK249.out) hb)
  replace BK250 := Aside0.mk (blk_below (g := gb250) (o := .cells #[.int .i64 a2_0, .int .i64 a2_1] 31 (0, 0)) (kX BK250.out) hb)
  replace BK251 := Aside0.mk (blk_below (g := gb251) (o := .cells #[.int .i64 a3_0, .int .i64 a3_1] 31 (0, 0)) (kX BK251.out) hb)
  (try clear hb)
  (try clear hb2)
  (try clear hk)
  (try clear hi)
  refine hK.out _ _ ⟨(blk_cell BK248.out 0).trans rfl, (blk_cell BK248.out 1).trans rfl, (blk_cell BK249.out 0).trans rfl, (blk_cell BK249.out 1).trans rfl, (blk_cell BK250.out 0).trans rfl, (blk_cell BK250.out 1).trans rfl, (blk_cell BK251.out 0).trans rfl, (blk_cell BK251.out 1).trans rfl⟩ (fun hHeld => ?_)
  clear hK K
  refine nm 12 ?_
  refine one_ (i := 7) (N := some 16) (Bs 8 22) rfl rfl (one_of HT_.out (by kernel_rfl)) (by decide) (fun K hK => ?_)
  refine goes_ Try.func31 (by kernel_rfl) rfl #[.agg #[.int .i64 a0_0, .int .i64 a0_1], .agg #[.int .i64 a1_0, .int .i64 a1_1], .agg #[.int .i64 a3_0, .int .i64 a3_1]] (by rfl) rfl rfl (by (try simp only [List.map_toArray, List.map_cons, List.map_nil]); first | done | rfl | (simp only [List.length_drop, List.length_take]; rfl)) ?_
  with_reducible refine (R1_Turn.calls a0_0 a0_1 a1_0 a1_1 a3_0 a3_1 t253 _ A11.out).mono ?_
  rintro e w22 ⟨rfl, hb⟩
  refine ⟨_, rfl, ?_⟩
  have n4_ := Aside0.mk (below_step lB hb)
  clear HB
  have HB := n4_
  clear n4_
  replace BK248 := Aside0.mk (blk_below (g := gb248) (o := .cells #[.int .i64 a0_0, .int .i64 a0_1] 31 (0, 0)) (kX BK248.out) hb)
  replace BK249 := Aside0.mk (blk_below (g := gb249) (o := .cells #[.int .i64 a1_0, .int .i64 a1_1] 31 (0, 0)) (kX BK249.out) hb)
  replace BK250 := Aside0.mk (blk_below (g := gb250) (o := .cells #[.int .i64 a2_0, .int .i64 a2_1] 31 (0, 0)) (kX BK250.out) hb)
  replace BK251 := Aside0.mk (blk_below (g := gb251) (o := .cells #[.int .i64 a3_0, .int .i64 a3_1] 31 (0, 0)) (kX BK251.out) hb)
  (try clear hb)
  (try clear hb2)
  (try clear hk)
  (try clear hi)
  refine hK.out _ _ ⟨(blk_cell BK248.out 0).trans rfl, (blk_cell BK248.out 1).trans rfl, (blk_cell BK249.out 0).trans rfl, (blk_cell BK249.out 1).trans rfl, (blk_cell BK250.out 0).trans rfl, (blk_cell BK250.out 1).trans rfl, (blk_cell BK251.out 0).trans rfl, (blk_cell BK251.out 1).trans rfl⟩ (fun hHeld => ?_)
  clear hK K
  refine nm 16 ?_
  refine pu 8 17 (Bs 9 22) HT_ ?_
  refine pu 9 18 (Bs 10 22) HT_ ?_
  refine pu 10 19 (Bs 11 22) HT_ ?_
  refine po 11 20 (Bs 12 22) HT_ ?_
  refine po 12 21 (Bs 13 22) HT_ ?_
  refine po 13 22 (Bs 14 22) HT_ ?_
  refine po 14 23 (Bs 15 22) HT_ ?_
  refine po 15 24 (Bs 16 22) HT_ ?_
  refine po 16 25 (Bs 17 22) HT_ ?_
  refine po 17 26 (Bs 18 22) HT_ ?_
  refine po 18 27 (Bs 19 22) HT_ ?_
  refine po 19 28 (Bs 20 22) HT_ ?_
  refine po 20 29 (Bs 21 22) HT_ ?_
  refine pu 21 30 (Bs 22 22) HT_ ?_
  refine done_ (done_of HT_.out (by kernel_rfl)) ?_
  try go_wp2
  go_meet
  case rel => exact ⟨_, (false), (by first | rfl | (simp; done) | (simp [*]; done)), H', ⟨by first | omega | exact Nat.le_refl _⟩, ⟨by (with_reducible repeat (first | refine kN ?_ _ | refine kD ?_ | refine kA ?_ _)); exact BK248.out⟩, ⟨by (with_reducible repeat (first | refine kN ?_ _ | refine kD ?_ | refine kA ?_ _)); exact BK249.out⟩, ⟨by (with_reducible repeat (first | refine kN ?_ _ | refine kD ?_ | refine kA ?_ _)); exact BK250.out⟩, ⟨by (with_reducible repeat (first | refine kN ?_ _ | refine kD ?_ | refine kA ?_ _)); exact BK251.out⟩, ⟨by repeat (first | (with_reducible first | exact HB.out | apply lA | apply lN | apply lD | refine lS ?_ GE248.out | refine lS ?_ GE249.out | refine lS ?_ GE250.out | refine lS ?_ GE251.out) | exact HB.out)⟩⟩
 case rest =>
  clear HC5
  try clear c1
  try clear p2
  try clear c3
  try clear c6
  try clear p6
  try clear c12
  try clear c12b0
  obtain ⟨kq, x30_4, rfl, HA, HJ4, BK248, BK249, BK250, BK251, HB⟩ := hcut
  cases kq with
  | zero => exact absurd HA.out (by simp [R1_meet.j0])
  | succ kj4 =>
   have H := HA.out
   clear HA
   simp only [R1_meet.j0] at H
   by_cases c23 : x30_4 = true
   subst c23
   have H1 : (some true) = some r := by rw [if_pos rfl] at H; exact H
   clear H
   have H := H1
   clear H1
   obtain rfl := Option.some.inj H
   rotate_left 1
   replace c23 := Bool.eq_false_iff.mpr c23
   subst c23
   have H1 : ((R1_on.f a0_0 a0_1 a1_0 a1_1 a2_0 a2_1).bind fun t256 => (if t256 = true then (some true) else ((R1_on.f a0_0 a0_1 a1_0 a1_1 a3_0 a3_1).bind fun t257 => (if t257 = true then (some true) else ((R1_on.f a2_0 a2_1 a3_0 a3_1 a0_0 a0_1).bind fun t258 => (if t258 = true then (some true) else ((R1_on.f a2_0 a2_1 a3_0 a3_1 a1_0 a1_1).bind fun t259 => (some t259)))))))) = some r := by rw [if_neg (show ¬ (false = true) by decide)] at H; exact H
   clear H
   have H := H1
   clear H1
   replace H := Option.bind_eq_some_iff.mp H
   obtain ⟨t256, A240, H⟩ := H
   replace H : (if t256 = true then (some true) else ((R1_on.f a0_0 a0_1 a1_0 a1_1 a3_0 a3_1).bind fun t257 => (if t257 = true then (some true) else ((R1_on.f a2_0 a2_1 a3_0 a3_1 a0_0 a0_1).bind fun t258 => (if t258 = true then (some true) else ((R1_on.f a2_0 a2_1 a3_0 a3_1 a1_0 a1_1).bind fun t259 => (some t259))))))) = some r := H
   have A24 := Aside0.mk A240
   clear A240
   by_cases c25 : t256 = true
   subst c25
   have H1 : (some true) = some r := by rw [if_pos rfl] at H; exact H
   clear H
   have H := H1
   clear H1
   obtain rfl := Option.some.inj H
   have hnb26 := NB248_249.out
   have hnc26 := NB249_248.out
   have hnb27 := NB248_250.out
   have hnc27 := NB250_248.out
   have hnb28 := NB248_251.out
   have hnc28 := NB251_248.out
   have hcz29_0 : wc.cell? ⟨gb248, 0, none⟩ = some (.int .i64 a0_0) := (blk_cell BK248.out 0).trans rfl
   have hcz29_1 : wc.cell? ⟨gb248, 1, none⟩ = some (.int .i64 a0_1) := (blk_cell BK248.out 1).trans rfl
   have hfz29_0 := blk_frozen BK248.out 0
   have hfz29_1 := blk_frozen BK248.out 1
   have hnb30 := NB249_250.out
   have hnc30 := NB250_249.out
   have hnb31 := NB249_251.out
   have hnc31 := NB251_249.out
   have hcz32_0 : wc.cell? ⟨gb249, 0, none⟩ = some (.int .i64 a1_0) := (blk_cell BK249.out 0).trans rfl
   have hcz32_1 : wc.cell? ⟨gb249, 1, none⟩ = some (.int .i64 a1_1) := (blk_cell BK249.out 1).trans rfl
   have hfz32_0 := blk_frozen BK249.out 0
   have hfz32_1 := blk_frozen BK249.out 1
   have hnb33 := NB250_251.out
   have hnc33 := NB251_250.out
   have hcz34_0 : wc.cell? ⟨gb250, 0, none⟩ = some (.int .i64 a2_0) := (blk_cell BK250.out 0).trans rfl
   have hcz34_1 : wc.cell? ⟨gb250, 1, none⟩ = some (.int .i64 a2_1) := (blk_cell BK250.out 1).trans rfl
   have hfz34_0 := blk_frozen BK250.out 0
   have hfz34_1 := blk_frozen BK250.out 1
   rotate_left 1
   replace c25 := Bool.eq_false_iff.mpr c25
   subst c25
   have H1 : ((R1_on.f a0_0 a0_1 a1_0 a1_1 a3_0 a3_1).bind fun t257 => (if t257 = true then (some true) else ((R1_on.f a2_0 a2_1 a3_0 a3_1 a0_0 a0_1).bind fun t258 => (if t258 = true then (some true) else ((R1_on.f a2_0 a2_1 a3_0 a3_1 a1_0 a1_1).bind fun t259 => (some t259)))))) = some r := by rw [if_neg (show ¬ (false = true) by decide)] at H; exact H
   clear H
   have H := H1
   clear H1
   replace H := Option.bind_eq_some_iff.mp H
   obtain ⟨t257, A360, H⟩ := H
   replace H : (if t257 = true then (some true) else ((R1_on.f a2_0 a2_1 a3_0 a3_1 a0_0 a0_1).bind fun t258 => (if t258 = true then (some true) else ((R1_on.f a2_0 a2_1 a3_0 a3_1 a1_0 a1_1).bind fun t259 => (some t259))))) = some r := H
   have A36 := Aside0.mk A360
   clear A360
   by_cases c37 : t257 = true
   subst c37
   have H1 : (some true) = some r := by rw [if_pos rfl] at H; exact H
   clear H
   have H := H1
   clear H1
   obtain rfl := Option.some.inj H
   have hnb38 := NB248_249.out
   have hnc38 := NB249_248.out
   have hnb39 := NB248_250.out
   have hnc39 := NB250_248.out
   have hnb40 := NB248_251.out
   have hnc40 := NB251_248.out
   have hcz41_0 : wc.cell? ⟨gb248, 0, none⟩ = some (.int .i64 a0_0) := (blk_cell BK248.out 0).trans rfl
   have hcz41_1 : wc.cell? ⟨gb248, 1, none⟩ = some (.int .i64 a0_1) := (blk_cell BK248.out 1).trans rfl
   have hfz41_0 := blk_frozen BK248.out 0
   have hfz41_1 := blk_frozen BK248.out 1
   have hnb42 := NB249_250.out
   have hnc42 := NB250_249.out
   have hnb43 := NB249_251.out
   have hnc43 := NB251_249.out
   have hcz44_0 : wc.cell? ⟨gb249, 0, none⟩ = some (.int .i64 a1_0) := (blk_cell BK249.out 0).trans rfl
   have hcz44_1 : wc.cell? ⟨gb249, 1, none⟩ = some (.int .i64 a1_1) := (blk_cell BK249.out 1).trans rfl
   have hfz44_0 := blk_frozen BK249.out 0
   have hfz44_1 := blk_frozen BK249.out 1
   have hnb45 := NB250_251.out
   have hnc45 := NB251_250.out
   have hcz46_0 : wc.cell? ⟨gb250, 0, none⟩ = some (.int .i64 a2_0) := (blk_cell BK250.out 0).trans rfl
   have hcz46_1 : wc.cell? ⟨gb250, 1, none⟩ = some (.int .i64 a2_1) := (blk_cell BK250.out 1).trans rfl
   have hfz46_0 := blk_frozen BK250.out 0
   have hfz46_1 := blk_frozen BK250.out 1
   rotate_left 1
   replace c37 := Bool.eq_false_iff.mpr c37
   subst c37
   have H1 : ((R1_on.f a2_0 a2_1 a3_0 a3_1 a0_0 a0_1).bind fun t258 => (if t258 = true then (some true) else ((R1_on.f a2_0 a2_1 a3_0 a3_1 a1_0 a1_1).bind fun t259 => (some t259)))) = some r := by rw [if_neg (show ¬ (false = true) by decide)] at H; exact H
   clear H
   have H := H1
   clear H1
   replace H := Option.bind_eq_some_iff.mp H
   obtain ⟨t258, A520, H⟩ := H
   replace H : (if t258 = true then (some true) else ((R1_on.f a2_0 a2_1 a3_0 a3_1 a1_0 a1_1).bind fun t259 => (some t259))) = some r := H
   have A52 := Aside0.mk A520
   clear A520
   by_cases c53 : t258 = true
   subst c53
   have H1 : (some true) = some r := by rw [if_pos rfl] at H; exact H
   clear H
   have H := H1
   clear H1
   obtain rfl := Option.some.inj H
   have hnb54 := NB248_249.out
   have hnc54 := NB249_248.out
   have hnb55 := NB248_250.out
   have hnc55 := NB250_248.out
   have hnb56 := NB248_251.out
   have hnc56 := NB251_248.out
   have hcz57_0 : wc.cell? ⟨gb248, 0, none⟩ = some (.int .i64 a0_0) := (blk_cell BK248.out 0).trans rfl
   have hcz57_1 : wc.cell? ⟨gb248, 1, none⟩ = some (.int .i64 a0_1) := (blk_cell BK248.out 1).trans rfl
   have hfz57_0 := blk_frozen BK248.out 0
   have hfz57_1 := blk_frozen BK248.out 1
   have hnb58 := NB249_250.out
   have hnc58 := NB250_249.out
   have hnb59 := NB249_251.out
   have hnc59 := NB251_249.out
   have hcz60_0 : wc.cell? ⟨gb249, 0, none⟩ = some (.int .i64 a1_0) := (blk_cell BK249.out 0).trans rfl
   have hcz60_1 : wc.cell? ⟨gb249, 1, none⟩ = some (.int .i64 a1_1) := (blk_cell BK249.out 1).trans rfl
   have hfz60_0 := blk_frozen BK249.out 0
   have hfz60_1 := blk_frozen BK249.out 1
   have hnb61 := NB250_251.out
   have hnc61 := NB251_250.out
   have hcz62_0 : wc.cell? ⟨gb250, 0, none⟩ = some (.int .i64 a2_0) := (blk_cell BK250.out 0).trans rfl
   have hcz62_1 : wc.cell? ⟨gb250, 1, none⟩ = some (.int .i64 a2_1) := (blk_cell BK250.out 1).trans rfl
   have hfz62_0 := blk_frozen BK250.out 0
   have hfz62_1 := blk_frozen BK250.out 1
   rotate_left 1
   replace c53 := Bool.eq_false_iff.mpr c53
   subst c53
   have H1 : ((R1_on.f a2_0 a2_1 a3_0 a3_1 a1_0 a1_1).bind fun t259 => (some t259)) = some r := by rw [if_neg (show ¬ (false = true) by decide)] at H; exact H
   clear H
   have H := H1
   clear H1
   replace H := Option.bind_eq_some_iff.mp H
   obtain ⟨t259, A720, H⟩ := H
   replace H : (some t259) = some r := H
   have A72 := Aside0.mk A720
   clear A720
   obtain rfl := Option.some.inj H
   have hnb73 := NB248_249.out
   have hnc73 := NB249_248.out
   have hnb74 := NB248_250.out
   have hnc74 := NB250_248.out
   have hnb75 := NB248_251.out
   have hnc75 := NB251_248.out
   have hcz76_0 : wc.cell? ⟨gb248, 0, none⟩ = some (.int .i64 a0_0) := (blk_cell BK248.out 0).trans rfl
   have hcz76_1 : wc.cell? ⟨gb248, 1, none⟩ = some (.int .i64 a0_1) := (blk_cell BK248.out 1).trans rfl
   have hfz76_0 := blk_frozen BK248.out 0
   have hfz76_1 := blk_frozen BK248.out 1
   have hnb77 := NB249_250.out
   have hnc77 := NB250_249.out
   have hnb78 := NB249_251.out
   have hnc78 := NB251_249.out
   have hcz79_0 : wc.cell? ⟨gb249, 0, none⟩ = some (.int .i64 a1_0) := (blk_cell BK249.out 0).trans rfl
   have hcz79_1 : wc.cell? ⟨gb249, 1, none⟩ = some (.int .i64 a1_1) := (blk_cell BK249.out 1).trans rfl
   have hfz79_0 := blk_frozen BK249.out 0
   have hfz79_1 := blk_frozen BK249.out 1
   have hnb80 := NB250_251.out
   have hnc80 := NB251_250.out
   have hcz81_0 : wc.cell? ⟨gb250, 0, none⟩ = some (.int .i64 a2_0) := (blk_cell BK250.out 0).trans rfl
   have hcz81_1 : wc.cell? ⟨gb250, 1, none⟩ = some (.int .i64 a2_1) := (blk_cell BK250.out 1).trans rfl
   have hfz81_0 := blk_frozen BK250.out 0
   have hfz81_1 := blk_frozen BK250.out 1
   all_goals go_wp2_with (first | ((with_reducible refine gate_callee (f := 59) rfl ?_); refine goesL_ (some 34) rfl rfl Try.func59 (by kernel_rfl) rfl #[.agg #[.int .i64 a0_0, .int .i64 a0_1], .agg #[.int .i64 a1_0, .int .i64 a1_1], .agg #[.int .i64 a2_0, .int .i64 a2_1]] rfl (by (try simp only [List.map_toArray, List.map_cons, List.map_nil]); first | done | rfl | (simp only [List.length_drop, List.length_take]; rfl)) ?_; (with_reducible refine (R1_on.calls a0_0 a0_1 a1_0 a1_1 a2_0 a2_1 false _ A24.out).mono ?_); rintro e wz0 ⟨rfl, hb⟩; refine ⟨_, rfl, ?_⟩; have n0_ := Aside0.mk (blk_below (g := gb248) (o := .cells #[.int .i64 a0_0, .int .i64 a0_1] 31 (0, 0)) (kX BK248.out) hb); have n1_ := Aside0.mk (blk_below (g := gb249) (o := .cells #[.int .i64 a1_0, .int .i64 a1_1] 31 (0, 0)) (kX BK249.out) hb); have n2_ := Aside0.mk (blk_below (g := gb250) (o := .cells #[.int .i64 a2_0, .int .i64 a2_1] 31 (0, 0)) (kX BK250.out) hb); have n3_ := Aside0.mk (blk_below (g := gb251) (o := .cells #[.int .i64 a3_0, .int .i64 a3_1] 31 (0, 0)) (kX BK251.out) hb); have n4_ := Aside0.mk (below_step lB hb); clear BK248; clear BK249; clear BK250; clear BK251; clear HB; have BK248 := n0_; have BK249 := n1_; have BK250 := n2_; have BK251 := n3_; have HB := n4_; clear n0_ n1_ n2_ n3_ n4_; (try clear hb); (try clear hb2); (try clear hk); (try clear hi); have hcz48_0 : wz0.cell? ⟨gb248, 0, none⟩ = some (.int .i64 a0_0) := (blk_cell BK248.out 0).trans rfl; have hcz48_1 : wz0.cell? ⟨gb248, 1, none⟩ = some (.int .i64 a0_1) := (blk_cell BK248.out 1).trans rfl; have hfz48_0 := blk_frozen BK248.out 0; have hfz48_1 := blk_frozen BK248.out 1; have hcz49_0 : wz0.cell? ⟨gb249, 0, none⟩ = some (.int .i64 a1_0) := (blk_cell BK249.out 0).trans rfl; have hcz49_1 : wz0.cell? ⟨gb249, 1, none⟩ = some (.int .i64 a1_1) := (blk_cell BK249.out 1).trans rfl; have hfz49_0 := blk_frozen BK249.out 0; have hfz49_1 := blk_frozen BK249.out 1; have hcz50_0 : wz0.cell? ⟨gb251, 0, none⟩ = some (.int .i64 a3_0) := (blk_cell BK251.out 0).trans rfl; have hcz50_1 : wz0.cell? ⟨gb251, 1, none⟩ = some (.int .i64 a3_1) := (blk_cell BK251.out 1).trans rfl; have hfz50_0 := blk_frozen BK251.out 0; have hfz50_1 := blk_frozen BK251.out 1) | (go_at_call 59; (with_reducible refine (R1_on.calls a0_0 a0_1 a1_0 a1_1 a3_0 a3_1 false _ A36.out).mono ?_); rintro e wz1 ⟨rfl, hb⟩; have n0_ := Aside0.mk (blk_below (g := gb248) (o := .cells #[.int .i64 a0_0, .int .i64 a0_1] 31 (0, 0)) (kX BK248.out) hb); have n1_ := Aside0.mk (blk_below (g := gb249) (o := .cells #[.int .i64 a1_0, .int .i64 a1_1] 31 (0, 0)) (kX BK249.out) hb); have n2_ := Aside0.mk (blk_below (g := gb250) (o := .cells #[.int .i64 a2_0, .int .i64 a2_1] 31 (0, 0)) (kX BK250.out) hb); have n3_ := Aside0.mk (blk_below (g := gb251) (o := .cells #[.int .i64 a3_0, .int .i64 a3_1] 31 (0, 0)) (kX BK251.out) hb); have n4_ := Aside0.mk (below_step lB hb); clear BK248; clear BK249; clear BK250; clear BK251; clear HB; have BK248 := n0_; have BK249 := n1_; have BK250 := n2_; have BK251 := n3_; have HB := n4_; clear n0_ n1_ n2_ n3_ n4_; (try clear hb); (try clear hb2); (try clear hk); (try clear hi); have hcz68_0 : wz1.cell? ⟨gb250, 0, none⟩ = some (.int .i64 a2_0) := (blk_cell BK250.out 0).trans rfl; have hcz68_1 : wz1.cell? ⟨gb250, 1, none⟩ = some (.int .i64 a2_1) := (blk_cell BK250.out 1).trans rfl; have hfz68_0 := blk_frozen BK250.out 0; have hfz68_1 := blk_frozen BK250.out 1; have hcz69_0 : wz1.cell? ⟨gb251, 0, none⟩ = some (.int .i64 a3_0) := (blk_cell BK251.out 0).trans rfl; have hcz69_1 : wz1.cell? ⟨gb251, 1, none⟩ = some (.int .i64 a3_1) := (blk_cell BK251.out 1).trans rfl; have hfz69_0 := blk_frozen BK251.out 0; have hfz69_1 := blk_frozen BK251.out 1; have hcz70_0 : wz1.cell? ⟨gb248, 0, none⟩ = some (.int .i64 a0_0) := (blk_cell BK248.out 0).trans rfl; have hcz70_1 : wz1.cell? ⟨gb248, 1, none⟩ = some (.int .i64 a0_1) := (blk_cell BK248.out 1).trans rfl; have hfz70_0 := blk_frozen BK248.out 0; have hfz70_1 := blk_frozen BK248.out 1) | (go_at_call 59; (with_reducible refine (R1_on.calls a2_0 a2_1 a3_0 a3_1 a0_0 a0_1 false _ A52.out).mono ?_); rintro e wz2 ⟨rfl, hb⟩; have n0_ := Aside0.mk (blk_below (g := gb248) (o := .cells #[.int .i64 a0_0, .int .i64 a0_1] 31 (0, 0)) (kX BK248.out) hb); have n1_ := Aside0.mk (blk_below (g := gb249) (o := .cells #[.int .i64 a1_0, .int .i64 a1_1] 31 (0, 0)) (kX BK249.out) hb); have n2_ := Aside0.mk (blk_below (g := gb250) (o := .cells #[.int .i64 a2_0, .int .i64 a2_1] 31 (0, 0)) (kX BK250.out) hb); have n3_ := Aside0.mk (blk_below (g := gb251) (o := .cells #[.int .i64 a3_0, .int .i64 a3_1] 31 (0, 0)) (kX BK251.out) hb); have n4_ := Aside0.mk (below_step lB hb); clear BK248; clear BK249; clear BK250; clear BK251; clear HB; have BK248 := n0_; have BK249 := n1_; have BK250 := n2_; have BK251 := n3_; have HB := n4_; clear n0_ n1_ n2_ n3_ n4_; (try clear hb); (try clear hb2); (try clear hk); (try clear hi); have hcz91_0 : wz2.cell? ⟨gb250, 0, none⟩ = some (.int .i64 a2_0) := (blk_cell BK250.out 0).trans rfl; have hcz91_1 : wz2.cell? ⟨gb250, 1, none⟩ = some (.int .i64 a2_1) := (blk_cell BK250.out 1).trans rfl; have hfz91_0 := blk_frozen BK250.out 0; have hfz91_1 := blk_frozen BK250.out 1; have hcz92_0 : wz2.cell? ⟨gb251, 0, none⟩ = some (.int .i64 a3_0) := (blk_cell BK251.out 0).trans rfl; have hcz92_1 : wz2.cell? ⟨gb251, 1, none⟩ = some (.int .i64 a3_1) := (blk_cell BK251.out 1).trans rfl; have hfz92_0 := blk_frozen BK251.out 0; have hfz92_1 := blk_frozen BK251.out 1; have hcz93_0 : wz2.cell? ⟨gb249, 0, none⟩ = some (.int .i64 a1_0) := (blk_cell BK249.out 0).trans rfl; have hcz93_1 : wz2.cell? ⟨gb249, 1, none⟩ = some (.int .i64 a1_1) := (blk_cell BK249.out 1).trans rfl; have hfz93_0 := blk_frozen BK249.out 0; have hfz93_1 := blk_frozen BK249.out 1) | (go_at_call 59; (with_reducible refine (R1_on.calls a2_0 a2_1 a3_0 a3_1 a1_0 a1_1 t259 _ A72.out).mono ?_); rintro e wz3 ⟨rfl, hb⟩; have n0_ := Aside0.mk (blk_below (g := gb248) (o := .cells #[.int .i64 a0_0, .int .i64 a0_1] 31 (0, 0)) (kX BK248.out) hb); have n1_ := Aside0.mk (blk_below (g := gb249) (o := .cells #[.int .i64 a1_0, .int .i64 a1_1] 31 (0, 0)) (kX BK249.out) hb); have n2_ := Aside0.mk (blk_below (g := gb250) (o := .cells #[.int .i64 a2_0, .int .i64 a2_1] 31 (0, 0)) (kX BK250.out) hb); have n3_ := Aside0.mk (blk_below (g := gb251) (o := .cells #[.int .i64 a3_0, .int .i64 a3_1] 31 (0, 0)) (kX BK251.out) hb); have n4_ := Aside0.mk (below_step lB hb); clear BK248; clear BK249; clear BK250; clear BK251; clear HB; have BK248 := n0_; have BK249 := n1_; have BK250 := n2_; have BK251 := n3_; have HB := n4_; clear n0_ n1_ n2_ n3_ n4_; (try clear hb); (try clear hb2); (try clear hk); (try clear hi)) | (go_at_call 59; (with_reducible refine (R1_on.calls a2_0 a2_1 a3_0 a3_1 a0_0 a0_1 true _ A52.out).mono ?_); rintro e wz2 ⟨rfl, hb⟩; have n0_ := Aside0.mk (blk_below (g := gb248) (o := .cells #[.int .i64 a0_0, .int .i64 a0_1] 31 (0, 0)) (kX BK248.out) hb); have n1_ := Aside0.mk (blk_below (g := gb249) (o := .cells #[.int .i64 a1_0, .int .i64 a1_1] 31 (0, 0)) (kX BK249.out) hb); have n2_ := Aside0.mk (blk_below (g := gb250) (o := .cells #[.int .i64 a2_0, .int .i64 a2_1] 31 (0, 0)) (kX BK250.out) hb); have n3_ := Aside0.mk (blk_below (g := gb251) (o := .cells #[.int .i64 a3_0, .int .i64 a3_1] 31 (0, 0)) (kX BK251.out) hb); have n4_ := Aside0.mk (below_step lB hb); clear BK248; clear BK249; clear BK250; clear BK251; clear HB; have BK248 := n0_; have BK249 := n1_; have BK250 := n2_; have BK251 := n3_; have HB := n4_; clear n0_ n1_ n2_ n3_ n4_; (try clear hb); (try clear hb2); (try clear hk); (try clear hi)) | (go_at_call 59; (with_reducible refine (R1_on.calls a0_0 a0_1 a1_0 a1_1 a3_0 a3_1 true _ A36.out).mono ?_); rintro e wz1 ⟨rfl, hb⟩; have n0_ := Aside0.mk (blk_below (g := gb248) (o := .cells #[.int .i64 a0_0, .int .i64 a0_1] 31 (0, 0)) (kX BK248.out) hb); have n1_ := Aside0.mk (blk_below (g := gb249) (o := .cells #[.int .i64 a1_0, .int .i64 a1_1] 31 (0, 0)) (kX BK249.out) hb); have n2_ := Aside0.mk (blk_below (g := gb250) (o := .cells #[.int .i64 a2_0, .int .i64 a2_1] 31 (0, 0)) (kX BK250.out) hb); have n3_ := Aside0.mk (blk_below (g := gb251) (o := .cells #[.int .i64 a3_0, .int .i64 a3_1] 31 (0, 0)) (kX BK251.out) hb); have n4_ := Aside0.mk (below_step lB hb); clear BK248; clear BK249; clear BK250; clear BK251; clear HB; have BK248 := n0_; have BK249 := n1_; have BK250 := n2_; have BK251 := n3_; have HB := n4_; clear n0_ n1_ n2_ n3_ n4_; (try clear hb); (try clear hb2); (try clear hk); (try clear hi)) | ((with_reducible refine gate_callee (f := 59) rfl ?_); refine goesL_ (some 34) rfl rfl Try.func59 (by kernel_rfl) rfl #[.agg #[.int .i64 a0_0, .int .i64 a0_1], .agg #[.int .i64 a1_0, .int .i64 a1_1], .agg #[.int .i64 a2_0, .int .i64 a2_1]] rfl (by (try simp only [List.map_toArray, List.map_cons, List.map_nil]); first | done | rfl | (simp only [List.length_drop, List.length_take]; rfl)) ?_; (with_reducible refine (R1_on.calls a0_0 a0_1 a1_0 a1_1 a2_0 a2_1 true _ A24.out).mono ?_); rintro e wz0 ⟨rfl, hb⟩; refine ⟨_, rfl, ?_⟩; have n0_ := Aside0.mk (blk_below (g := gb248) (o := .cells #[.int .i64 a0_0, .int .i64 a0_1] 31 (0, 0)) (kX BK248.out) hb); have n1_ := Aside0.mk (blk_below (g := gb249) (o := .cells #[.int .i64 a1_0, .int .i64 a1_1] 31 (0, 0)) (kX BK249.out) hb); have n2_ := Aside0.mk (blk_below (g := gb250) (o := .cells #[.int .i64 a2_0, .int .i64 a2_1] 31 (0, 0)) (kX BK250.out) hb); have n3_ := Aside0.mk (blk_below (g := gb251) (o := .cells #[.int .i64 a3_0, .int .i64 a3_1] 31 (0, 0)) (kX BK251.out) hb); have n4_ := Aside0.mk (below_step lB hb); clear BK248; clear BK249; clear BK250; clear BK251; clear HB; have BK248 := n0_; have BK249 := n1_; have BK250 := n2_; have BK251 := n3_; have HB := n4_; clear n0_ n1_ n2_ n3_ n4_; (try clear hb); (try clear hb2); (try clear hk); (try clear hi)))
   all_goals first
     | (go_ret
        exact en)

end Go.Proofs.Ythaklbjcjoolcaa.P
namespace Go.Proofs.Ythaklbjcjoolcaa.P
open Go.RowKit Go.Shelf Go.Sort YthaklbjcjoolcaaW.PrintWords YthaklbjcjoolcaaW.PrintLast YthaklbjcjoolcaaW.PrintMore
def onB (a b p : S31) : Bool := decide (crs a b p = 0) && (decide (mn a.f0 b.f0 ≤ p.f0) && (decide (p.f0 ≤ mx a.f0 b.f0) && (decide (mn a.f1 b.f1 ≤ p.f1) && decide (p.f1 ≤ mx a.f1 b.f1))))
end Go.Proofs.Ythaklbjcjoolcaa.P
namespace Go.Proofs.Ythaklbjcjoolcaa.P
open Go.RowKit YthaklbjcjoolcaaW.PrintWords YthaklbjcjoolcaaW.PrintLast YthaklbjcjoolcaaW.PrintMore
theorem onB_crs {a b p : S31} (h : onB a b p = true) : crs a b p = 0 := by
 unfold onB at h
 simp only [Bool.and_eq_true, decide_eq_true_eq] at h
 exact h.1
theorem has_is {a b p : S31} (ha : okPt a = true) (hb : okPt b = true) (hp : okPt p = true) : plane_segment_has.f a.f0 a.f1 b.f0 b.f1 p.f0 p.f1 = some (onB a b p) := by
 unfold plane_segment_has.f onB
 rw [turn_is ha hb hp, Option.bind_some, within_is, within_is]
 simp only [Option.bind_some]
 by_cases h : crs a b p = 0
 ·rw [if_pos (sgn_zero.2 h), h]
  by_cases h2 : mn a.f0 b.f0 ≤ p.f0 ∧ p.f0 ≤ mx a.f0 b.f0
  ·rw [if_pos (decide_eq_true h2)]; simp [h2.1, h2.2]
  ·rw [if_neg (by simpa using h2)]
   by_cases h3 : mn a.f0 b.f0 ≤ p.f0
   ·have h4 : ¬ p.f0 ≤ mx a.f0 b.f0 := fun h4 => h2 ⟨h3, h4⟩
    simp [h4]
   ·simp [h3]
 ·rw [if_neg (fun h' => h (sgn_zero.1 h'))]; simp [h]
def meetB (a b c d : S31) : Bool := onB a b c || (onB a b d || (onB c d a || (onB c d b || (decide (sgn (crs a b c) * sgn (crs a b d) < 0) && decide (sgn (crs c d a) * sgn (crs c d b) < 0)))))
theorem w64_sgn (x y : Int) : wrap64 (sgn x * sgn y) = sgn x * sgn y := by
 have h := mul_bd (m := 1) (n := 1) (sgn_bd x) (sgn_bd y)
 exact w64i (by omega) (by omega)
theorem meets_is {a b c d : S31} (ha : okPt a = true) (hb : okPt b = true) (hc : okPt c = true) (hd : okPt d = true) (k : Nat) : plane_segment_meets.f (k + 1) a.f0 a.f1 b.f0 b.f1 c.f0 c.f1 d.f0 d.f1 = some (meetB a b c d) := by
 have hj : ∀ x : Bool, plane_segment_meets.j0 (k + 1) x a.f0 a.f1 b.f0 b.f1 c.f0 c.f1 d.f0 d.f1 = some (x || (decide (sgn (crs a b c) * sgn (crs a b d) < 0) && decide (sgn (crs c d a) * sgn (crs c d b) < 0))) := by
  intro x
  rw [plane_segment_meets.j0, turn_is ha hb hc, turn_is ha hb hd, turn_is hc hd ha, turn_is hc hd hb]
  simp only [Option.bind_some, w64_sgn]
  cases x
  ·by_cases h : sgn (crs a b c) * sgn (crs a b d) < 0
   ·simp [h]
   ·simp [h]
  ·rfl
 unfold plane_segment_meets.f meetB
 simp only [hj]
 rw [has_is ha hb hc, has_is ha hb hd, has_is hc hd ha, has_is hc hd hb]
 simp only [Option.bind_some]
 cases onB a b c <;> cases onB a b d <;> cases onB c d a <;> cases onB c d b <;> rfl
theorem on_is {a b p : S31} (ha : okPt a = true) (hb : okPt b = true) (hp : okPt p = true) : R1_on.f a.f0 a.f1 b.f0 b.f1 p.f0 p.f1 = some (onB a b p) := by
 unfold R1_on.f onB
 rw [refturn_same, turn_is ha hb hp, Option.bind_some]
 by_cases h : crs a b p = 0
 ·rw [if_pos (sgn_zero.2 h), h]
  by_cases h1 : mn a.f0 b.f0 ≤ p.f0
  ·rw [if_pos h1]
   by_cases h2 : p.f0 ≤ mx a.f0 b.f0
   ·rw [if_pos h2]
    by_cases h3 : mn a.f1 b.f1 ≤ p.f1
    ·rw [if_pos h3]; simp [h1, h2, h3]
    ·rw [if_neg h3]; simp [h3]
   ·rw [if_neg h2]; simp [h2]
  ·rw [if_neg h1]; simp [h1]
 ·rw [if_neg (fun h' => h (sgn_zero.1 h'))]; simp [h]
theorem refmeet_is {a b c d : S31} (ha : okPt a = true) (hb : okPt b = true) (hc : okPt c = true) (hd : okPt d = true) (k : Nat) : R1_meet.f (k + 1) a.f0 a.f1 b.f0 b.f1 c.f0 c.f1 d.f0 d.f1 = some (meetB a b c d) := by
 have hj : ∀ x : Bool, R1_meet.j0 (k + 1) x a.f0 a.f1 b.f0 b.f1 c.f0 c.f1 d.f0 d.f1 = some (x || (onB a b c || (onB a b d || (onB c d a || onB c d b)))) := by
  intro x
  rw [R1_meet.j0, on_is ha hb hc, on_is ha hb hd, on_is hc hd ha, on_is hc hd hb]
  simp only [Option.bind_some]
  cases x <;> cases onB a b c <;> cases onB a b d <;> cases onB c d a <;> cases onB c d b <;> rfl
 unfold R1_meet.f meetB
 simp only [refturn_same, hj]
 rw [turn_is ha hb hc, turn_is ha hb hd, turn_is hc hd ha, turn_is hc hd hb]
 simp only [Option.bind_some, w64_sgn]
 by_cases h : sgn (crs a b c) * sgn (crs a b d) < 0
 ·rw [if_pos h, decide_eq_true h]
  generalize decide (sgn (crs c d a) * sgn (crs c d b) < 0) = z
  cases z <;> cases onB a b c <;> cases onB a b d <;> cases onB c d a <;> cases onB c d b <;> rfl
 ·rw [if_neg h, decide_eq_false h]
  cases onB a b c <;> cases onB a b d <;> cases onB c d a <;> cases onB c d b <;> rfl
end Go.Proofs.Ythaklbjcjoolcaa.P
namespace Go.Proofs.Ythaklbjcjoolcaa.P
open Go.RowKit YthaklbjcjoolcaaW.PrintWords YthaklbjcjoolcaaW.PrintLast YthaklbjcjoolcaaW.PrintMore
attribute [local go_sem] max2_int min2_int max_two min_two max_three min_three max_four min_four

def R1_next.f (a0 : Int) (a1 : Int) : Option (Int) := if (wrap64 (a0 + 1)) < a1 then (some (wrap64 (a0 + 1))) else (some 0)
set_option maxHeartbeats 8000000 in
set_option maxRecDepth 100000 in
theorem R1_next.calls (a0 : Int) (a1 : Int) (r : Int) (w : World) (h : R1_next.f a0 a1 = some r) :
  Calls Try.prog 54 #[.int .i64 a0, .int .i64 a1] w fun e w' => e = .returned (.int .i64 r) ∧ Drawn0 w w' := by
 have H : (if (wrap64 (a0 + 1)) < a1 then (some (wrap64 (a0 + 1))) else (some 0)) = some r := h
 clear h
 by_cases c3 : (wrap64 (a0 + 1)) < a1
 ·rw [if_pos c3] at H
  have c3b0 : decide ((wrap64 (a0 + 1)) < a1) = true := decide_eq_true c3
  clear c3
  obtain rfl := Option.some.inj H
  go_enter Try.func54, Try.ntmps54
  go_wp2
  go_ret
  exact ⟨by first | rfl | (simp; done) | (simp [*]; done), by repeat (first | exact Drawn0.refl _ | apply Drawn0.step)⟩
 rw [if_neg c3] at H
 have c3b0 : decide ((wrap64 (a0 + 1)) < a1) = false := decide_eq_false c3
 clear c3
 obtain rfl := Option.some.inj H
 go_enter Try.func54, Try.ntmps54
 go_wp2
 go_ret
 exact ⟨by first | rfl | (simp; done) | (simp [*]; done), by repeat (first | exact Drawn0.refl _ | apply Drawn0.step)⟩

end Go.Proofs.Ythaklbjcjoolcaa.P
namespace Go.Proofs.Ythaklbjcjoolcaa.P
open Go.RowKit YthaklbjcjoolcaaW.PrintWords YthaklbjcjoolcaaW.PrintLast YthaklbjcjoolcaaW.PrintMore
def nx (l : List S31) (i : Nat) : Nat := (i + 1) % l.length
def rowB (l : List S31) (i : Nat) : Nat → Nat → Bool
 | 0, _ => true
 | n + 1, k => (decide (nx l k = i) || !meetB (pt l i) (pt l (nx l i)) (pt l k) (pt l (nx l k))) && rowB l i n (k + 1)
def eqE (l : List S31) (i : Nat) : Bool := (pt l i).f0 == (pt l (nx l i)).f0 && ((pt l i).f1 == (pt l (nx l i)).f1)
def xB (l : List S31) (i : Nat) : Bool := onB (pt l (nx l i)) (pt l (nx l (nx l i))) (pt l i) || onB (pt l i) (pt l (nx l i)) (pt l (nx l (nx l i)))
def simB (l : List S31) : Nat → Nat → Bool
 | 0, _ => true
 | n + 1, i => (!eqE l i && (!xB l i && rowB l i (l.length - (i + 2)) (i + 2))) && simB l n (i + 1)
def neB (l : List S31) : Nat → Nat → Bool
 | 0, _ => true
 | n + 1, i => !eqE l i && neB l n (i + 1)
def touB (l : List S31) : Nat → Nat → Bool
 | 0, _ => true
 | n + 1, i => (!xB l i && rowB l i (l.length - (i + 2)) (i + 2)) && touB l n (i + 1)
theorem simB_parts (l : List S31) : ∀ n i, simB l n i = (neB l n i && touB l n i)
 | 0, _ => rfl
 | n + 1, i => by
  unfold simB neB touB
  rw [simB_parts l n (i + 1)]
  cases eqE l i <;> cases xB l i <;> cases rowB l i (l.length - (i + 2)) (i + 2) <;> cases neB l n (i + 1) <;> cases touB l n (i + 1) <;> rfl
theorem pt_ok {l : List S31} (h : allOk l = true) {i : Nat} (hi : i < l.length) : okPt (pt l i) = true := by
 rw [pt_eq l i hi]
 exact List.all_eq_true.1 h _ (List.getElem_mem hi)
theorem nx_lt (l : List S31) (i : Nat) (h : 0 < l.length) : nx l i < l.length := Nat.mod_lt _ h
theorem nx_tmod (l : List S31) (i : Nat) (h : i < l.length) (hn : l.length ≤ 4096) : Int.tmod (wrap64 ((i : Int) + 1)) (l.length : Int) = (nx l i : Int) := by
 rw [w64i (by omega) (by omega), show ((i : Int) + 1) = ((i + 1 : Nat) : Int) by omega]
 rfl
theorem nx_next (l : List S31) (i : Nat) (h : i < l.length) (hn : l.length ≤ 4096) : R1_next.f (i : Int) (l.length : Int) = some ((nx l i : Nat) : Int) := by
 unfold R1_next.f nx
 rw [w64i (by omega) (by omega)]
 by_cases h1 : i + 1 < l.length
 ·rw [if_pos (by omega), Nat.mod_eq_of_lt h1]; rfl
 ·have : i + 1 = l.length := by omega
  rw [if_neg (by omega), this, Nat.mod_self]; rfl
theorem prog_row (l : List S31) (ho : allOk l = true) (hn : l.length ≤ 4096) (i : Nat) (hi : i < l.length) (v : Bool) (hv : Ev (fun k => plane_Simple.l0 k l (l.length : Int) (l.length : Int) ((i + 1 : Nat) : Int)) v) :
  ∀ m j, l.length - j = m → j ≤ l.length + 1 → Ev (fun k => plane_Simple.l1 k l (l.length : Int) (i : Int) (j : Int) (l.length : Int) (i : Int) (pt l i).f0 (pt l i).f1 (pt l (nx l i)).f0 (pt l (nx l i)).f1) (rowB l i m j && v)
 | 0, j, hm, hj => by
  refine Ev.step (f := fun k => plane_Simple.l0 k l (l.length : Int) (l.length : Int) ((i + 1 : Nat) : Int)) (fun k => ?_) hv
  rw [plane_Simple.l1, if_neg (by omega), w64i (x := (i : Int) + 1) (by omega) (by omega)]
  rfl
 | m + 1, j, hm, hj => by
  have hjl : j < l.length := by omega
  have hnj := nx_lt l j (by omega)
  have hni := nx_lt l i (by omega)
  have ih := prog_row l ho hn i hi v hv m (j + 1) (by omega) (by omega)
  have ej : wrap64 ((j : Int) + 1) = ((j + 1 : Nat) : Int) := w64i (x := (j : Int) + 1) (by omega) (by omega)
  unfold rowB
  by_cases hx : nx l j = i
  ·refine Ev.step (f := fun k => plane_Simple.l1 k l (l.length : Int) (i : Int) ((j + 1 : Nat) : Int) (l.length : Int) (i : Int) (pt l i).f0 (pt l i).f1 (pt l (nx l i)).f0 (pt l (nx l i)).f1) (fun k => ?_) (by rw [decide_eq_true hx, Bool.true_or, Bool.true_and]; exact ih)
   rw [plane_Simple.l1, if_pos (by omega), if_neg (by omega), nx_tmod l j hjl hn, if_pos (by omega), ej]
  ·rw [decide_eq_false hx, Bool.false_or]
   refine Ev.step (f := fun k => (plane_segment_meets.f k (pt l i).f0 (pt l i).f1 (pt l (nx l i)).f0 (pt l (nx l i)).f1 (pt l j).f0 (pt l j).f1 (pt l (nx l j)).f0 (pt l (nx l j)).f1).bind fun t => if t = true then some false else plane_Simple.l1 k l (l.length : Int) (i : Int) ((j + 1 : Nat) : Int) (l.length : Int) (i : Int) (pt l i).f0 (pt l i).f1 (pt l (nx l i)).f0 (pt l (nx l i)).f1) (fun k => ?_) ?_
   ·rw [plane_Simple.l1, if_pos (by omega), if_neg (by omega), nx_tmod l j hjl hn, if_neg (by omega), edge_is l j hjl hn, ej]
    rfl
   ·refine Ev.bind (Ev.step (f := fun _ => some (meetB (pt l i) (pt l (nx l i)) (pt l j) (pt l (nx l j)))) (fun k => meets_is (pt_ok ho hi) (pt_ok ho hni) (pt_ok ho hjl) (pt_ok ho hnj) k) (Ev.now _)) ?_
    cases meetB (pt l i) (pt l (nx l i)) (pt l j) (pt l (nx l j))
    ·exact ev_neg (by decide) (by simpa using ih)
    ·exact ev_pos rfl (Ev.now _)
theorem prog_sim (l : List S31) (ho : allOk l = true) (hn : l.length ≤ 4096) : ∀ m i, l.length - i = m → i ≤ l.length → Ev (fun k => plane_Simple.l0 k l (l.length : Int) (l.length : Int) (i : Int)) (simB l m i)
 | 0, i, hm, hi => by
  refine Ev.step (f := fun _ => some true) (fun k => ?_) (Ev.now _)
  rw [plane_Simple.l0, if_neg (by omega)]
 | m + 1, i, hm, hi => by
  have hil : i < l.length := by omega
  have hni := nx_lt l i (by omega)
  have hnn := nx_lt l (nx l i) (by omega)
  have ih := prog_sim l ho hn m (i + 1) (by omega) (by omega)
  have hr := prog_row l ho hn i hil _ ih (l.length - (i + 2)) (i + 2) rfl (by omega)
  have h1 := has_is (pt_ok ho hni) (pt_ok ho hnn) (pt_ok ho hil)
  have h2 := has_is (pt_ok ho hil) (pt_ok ho hni) (pt_ok ho hnn)
  have ej : wrap64 ((i : Int) + 2) = ((i + 2 : Nat) : Int) := w64i (x := (i : Int) + 2) (by omega) (by omega)
  have hj : ∀ b : Bool, Ev (fun k => plane_Simple.j2 k l (l.length : Int) (i : Int) (l.length : Int) (i : Int) b (pt l i).f0 (pt l i).f1 (pt l (nx l i)).f0 (pt l (nx l i)).f1) (!b && (rowB l i (l.length - (i + 2)) (i + 2) && simB l m (i + 1))) := by
   intro b
   cases b
   ·refine Ev.step (f := fun k => plane_Simple.l1 k l (l.length : Int) (i : Int) ((i + 2 : Nat) : Int) (l.length : Int) (i : Int) (pt l i).f0 (pt l i).f1 (pt l (nx l i)).f0 (pt l (nx l i)).f1) (fun k => ?_) (by simpa using hr)
    rw [plane_Simple.j2, if_neg (by decide), ej]
   ·refine Ev.step (f := fun _ => some false) (fun k => ?_) (Ev.now _)
    rw [plane_Simple.j2, if_pos rfl]
  refine Ev.step (f := fun k => if eqE l i = true then plane_Simple.j2 k l (l.length : Int) (i : Int) (l.length : Int) (i : Int) true (pt l i).f0 (pt l i).f1 (pt l (nx l i)).f0 (pt l (nx l i)).f1 else if onB (pt l (nx l i)) (pt l (nx l (nx l i))) (pt l i) = true then plane_Simple.j2 k l (l.length : Int) (i : Int) (l.length : Int) (i : Int) true (pt l i).f0 (pt l i).f1 (pt l (nx l i)).f0 (pt l (nx l i)).f1 else plane_Simple.j2 k l (l.length : Int) (i : Int) (l.length : Int) (i : Int) (onB (pt l i) (pt l (nx l i)) (pt l (nx l (nx l i)))) (pt l i).f0 (pt l i).f1 (pt l (nx l i)).f0 (pt l (nx l i)).f1) (fun k => ?_) ?_
  ·rw [plane_Simple.l0, if_pos (by omega), edge_is l i hil hn, Option.bind_some, if_neg (by omega), nx_tmod l i hil hn, edge_is l (nx l i) hni hn]
   simp only [Option.bind_some]
   show (if eqE l i = true then _ else _) = _
   have e1 : ∀ o, plane_segment_has.f (pt l (nx l i)).f0 (pt l (nx l i)).f1 (pt l ((nx l i + 1) % l.length)).f0 (pt l ((nx l i + 1) % l.length)).f1 (pt l i).f0 (pt l i).f1 = o → some (onB (pt l (nx l i)) (pt l (nx l (nx l i))) (pt l i)) = o := fun o h => h1.symm.trans h
   rw [← e1 _ rfl]
   have e2 : ∀ o, plane_segment_has.f (pt l i).f0 (pt l i).f1 (pt l ((i + 1) % l.length)).f0 (pt l ((i + 1) % l.length)).f1 (pt l ((nx l i + 1) % l.length)).f0 (pt l ((nx l i + 1) % l.length)).f1 = o → some (onB (pt l i) (pt l (nx l i)) (pt l (nx l (nx l i)))) = o := fun o h => h2.symm.trans h
   rw [← e2 _ rfl]
   rfl
  ·unfold simB xB
   by_cases he : eqE l i = true
   ·rw [he]; exact ev_pos rfl (hj true)
   ·rw [Bool.not_eq_true] at he
    rw [he]
    refine ev_neg (by decide) ?_
    by_cases hx : onB (pt l (nx l i)) (pt l (nx l (nx l i))) (pt l i) = true
    ·rw [hx]; exact ev_pos rfl (hj true)
    ·rw [Bool.not_eq_true] at hx
     rw [hx]
     refine ev_neg (by decide) ?_
     have h := hj (onB (pt l i) (pt l (nx l i)) (pt l (nx l (nx l i))))
     rw [← Bool.and_assoc] at h
     simpa using h
def simpleS (l : List S31) : Bool := (decide (3 ≤ l.length ∧ l.length ≤ 512) && allOk l) && simB l l.length 0
theorem prog_simple (l : List S31) : Ev (fun k => plane_Simple.f k l) (simpleS l) := by
 have hj : Ev (fun k => plane_Simple.j0 k l (l.length : Int) true) false := by
  refine Ev.step (f := fun _ => some false) (fun k => ?_) (Ev.now _)
  rw [plane_Simple.j0, if_pos rfl]
 unfold plane_Simple.f simpleS
 by_cases h3 : (l.length : Int) < 3
 ·rw [decide_eq_false (by omega), Bool.false_and]
  exact ev_pos h3 hj
 ·refine ev_neg h3 (Ev.bind (ev_is (isSet_is l)) ?_)
  unfold isSetB
  by_cases h5 : l.length ≤ 512
  ·rw [decide_eq_true (show 1 ≤ l.length ∧ l.length ≤ 512 by omega), decide_eq_true (show 3 ≤ l.length ∧ l.length ≤ 512 by omega), Bool.true_and]
   by_cases ha : allOk l = true
   ·rw [ha, Bool.true_and]
    refine Ev.step (f := fun k => plane_Simple.l0 k l (l.length : Int) (l.length : Int) ((0 : Nat) : Int)) (fun k => ?_) (prog_sim l ha (by omega) l.length 0 (by omega) (by omega))
    rw [plane_Simple.j0, if_neg (by decide)]
    rfl
   ·rw [Bool.not_eq_true] at ha
    rw [ha]; exact hj
  ·rw [decide_eq_false (show ¬ (1 ≤ l.length ∧ l.length ≤ 512) by omega), decide_eq_false (show ¬ (3 ≤ l.length ∧ l.length ≤ 512) by omega)]
   exact hj
end Go.Proofs.Ythaklbjcjoolcaa.P
namespace Go.Proofs.Ythaklbjcjoolcaa.P
open Go.RowKit YthaklbjcjoolcaaW.PrintWords YthaklbjcjoolcaaW.PrintLast YthaklbjcjoolcaaW.PrintMore
attribute [local go_sem] max2_int min2_int max_two min_two max_three min_three max_four min_four

def plane_sense.f (k : Nat) (l0 : List (S31)) : Option (Int) := (plane_area.f k l0).bind fun t630 => (if t630 > 0 then (some 1) else (some (-1)))
theorem plane_sense.mono : ∀ a0 k, LeO (plane_sense.f k a0) (plane_sense.f (k + 1) a0) := by
 intro a0 k
 unfold plane_sense.f
 repeat' first
   | (with_reducible exact plane_area.mono _ _)
   | (with_reducible first | exact LeO.refl _ | exact LeO.none _ | refine LeO.ite ?_ ?_ | refine LeO.bind ?_ (fun _ => ?_))
   | exact plane_area.mono _ _
   | exact LeO.none _ | refine LeO.ite ?_ ?_ | refine LeO.bind ?_ (fun _ => ?_)
set_option maxHeartbeats 8000000 in
set_option maxRecDepth 100000 in
theorem plane_sense.calls (k : Nat) (A0 : Option Addr) (c0 : Nat) (l0 : List (S31)) (r : Int) (w : World) (hr0 : Kd.C k31 w A0 l0.length l0) (hc0 : l0.length ≤ c0) (h : plane_sense.f k l0 = some r) :
  Calls Try.prog 76 #[.slice A0 l0.length c0] w fun e w' => e = .returned (.int .i64 r) ∧ Below w.heap.size w w' := by
 have HR0 := Aside0.mk hr0
 have HC0 := Aside0.mk hc0
 clear hr0 hc0
 have HB := Aside0.mk (Below.refl w.heap.size w)
 have H : ((plane_area.f k l0).bind fun t630 => (if t630 > 0 then (some 1) else (some (-1)))) = some r := h
 clear h
 replace H := Option.bind_eq_some_iff.mp H
 obtain ⟨t630, A20, H⟩ := H
 replace H : (if t630 > 0 then (some 1) else (some (-1))) = some r := H
 have A2 := Aside0.mk A20
 clear A20
 by_cases c3 : t630 > 0
 ·rw [if_pos c3] at H
  have c3b0 : decide (0 < t630) = true := decide_eq_true c3
  clear c3
  obtain rfl := Option.some.inj H
  go_enter Try.func76, Try.ntmps76
  go_wp2_with (first | ((with_reducible refine gate_callee (f := 53) rfl ?_); refine goesL_ (some 4) rfl rfl Try.func53 (by kernel_rfl) rfl #[.slice A0 l0.length c0] rfl (by (try simp only [List.map_toArray, List.map_cons, List.map_nil]); first | done | rfl | (simp only [List.length_drop, List.length_take]; rfl)) ?_; (with_reducible refine (plane_area.calls k _ _ l0 t630 _ ?side1 ?side2 A2.out).mono ?_); (case side1 => repeat (first | exact HR0.out | (with_reducible refine Kd.C_alloc ?_ _) | (with_reducible refine Kd.C_drewN ?_ _) | (with_reducible refine Kd.C_drew ?_))); (case side2 => exact HC0.out); rintro e w4 ⟨rfl, hb⟩; refine ⟨_, rfl, ?_⟩; have n0_ := Aside0.mk (below_step lB hb); clear HB; have HB := n0_; clear n0_; (try clear hb); (try clear hb2); (try clear hk); (try clear hi)))
  go_ret
  exact en
 rw [if_neg c3] at H
 have c3b0 : decide (0 < t630) = false := decide_eq_false c3
 clear c3
 obtain rfl := Option.some.inj H
 go_enter Try.func76, Try.ntmps76
 go_wp2_with (first | ((with_reducible refine gate_callee (f := 53) rfl ?_); refine goesL_ (some 4) rfl rfl Try.func53 (by kernel_rfl) rfl #[.slice A0 l0.length c0] rfl (by (try simp only [List.map_toArray, List.map_cons, List.map_nil]); first | done | rfl | (simp only [List.length_drop, List.length_take]; rfl)) ?_; (with_reducible refine (plane_area.calls k _ _ l0 t630 _ ?side1 ?side2 A2.out).mono ?_); (case side1 => repeat (first | exact HR0.out | (with_reducible refine Kd.C_alloc ?_ _) | (with_reducible refine Kd.C_drewN ?_ _) | (with_reducible refine Kd.C_drew ?_))); (case side2 => exact HC0.out); rintro e w5 ⟨rfl, hb⟩; refine ⟨_, rfl, ?_⟩; have n0_ := Aside0.mk (below_step lB hb); clear HB; have HB := n0_; clear n0_; (try clear hb); (try clear hb2); (try clear hk); (try clear hi)))
 go_ret
 exact en

end Go.Proofs.Ythaklbjcjoolcaa.P
namespace Go.Proofs.Ythaklbjcjoolcaa.P
open Go.RowKit YthaklbjcjoolcaaW.PrintWords YthaklbjcjoolcaaW.PrintLast YthaklbjcjoolcaaW.PrintMore
theorem refnext_is (i n : Nat) (h : i < n) (hn : n ≤ 4096) : R1_next.f (i : Int) (n : Int) = some ((((i + 1) % n : Nat)) : Int) := by
 unfold R1_next.f
 rw [w64i (by omega) (by omega)]
 by_cases h1 : i + 1 < n
 ·rw [if_pos (by omega), Nat.mod_eq_of_lt h1]; rfl
 ·have : i + 1 = n := by omega
  rw [if_neg (by omega), this, Nat.mod_self]; rfl
end Go.Proofs.Ythaklbjcjoolcaa.P
namespace Go.Proofs.Ythaklbjcjoolcaa.P
open Go.RowKit Go.Shelf Go.Sort YthaklbjcjoolcaaW.PrintWords YthaklbjcjoolcaaW.PrintLast YthaklbjcjoolcaaW.PrintMore
def crossR (a b p : S31) : Bool := decide (a.f1 ≤ p.f1 ∧ p.f1 < b.f1 ∧ 0 < crs a b p ∨ b.f1 ≤ p.f1 ∧ p.f1 < a.f1 ∧ 0 < crs b a p)
def insR (l : List S31) (p : S31) : Nat → Nat → Bool → Int
  | 0, _, odd => if odd then 1 else -1
  | n + 1, i, odd => if onB (pt l i) (pt l ((i + 1) % l.length)) p = true then 0 else insR l p n (i + 1) (xor odd (crossR (pt l i) (pt l ((i + 1) % l.length)) p))
def insP_T : Bool × List (List Nat × List Nat) := (true, [([], []), ([], []), ([0, 1], [0, 1]), ([2], [2]), ([], []), ([], []), ([], []), ([6], [6]), ([5, 7], [5, 7]), ([4, 8], [4, 8]), ([9], [9]), ([], []), ([], []), ([11, 3, 8, 0, 1, 2, 3, 11, 12], [3, 11]), ([12, 10, 13, 0, 1, 2, 3, 4, 5, 6, 7, 8, 9, 10, 11, 12, 13], [10, 12])])
def insP_B : List Nat := [0, 0, 3, 7, 0, 0, 0, 64, 224, 496, 1008, 0, 0, 6639, 16383]
theorem insP_tab : rtab .any (opsOf Try.f29 5) = insP_T := by kernel_rfl
theorem insP_bits : waitsOk insP_T.2 insP_B = true := by kernel_rfl
set_option maxHeartbeats 4000000 in
set_option maxRecDepth 100000 in
theorem refinside_calls (A0 : Option Addr) (c0 : Nat) (l0 : List S31) (p : S31) (wz : World) (hr0 : Kd.C k31 wz A0 l0.length l0) (hc0 : l0.length ≤ c0) (hok : allOk l0 = true) (hp : okPt p = true) (hsz : l0.length ≤ 4096) :
    Calls Try.prog 29 #[.slice A0 l0.length c0, .agg #[.int .i64 p.f0, .int .i64 p.f1]] wz fun e w' => e = .returned (.int .i64 (insR l0 p l0.length 0 false)) ∧ Below wz.heap.size wz w' := by
  have HBZ := Aside0.mk (lA (Below.refl wz.heap.size wz) (Obj.cells #[.int .i64 p.f0, .int .i64 p.f1] 31))
  have HR0 := Aside0.mk (Kd.C_below hr0 HBZ.out)
  have BP0 := Aside0.mk (heap_alloc_new wz (Obj.cells #[.int .i64 p.f0, .int .i64 p.f1] 31))
  have HOK := Aside0.mk hok
  have HOP := Aside0.mk hp
  obtain ⟨r, hrv⟩ : ∃ r, r = insR l0 p l0.length 0 false := ⟨_, rfl⟩
  have HV := Aside0.mk hrv
  rw [← hrv]
  clear hr0 hok hp hrv
  go_enter Try.func29, Try.ntmps29
  go_wp2
  obtain ⟨gP, hgP⟩ : ∃ g, g = wz.heap.size := ⟨_, rfl⟩
  rw [← hgP] at BP0
  rw [← hgP]
  clear hgP
  generalize hw : wz.alloc (Obj.cells #[.int .i64 p.f0, .int .i64 p.f1] 31) = w at *
  clear hw
  have HB0 := Aside0.mk (Below.refl w.heap.size w)
  go_loopw [5, 6] (fun v5 v6 wr => ∃ (k : Nat) (odd : Bool), k ≤ l0.length ∧ v6 = .int .i64 k ∧ v5 = .bool odd ∧ Aside0 (r = insR l0 p (l0.length - k) k odd) ∧ Aside0 (Below w.heap.size w wr)) (fun _ v6 _ => l0.length - (intOf v6).toNat)
  case atStart => exact ⟨0, false, by omega, rfl, rfl, HV, HB0⟩
  case round =>
    clear HB0 HV
    obtain ⟨k, odd, hk, rfl, rfl, HV, HB⟩ := hrel
    by_cases hlt : k < l0.length
    · obtain ⟨n, hn⟩ : ∃ n, n = (k + 1) % l0.length := ⟨_, rfl⟩
      have hnl : n < l0.length := by rw [hn]; exact Nat.mod_lt _ (by omega)
      have HNX := Aside0.mk (refnext_is k l0.length hlt hsz)
      rw [← hn] at HNX
      have HOA := Aside0.mk (allOk_pt HOK.out k hlt)
      have HOB := Aside0.mk (allOk_pt HOK.out n hnl)
      obtain ⟨ad, rfl, hw_p0, hw_p1⟩ := at_T31 HR0.out (k : Int) (by omega) (by omega)
      obtain ⟨ad', had', hw_q0, hw_q1⟩ := at_T31 HR0.out (n : Int) (by omega) (by omega)
      cases had'
      rw [rd_pt, Int.toNat_natCast] at hw_p0 hw_p1 hw_q0 hw_q1
      have hltI : ((k : Nat) : Int) < ((l0.length : Nat) : Int) := by omega
      have hnlI : ((n : Nat) : Int) < ((l0.length : Nat) : Int) := by omega
      have HST := Aside0.mk (show insR l0 p (l0.length - k) k odd = if onB (pt l0 k) (pt l0 n) p = true then 0 else insR l0 p (l0.length - (k + 1)) (k + 1) (xor odd (crossR (pt l0 k) (pt l0 n) p)) by
        rw [show l0.length - k = (l0.length - (k + 1)) + 1 by omega, hn]; rfl)
      generalize pt l0 k = a at *
      generalize pt l0 n = b at *
      clear hn
      have HON := Aside0.mk (on_is HOA.out HOB.out HOP.out)
      have HT1 := Aside0.mk (show R1_Turn.f a.f0 a.f1 b.f0 b.f1 p.f0 p.f1 = some (sgn (crs a b p)) by rw [refturn_same]; exact turn_is HOA.out HOB.out HOP.out)
      have HT2 := Aside0.mk (show R1_Turn.f b.f0 b.f1 a.f0 a.f1 p.f0 p.f1 = some (sgn (crs b a p)) by rw [refturn_same]; exact turn_is HOB.out HOA.out HOP.out)
      have HCR := Aside0.mk (show crossR a b p = decide (a.f1 ≤ p.f1 ∧ p.f1 < b.f1 ∧ 0 < sgn (crs a b p) ∨ b.f1 ≤ p.f1 ∧ p.f1 < a.f1 ∧ 0 < sgn (crs b a p)) by unfold crossR; rw [Bool.eq_iff_iff, decide_eq_true_eq, decide_eq_true_eq, sgn_pos, sgn_pos])
      generalize sgn (crs a b p) = s1 at *
      generalize sgn (crs b a p) = s2 at *
      generalize crossR a b p = cr at *
      go_wp2
      have HBd := Aside0.mk (lD HB.out)
      clear HB
      have HB := HBd
      clear HBd
      refine start_ (n := 15) (S := fun w' => w'.cell? (ad.add (k * 2)) = some (.int .i64 (a.f0)) ∧ w'.cell? ⟨(ad.add (k * 2)).block, (ad.add (k * 2)).off + 1, none⟩ = some (.int .i64 (a.f1)) ∧ w'.cell? (ad.add (n * 2)) = some (.int .i64 (b.f0)) ∧ w'.cell? ⟨(ad.add (n * 2)).block, (ad.add (n * 2)).off + 1, none⟩ = some (.int .i64 (b.f1))) (ds := []) (Bs 0 15) (by kernel_rfl) rfl rfl ⟨(cB HB.out hw_p0), (cB HB.out hw_p1), (cB HB.out hw_q0), (cB HB.out hw_q1)⟩ (fun hHeld => ?_); refine with_tabW insP_tab insP_bits (fun HT_ HW_ => ?_)
      generalize wr.drew = w7 at HB hHeld ⊢
      refine pu 0 15 (Bs 1 15) HT_ ?_
      refine pu 1 16 (Bs 2 15) HT_ ?_
      refine pu 2 17 (Bs 3 15) HT_ ?_
      refine pu 4 19 (Br [3,1,1,10]) HT_ ?_
      refine pu 5 20 (Br [3,1,2,9]) HT_ ?_
      refine pu 6 21 (Br [3,1,3,8]) HT_ ?_
      refine pu 7 22 (Br [3,1,4,7]) HT_ ?_
      refine ta 3 18 (Bs 8 15) HT_ HW_ hHeld ?_
      refine join_ (σ := Nat × Nat) 2 (Bs 13 15) (fun s_ => [(23, .int .i64 ((n : Nat) : Int)), (7, .pointer (some ⟨s_.1, 0, none⟩)), (8, .pointer (some ⟨s_.2, 0, none⟩)), (24, .pointer (some (ad.add (n * 2)))), (25, .agg #[.int .i64 (b.f0), .int .i64 (b.f1)])]) (fun s_ w' => (w'.cell? (ad.add (k * 2)) = some (.int .i64 (a.f0)) ∧ w'.cell? ⟨(ad.add (k * 2)).block, (ad.add (k * 2)).off + 1, none⟩ = some (.int .i64 (a.f1)) ∧ w'.cell? (ad.add (n * 2)) = some (.int .i64 (b.f0)) ∧ w'.cell? ⟨(ad.add (n * 2)).block, (ad.add (n * 2)).off + 1, none⟩ = some (.int .i64 (b.f1))) ∧ (w'.heap[s_.1]? = some (.cells #[.int .i64 0, .int .i64 0] 31 (0, 0))) ∧ (w'.heap[s_.2]? = some (.cells #[.int .i64 0, .int .i64 0] 31 (0, 0))) ∧ (w.heap.size ≤ s_.1) ∧ (w.heap.size ≤ s_.1) ∧ (s_.2 ≠ s_.1) ∧ (s_.1 ≠ s_.2) ∧ (w.heap.size ≤ s_.2) ∧ (w.heap.size ≤ s_.2) ∧ (Below w.heap.size w w')) ?_ ?_
      rotate_left
      ·intro hJ8_11_12
       refine join_ (σ := Nat) 3 (Bs 12 15) (fun s_ => [(23, .int .i64 ((n : Nat) : Int)), (7, .pointer (some ⟨s_, 0, none⟩)), (24, .pointer (some (ad.add (n * 2)))), (25, .agg #[.int .i64 (b.f0), .int .i64 (b.f1)])]) (fun s_ w' => (w'.cell? (ad.add (k * 2)) = some (.int .i64 (a.f0)) ∧ w'.cell? ⟨(ad.add (k * 2)).block, (ad.add (k * 2)).off + 1, none⟩ = some (.int .i64 (a.f1)) ∧ w'.cell? (ad.add (n * 2)) = some (.int .i64 (b.f0)) ∧ w'.cell? ⟨(ad.add (n * 2)).block, (ad.add (n * 2)).off + 1, none⟩ = some (.int .i64 (b.f1))) ∧ (w'.heap[s_]? = some (.cells #[.int .i64 0, .int .i64 0] 31 (0, 0))) ∧ (w.heap.size ≤ s_) ∧ (w.heap.size ≤ s_) ∧ (Below w.heap.size w w')) ?_ ?_
       rotate_left
       ·intro hJ8_11
        refine join_ (σ := Nat) 3 (Br [11,1,1,2]) (fun s_ => [(23, .int .i64 ((n : Nat) : Int)), (8, .pointer (some ⟨s_, 0, none⟩)), (24, .pointer (some (ad.add (n * 2)))), (25, .agg #[.int .i64 (b.f0), .int .i64 (b.f1)])]) (fun s_ w' => (w'.cell? (ad.add (k * 2)) = some (.int .i64 (a.f0)) ∧ w'.cell? ⟨(ad.add (k * 2)).block, (ad.add (k * 2)).off + 1, none⟩ = some (.int .i64 (a.f1)) ∧ w'.cell? (ad.add (n * 2)) = some (.int .i64 (b.f0)) ∧ w'.cell? ⟨(ad.add (n * 2)).block, (ad.add (n * 2)).off + 1, none⟩ = some (.int .i64 (b.f1))) ∧ (w'.heap[s_]? = some (.cells #[.int .i64 0, .int .i64 0] 31 (0, 0))) ∧ (w.heap.size ≤ s_) ∧ (w.heap.size ≤ s_) ∧ (Below w.heap.size w w')) ?_ ?_
        rotate_left
        ·intro hJ8_12
         refine join_ (σ := Nat × Nat) 5 (Br [8,3,2,2]) (fun s_ => [(7, .pointer (some ⟨s_.1, 0, none⟩)), (8, .pointer (some ⟨s_.2, 0, none⟩))]) (fun s_ w' => (w'.cell? (ad.add (k * 2)) = some (.int .i64 (a.f0)) ∧ w'.cell? ⟨(ad.add (k * 2)).block, (ad.add (k * 2)).off + 1, none⟩ = some (.int .i64 (a.f1)) ∧ w'.cell? (ad.add (n * 2)) = some (.int .i64 (b.f0)) ∧ w'.cell? ⟨(ad.add (n * 2)).block, (ad.add (n * 2)).off + 1, none⟩ = some (.int .i64 (b.f1))) ∧ (w'.heap[s_.1]? = some (.cells #[.int .i64 0, .int .i64 0] 31 (0, 0))) ∧ (w'.heap[s_.2]? = some (.cells #[.int .i64 0, .int .i64 0] 31 (0, 0))) ∧ (w.heap.size ≤ s_.1) ∧ (w.heap.size ≤ s_.1) ∧ (s_.2 ≠ s_.1) ∧ (s_.1 ≠ s_.2) ∧ (w.heap.size ≤ s_.2) ∧ (w.heap.size ≤ s_.2) ∧ (Below w.heap.size w w')) ?_ ?_
         rotate_left
         ·intro hJ11_12
          refine join_ (σ := Unit) 4 (Bs 11 15) (fun s_ => [(23, .int .i64 ((n : Nat) : Int)), (24, .pointer (some (ad.add (n * 2)))), (25, .agg #[.int .i64 (b.f0), .int .i64 (b.f1)])]) (fun s_ w' => (w'.cell? (ad.add (k * 2)) = some (.int .i64 (a.f0)) ∧ w'.cell? ⟨(ad.add (k * 2)).block, (ad.add (k * 2)).off + 1, none⟩ = some (.int .i64 (a.f1)) ∧ w'.cell? (ad.add (n * 2)) = some (.int .i64 (b.f0)) ∧ w'.cell? ⟨(ad.add (n * 2)).block, (ad.add (n * 2)).off + 1, none⟩ = some (.int .i64 (b.f1))) ∧ (Below w.heap.size w w')) ?_ ?_
          rotate_left
          ·intro hJ8
           refine join_ (σ := Nat) 6 (Br [8,3,1,3]) (fun s_ => [(7, .pointer (some ⟨s_, 0, none⟩))]) (fun s_ w' => (w'.cell? (ad.add (k * 2)) = some (.int .i64 (a.f0)) ∧ w'.cell? ⟨(ad.add (k * 2)).block, (ad.add (k * 2)).off + 1, none⟩ = some (.int .i64 (a.f1)) ∧ w'.cell? (ad.add (n * 2)) = some (.int .i64 (b.f0)) ∧ w'.cell? ⟨(ad.add (n * 2)).block, (ad.add (n * 2)).off + 1, none⟩ = some (.int .i64 (b.f1))) ∧ (w'.heap[s_]? = some (.cells #[.int .i64 0, .int .i64 0] 31 (0, 0))) ∧ (w.heap.size ≤ s_) ∧ (w.heap.size ≤ s_) ∧ (Below w.heap.size w w')) ?_ ?_
           rotate_left
           ·intro hJ11
            refine join_ (σ := Nat) 6 (Br [8,4,1,2]) (fun s_ => [(8, .pointer (some ⟨s_, 0, none⟩))]) (fun s_ w' => (w'.cell? (ad.add (k * 2)) = some (.int .i64 (a.f0)) ∧ w'.cell? ⟨(ad.add (k * 2)).block, (ad.add (k * 2)).off + 1, none⟩ = some (.int .i64 (a.f1)) ∧ w'.cell? (ad.add (n * 2)) = some (.int .i64 (b.f0)) ∧ w'.cell? ⟨(ad.add (n * 2)).block, (ad.add (n * 2)).off + 1, none⟩ = some (.int .i64 (b.f1))) ∧ (w'.heap[s_]? = some (.cells #[.int .i64 0, .int .i64 0] 31 (0, 0))) ∧ (w.heap.size ≤ s_) ∧ (w.heap.size ≤ s_) ∧ (Below w.heap.size w w')) ?_ ?_
            rotate_left
            ·intro hJ12
             refine three_ (i := 8) (j := 11) (k := 12) (Ni := some 23) (Nj := some 7) (Nk := some 8) (Bs 9 15) (Br [8,3,1,3]) (Br [8,4,1,2]) rfl rfl rfl rfl rfl rfl (three_of HT_.out (by kernel_rfl)) (by decide) (by decide) (by decide) (fun K hK => ?_) (fun K hK => ?_) (fun K hK => ?_)
             ·skip
              refine goes_ Try.func54 (by kernel_rfl) rfl #[.int .i64 ((k : Nat) : Int), .int .i64 (l0.length : Int)] (by rfl) rfl rfl (by (try simp only [List.map_toArray, List.map_cons, List.map_nil]); first | done | rfl | (simp only [List.length_drop, List.length_take]; rfl)) ?_
              with_reducible refine (R1_next.calls ((k : Nat) : Int) (l0.length : Int) ((n : Nat) : Int) _ HNX.out).mono ?_
              rintro e w' ⟨rfl, ⟨nd, rfl⟩⟩
              refine ⟨_, rfl, ?_⟩
              refine hK.out _ _ ⟨(cB HB.out hw_p0), (cB HB.out hw_p1), (cB HB.out hw_q0), (cB HB.out hw_q1)⟩ (fun hHeld => ?_)
              clear hK K
              refine nm 23 ?_
              refine pu 9 24 (Bs 10 15) HT_ ?_
              refine ta 10 25 (Bs 11 15) HT_ HW_ hHeld ?_
              exact norm_ (by first | (simp only [putAll, Act.put, sA, sB, sC]; done) | (simp only [putAll, Act.put, sA, sB, sC]; rfl)) (hJ8 () _ ⟨hHeld, lB⟩)
             ·skip
              refine box_step ?hg (N := 7) ?hd (cs := #[.int .i64 0, .int .i64 0]) (t := 31) ?hr ?_; (case hd => rfl); (case hg => rfl); (case hr => first | (go_simp; done) | (go_simp; rfl))
              intro gG1 hg w8 hbox hb
              have n0_ := Aside0.mk (below_step lB hb)
              have n1_ := Aside0.mk (hbox)
              have n2_ := Aside0.mk ((by rw [hg]; exact (below_size lB) : w.heap.size ≤ gG1))
              have n3_ := Aside0.mk ((by rw [hg]; exact (below_size lB) : w.heap.size ≤ gG1))
              clear HB
              have HB := n0_
              have BKG1 := n1_
              have GWG1 := n2_
              have GEG1 := n3_
              clear n0_ n1_ n2_ n3_
              clear hb hbox hg
              refine hK.out _ _ ⟨(cB HB.out hw_p0), (cB HB.out hw_p1), (cB HB.out hw_q0), (cB HB.out hw_q1)⟩ (fun hHeld => ?_)
              clear hK K
              refine nm 7 ?_
              exact norm_ (by first | (simp only [putAll, Act.put, sA, sB, sC]; done) | (simp only [putAll, Act.put, sA, sB, sC]; rfl)) (hJ11 (gG1) _ ⟨hHeld, (kX BKG1.out), GWG1.out, GEG1.out, lB⟩)
             ·skip
              refine box_step ?hg (N := 8) ?hd (cs := #[.int .i64 0, .int .i64 0]) (t := 31) ?hr ?_; (case hd => rfl); (case hg => rfl); (case hr => first | (go_simp; done) | (go_simp; rfl))
              intro gG2 hg w8 hbox hb
              have n0_ := Aside0.mk (below_step lB hb)
              have n1_ := Aside0.mk (hbox)
              have n2_ := Aside0.mk ((by rw [hg]; exact (below_size lB) : w.heap.size ≤ gG2))
              have n3_ := Aside0.mk ((by rw [hg]; exact (below_size lB) : w.heap.size ≤ gG2))
              clear HB
              have HB := n0_
              have BKG2 := n1_
              have GWG2 := n2_
              have GEG2 := n3_
              clear n0_ n1_ n2_ n3_
              clear hb hbox hg
              refine hK.out _ _ ⟨(cB HB.out hw_p0), (cB HB.out hw_p1), (cB HB.out hw_q0), (cB HB.out hw_q1)⟩ (fun hHeld => ?_)
              clear hK K
              refine nm 8 ?_
              exact norm_ (by first | (simp only [putAll, Act.put, sA, sB, sC]; done) | (simp only [putAll, Act.put, sA, sB, sC]; rfl)) (hJ12 (gG2) _ ⟨hHeld, (kX BKG2.out), GWG2.out, GEG2.out, lB⟩)
            ·skip
             rintro gG2 w9 ⟨hS_, h0_, h1_, h2_, h3_⟩
             have n0_ : Aside0 (w9.heap[gG2]? = some (.cells #[.int .i64 0, .int .i64 0] 31 (0, 0))) := ⟨h0_⟩
             have n1_ : Aside0 (w.heap.size ≤ gG2) := ⟨h1_⟩
             have n2_ : Aside0 (w.heap.size ≤ gG2) := ⟨h2_⟩
             have n3_ : Aside0 (Below w.heap.size w w9) := ⟨h3_⟩
             clear HB
             clear h0_ h1_ h2_ h3_
             have BKG2 := n0_
             have GWG2 := n1_
             have GEG2 := n2_
             have HB := n3_
             clear n0_ n1_ n2_ n3_
             have hHeld : w9.cell? (ad.add (k * 2)) = some (.int .i64 (a.f0)) ∧ w9.cell? ⟨(ad.add (k * 2)).block, (ad.add (k * 2)).off + 1, none⟩ = some (.int .i64 (a.f1)) ∧ w9.cell? (ad.add (n * 2)) = some (.int .i64 (b.f0)) ∧ w9.cell? ⟨(ad.add (n * 2)).block, (ad.add (n * 2)).off + 1, none⟩ = some (.int .i64 (b.f1)) := hS_
             refine norm_ (a' := ?_) ?_ ?_
             rotate_left
             ·simp only [putAll, Act.put, sA, sB, sC]
              rfl
             refine two_ (i := 8) (j := 11) (Ni := some 23) (Nj := some 7) (Br [9,3,1,2]) (Br [8,3,2,2]) rfl rfl rfl rfl (two_of HT_.out (by kernel_rfl)) (by decide) (by decide) (fun K hK => ?_) (fun K hK => ?_)
             ·skip
              refine goes_ Try.func54 (by kernel_rfl) rfl #[.int .i64 ((k : Nat) : Int), .int .i64 (l0.length : Int)] (by rfl) rfl rfl (by (try simp only [List.map_toArray, List.map_cons, List.map_nil]); first | done | rfl | (simp only [List.length_drop, List.length_take]; rfl)) ?_
              with_reducible refine (R1_next.calls ((k : Nat) : Int) (l0.length : Int) ((n : Nat) : Int) _ HNX.out).mono ?_
              rintro e w' ⟨rfl, ⟨nd, rfl⟩⟩
              refine ⟨_, rfl, ?_⟩
              refine hK.out _ _ ⟨(cB HB.out hw_p0), (cB HB.out hw_p1), (cB HB.out hw_q0), (cB HB.out hw_q1)⟩ (fun hHeld => ?_)
              clear hK K
              refine nm 23 ?_
              refine pu 9 24 (Br [10,2,1,2]) HT_ ?_
              refine ta 10 25 (Br [11,1,1,2]) HT_ HW_ hHeld ?_
              exact norm_ (by first | (simp only [putAll, Act.put, sA, sB, sC]; done) | (simp only [putAll, Act.put, sA, sB, sC]; rfl)) (hJ8_12 (gG2) _ ⟨hHeld, (kX BKG2.out), GWG2.out, GEG2.out, lB⟩)
             ·skip
              refine box_step ?hg (N := 7) ?hd (cs := #[.int .i64 0, .int .i64 0]) (t := 31) ?hr ?_; (case hd => rfl); (case hg => rfl); (case hr => first | (go_simp; done) | (go_simp; rfl))
              intro gG1 hg wE hbox hb
              have n0_ := Aside0.mk (blk_below (g := gG2) (o := .cells #[.int .i64 0, .int .i64 0] 31 (0, 0)) (kX BKG2.out) hb)
              have n1_ := Aside0.mk (below_step lB hb)
              have n2_ := Aside0.mk (hbox)
              have n3_ := Aside0.mk ((by rw [hg]; exact (below_size lB) : w.heap.size ≤ gG1))
              have n4_ := Aside0.mk ((by rw [hg]; exact (below_size lB) : w.heap.size ≤ gG1))
              have n5_ := Aside0.mk ((by rw [hg]; exact Nat.ne_of_lt (blk_lt (g := gG2) (o := .cells #[.int .i64 0, .int .i64 0] 31 (0, 0)) (kX BKG2.out)) : gG2 ≠ gG1))
              have n6_ := Aside0.mk ((by rw [hg]; exact Nat.ne_of_gt (blk_lt (g := gG2) (o := .cells #[.int .i64 0, .int .i64 0] 31 (0, 0)) (kX BKG2.out)) : gG1 ≠ gG2))
              clear BKG2
              clear HB
              have BKG2 := n0_
              have HB := n1_
              have BKG1 := n2_
              have GWG1 := n3_
              have GEG1 := n4_
              have NB21 := n5_
              have NB12 := n6_
              clear n0_ n1_ n2_ n3_ n4_ n5_ n6_
              clear hb hbox hg
              refine hK.out _ _ ⟨(cB HB.out hw_p0), (cB HB.out hw_p1), (cB HB.out hw_q0), (cB HB.out hw_q1)⟩ (fun hHeld => ?_)
              clear hK K
              refine nm 7 ?_
              exact norm_ (by first | (simp only [putAll, Act.put, sA, sB, sC]; done) | (simp only [putAll, Act.put, sA, sB, sC]; rfl)) (hJ11_12 (gG1, gG2) _ ⟨hHeld, (kX BKG1.out), (kX BKG2.out), GWG1.out, GEG1.out, NB21.out, NB12.out, GWG2.out, GEG2.out, lB⟩)
           ·skip
            rintro gG1 w9 ⟨hS_, h0_, h1_, h2_, h3_⟩
            have n0_ : Aside0 (w9.heap[gG1]? = some (.cells #[.int .i64 0, .int .i64 0] 31 (0, 0))) := ⟨h0_⟩
            have n1_ : Aside0 (w.heap.size ≤ gG1) := ⟨h1_⟩
            have n2_ : Aside0 (w.heap.size ≤ gG1) := ⟨h2_⟩
            have n3_ : Aside0 (Below w.heap.size w w9) := ⟨h3_⟩
            clear HB
            clear h0_ h1_ h2_ h3_
            have BKG1 := n0_
            have GWG1 := n1_
            have GEG1 := n2_
            have HB := n3_
            clear n0_ n1_ n2_ n3_
            have hHeld : w9.cell? (ad.add (k * 2)) = some (.int .i64 (a.f0)) ∧ w9.cell? ⟨(ad.add (k * 2)).block, (ad.add (k * 2)).off + 1, none⟩ = some (.int .i64 (a.f1)) ∧ w9.cell? (ad.add (n * 2)) = some (.int .i64 (b.f0)) ∧ w9.cell? ⟨(ad.add (n * 2)).block, (ad.add (n * 2)).off + 1, none⟩ = some (.int .i64 (b.f1)) := hS_
            refine norm_ (a' := ?_) ?_ ?_
            rotate_left
            ·simp only [putAll, Act.put, sA, sB, sC]
             rfl
            refine two_ (i := 8) (j := 12) (Ni := some 23) (Nj := some 8) (Br [9,2,1,3]) (Br [8,3,2,2]) rfl rfl rfl rfl (two_of HT_.out (by kernel_rfl)) (by decide) (by decide) (fun K hK => ?_) (fun K hK => ?_)
            ·skip
             refine goes_ Try.func54 (by kernel_rfl) rfl #[.int .i64 ((k : Nat) : Int), .int .i64 (l0.length : Int)] (by rfl) rfl rfl (by (try simp only [List.map_toArray, List.map_cons, List.map_nil]); first | done | rfl | (simp only [List.length_drop, List.length_take]; rfl)) ?_
             with_reducible refine (R1_next.calls ((k : Nat) : Int) (l0.length : Int) ((n : Nat) : Int) _ HNX.out).mono ?_
             rintro e w' ⟨rfl, ⟨nd, rfl⟩⟩
             refine ⟨_, rfl, ?_⟩
             refine hK.out _ _ ⟨(cB HB.out hw_p0), (cB HB.out hw_p1), (cB HB.out hw_q0), (cB HB.out hw_q1)⟩ (fun hHeld => ?_)
             clear hK K
             refine nm 23 ?_
             refine pu 9 24 (Br [10,1,1,3]) HT_ ?_
             refine ta 10 25 (Bs 12 15) HT_ HW_ hHeld ?_
             exact norm_ (by first | (simp only [putAll, Act.put, sA, sB, sC]; done) | (simp only [putAll, Act.put, sA, sB, sC]; rfl)) (hJ8_11 (gG1) _ ⟨hHeld, (kX BKG1.out), GWG1.out, GEG1.out, lB⟩)
            ·skip
             refine box_step ?hg (N := 8) ?hd (cs := #[.int .i64 0, .int .i64 0]) (t := 31) ?hr ?_; (case hd => rfl); (case hg => rfl); (case hr => first | (go_simp; done) | (go_simp; rfl))
             intro gG2 hg wE hbox hb
             have n0_ := Aside0.mk (blk_below (g := gG1) (o := .cells #[.int .i64 0, .int .i64 0] 31 (0, 0)) (kX BKG1.out) hb)
             have n1_ := Aside0.mk (below_step lB hb)
             have n2_ := Aside0.mk (hbox)
             have n3_ := Aside0.mk ((by rw [hg]; exact (below_size lB) : w.heap.size ≤ gG2))
             have n4_ := Aside0.mk ((by rw [hg]; exact (below_size lB) : w.heap.size ≤ gG2))
             have n5_ := Aside0.mk ((by rw [hg]; exact Nat.ne_of_lt (blk_lt (g := gG1) (o := .cells #[.int .i64 0, .int .i64 0] 31 (0, 0)) (kX BKG1.out)) : gG1 ≠ gG2))
             have n6_ := Aside0.mk ((by rw [hg]; exact Nat.ne_of_gt (blk_lt (g := gG1) (o := .cells #[.int .i64 0, .int .i64 0] 31 (0, 0)) (kX BKG1.out)) : gG2 ≠ gG1))
             clear BKG1
             clear HB
             have BKG1 := n0_
             have HB := n1_
             have BKG2 := n2_
             have GWG2 := n3_
             have GEG2 := n4_
             have NB12 := n5_
             have NB21 := n6_
             clear n0_ n1_ n2_ n3_ n4_ n5_ n6_
             clear hb hbox hg
             refine hK.out _ _ ⟨(cB HB.out hw_p0), (cB HB.out hw_p1), (cB HB.out hw_q0), (cB HB.out hw_q1)⟩ (fun hHeld => ?_)
             clear hK K
             refine nm 8 ?_
             exact norm_ (by first | (simp only [putAll, Act.put, sA, sB, sC]; done) | (simp only [putAll, Act.put, sA, sB, sC]; rfl)) (hJ11_12 (gG1, gG2) _ ⟨hHeld, (kX BKG1.out), (kX BKG2.out), GWG1.out, GEG1.out, NB21.out, NB12.out, GWG2.out, GEG2.out, lB⟩)
          ·skip
           rintro _ w8 ⟨hS_, h0_⟩
           have n0_ : Aside0 (Below w.heap.size w w8) := ⟨h0_⟩
           clear HB
           clear h0_
           have HB := n0_
           clear n0_
           have hHeld : w8.cell? (ad.add (k * 2)) = some (.int .i64 (a.f0)) ∧ w8.cell? ⟨(ad.add (k * 2)).block, (ad.add (k * 2)).off + 1, none⟩ = some (.int .i64 (a.f1)) ∧ w8.cell? (ad.add (n * 2)) = some (.int .i64 (b.f0)) ∧ w8.cell? ⟨(ad.add (n * 2)).block, (ad.add (n * 2)).off + 1, none⟩ = some (.int .i64 (b.f1)) := hS_
           refine norm_ (a' := ?_) ?_ ?_
           rotate_left
           ·simp only [putAll, Act.put, sA, sB, sC]
            rfl
           refine two_ (i := 11) (j := 12) (Ni := some 7) (Nj := some 8) (Bs 12 15) (Br [11,1,1,2]) rfl rfl rfl rfl (two_of HT_.out (by kernel_rfl)) (by decide) (by decide) (fun K hK => ?_) (fun K hK => ?_)
           ·skip
            refine box_step ?hg (N := 7) ?hd (cs := #[.int .i64 0, .int .i64 0]) (t := 31) ?hr ?_; (case hd => rfl); (case hg => rfl); (case hr => first | (go_simp; done) | (go_simp; rfl))
            intro gG1 hg w9 hbox hb
            have n0_ := Aside0.mk (below_step lB hb)
            have n1_ := Aside0.mk (hbox)
            have n2_ := Aside0.mk ((by rw [hg]; exact (below_size lB) : w.heap.size ≤ gG1))
            have n3_ := Aside0.mk ((by rw [hg]; exact (below_size lB) : w.heap.size ≤ gG1))
            clear HB
            have HB := n0_
            have BKG1 := n1_
            have GWG1 := n2_
            have GEG1 := n3_
            clear n0_ n1_ n2_ n3_
            clear hb hbox hg
            refine hK.out _ _ ⟨(cB HB.out hw_p0), (cB HB.out hw_p1), (cB HB.out hw_q0), (cB HB.out hw_q1)⟩ (fun hHeld => ?_)
            clear hK K
            refine nm 7 ?_
            exact norm_ (by first | (simp only [putAll, Act.put, sA, sB, sC]; done) | (simp only [putAll, Act.put, sA, sB, sC]; rfl)) (hJ8_11 (gG1) _ ⟨hHeld, (kX BKG1.out), GWG1.out, GEG1.out, lB⟩)
           ·skip
            refine box_step ?hg (N := 8) ?hd (cs := #[.int .i64 0, .int .i64 0]) (t := 31) ?hr ?_; (case hd => rfl); (case hg => rfl); (case hr => first | (go_simp; done) | (go_simp; rfl))
            intro gG2 hg w9 hbox hb
            have n0_ := Aside0.mk (below_step lB hb)
            have n1_ := Aside0.mk (hbox)
            have n2_ := Aside0.mk ((by rw [hg]; exact (below_size lB) : w.heap.size ≤ gG2))
            have n3_ := Aside0.mk ((by rw [hg]; exact (below_size lB) : w.heap.size ≤ gG2))
            clear HB
            have HB := n0_
            have BKG2 := n1_
            have GWG2 := n2_
            have GEG2 := n3_
            clear n0_ n1_ n2_ n3_
            clear hb hbox hg
            refine hK.out _ _ ⟨(cB HB.out hw_p0), (cB HB.out hw_p1), (cB HB.out hw_q0), (cB HB.out hw_q1)⟩ (fun hHeld => ?_)
            clear hK K
            refine nm 8 ?_
            exact norm_ (by first | (simp only [putAll, Act.put, sA, sB, sC]; done) | (simp only [putAll, Act.put, sA, sB, sC]; rfl)) (hJ8_12 (gG2) _ ⟨hHeld, (kX BKG2.out), GWG2.out, GEG2.out, lB⟩)
         ·skip
          rintro ⟨gG1, gG2⟩ wE ⟨hS_, h0_, h1_, h2_, h3_, h4_, h5_, h6_, h7_, h8_⟩
          have n0_ : Aside0 (wE.heap[gG1]? = some (.cells #[.int .i64 0, .int .i64 0] 31 (0, 0))) := ⟨h0_⟩
          have n1_ : Aside0 (wE.heap[gG2]? = some (.cells #[.int .i64 0, .int .i64 0] 31 (0, 0))) := ⟨h1_⟩
          have n2_ : Aside0 (w.heap.size ≤ gG1) := ⟨h2_⟩
          have n3_ : Aside0 (w.heap.size ≤ gG1) := ⟨h3_⟩
          have n4_ : Aside0 (gG2 ≠ gG1) := ⟨h4_⟩
          have n5_ : Aside0 (gG1 ≠ gG2) := ⟨h5_⟩
          have n6_ : Aside0 (w.heap.size ≤ gG2) := ⟨h6_⟩
          have n7_ : Aside0 (w.heap.size ≤ gG2) := ⟨h7_⟩
          have n8_ : Aside0 (Below w.heap.size w wE) := ⟨h8_⟩
          clear HB
          clear h0_ h1_ h2_ h3_ h4_ h5_ h6_ h7_ h8_
          have BKG1 := n0_
          have BKG2 := n1_
          have GWG1 := n2_
          have GEG1 := n3_
          have NB21 := n4_
          have NB12 := n5_
          have GWG2 := n6_
          have GEG2 := n7_
          have HB := n8_
          clear n0_ n1_ n2_ n3_ n4_ n5_ n6_ n7_ n8_
          have hHeld : wE.cell? (ad.add (k * 2)) = some (.int .i64 (a.f0)) ∧ wE.cell? ⟨(ad.add (k * 2)).block, (ad.add (k * 2)).off + 1, none⟩ = some (.int .i64 (a.f1)) ∧ wE.cell? (ad.add (n * 2)) = some (.int .i64 (b.f0)) ∧ wE.cell? ⟨(ad.add (n * 2)).block, (ad.add (n * 2)).off + 1, none⟩ = some (.int .i64 (b.f1)) := hS_
          refine norm_ (a' := ?_) ?_ ?_
          rotate_left
          ·simp only [putAll, Act.put, sA, sB, sC]
           rfl
          refine one_ (i := 8) (N := some 23) (Br [9,2,2,2]) rfl rfl (one_of HT_.out (by kernel_rfl)) (by decide) (fun K hK => ?_)
          refine goes_ Try.func54 (by kernel_rfl) rfl #[.int .i64 ((k : Nat) : Int), .int .i64 (l0.length : Int)] (by rfl) rfl rfl (by (try simp only [List.map_toArray, List.map_cons, List.map_nil]); first | done | rfl | (simp only [List.length_drop, List.length_take]; rfl)) ?_
          with_reducible refine (R1_next.calls ((k : Nat) : Int) (l0.length : Int) ((n : Nat) : Int) _ HNX.out).mono ?_
          rintro e w' ⟨rfl, ⟨nd, rfl⟩⟩
          refine ⟨_, rfl, ?_⟩
          refine hK.out _ _ ⟨(cB HB.out hw_p0), (cB HB.out hw_p1), (cB HB.out hw_q0), (cB HB.out hw_q1)⟩ (fun hHeld => ?_)
          clear hK K
          refine nm 23 ?_
          refine pu 9 24 (Br [10,1,2,2]) HT_ ?_
          refine ta 10 25 (Bs 13 15) HT_ HW_ hHeld ?_
          exact norm_ (by first | (simp only [putAll, Act.put, sA, sB, sC]; done) | (simp only [putAll, Act.put, sA, sB, sC]; rfl)) (hJ8_11_12 (gG1, gG2) _ ⟨hHeld, (kX BKG1.out), (kX BKG2.out), GWG1.out, GEG1.out, NB21.out, NB12.out, GWG2.out, GEG2.out, lB⟩)
        ·skip
         rintro gG2 w9 ⟨hS_, h0_, h1_, h2_, h3_⟩
         have n0_ : Aside0 (w9.heap[gG2]? = some (.cells #[.int .i64 0, .int .i64 0] 31 (0, 0))) := ⟨h0_⟩
         have n1_ : Aside0 (w.heap.size ≤ gG2) := ⟨h1_⟩
         have n2_ : Aside0 (w.heap.size ≤ gG2) := ⟨h2_⟩
         have n3_ : Aside0 (Below w.heap.size w w9) := ⟨h3_⟩
         clear HB
         clear h0_ h1_ h2_ h3_
         have BKG2 := n0_
         have GWG2 := n1_
         have GEG2 := n2_
         have HB := n3_
         clear n0_ n1_ n2_ n3_
         have hHeld : w9.cell? (ad.add (k * 2)) = some (.int .i64 (a.f0)) ∧ w9.cell? ⟨(ad.add (k * 2)).block, (ad.add (k * 2)).off + 1, none⟩ = some (.int .i64 (a.f1)) ∧ w9.cell? (ad.add (n * 2)) = some (.int .i64 (b.f0)) ∧ w9.cell? ⟨(ad.add (n * 2)).block, (ad.add (n * 2)).off + 1, none⟩ = some (.int .i64 (b.f1)) := hS_
         refine norm_ (a' := ?_) ?_ ?_
         rotate_left
         ·simp only [putAll, Act.put, sA, sB, sC]
          rfl
         refine one_ (i := 11) (N := some 7) (Bs 13 15) rfl rfl (one_of HT_.out (by kernel_rfl)) (by decide) (fun K hK => ?_)
         refine box_step ?hg (N := 7) ?hd (cs := #[.int .i64 0, .int .i64 0]) (t := 31) ?hr ?_; (case hd => rfl); (case hg => rfl); (case hr => first | (go_simp; done) | (go_simp; rfl))
         intro gG1 hg wE hbox hb
         have n0_ := Aside0.mk (blk_below (g := gG2) (o := .cells #[.int .i64 0, .int .i64 0] 31 (0, 0)) (kX BKG2.out) hb)
         have n1_ := Aside0.mk (below_step lB hb)
         have n2_ := Aside0.mk (hbox)
         have n3_ := Aside0.mk ((by rw [hg]; exact (below_size lB) : w.heap.size ≤ gG1))
         have n4_ := Aside0.mk ((by rw [hg]; exact (below_size lB) : w.heap.size ≤ gG1))
         have n5_ := Aside0.mk ((by rw [hg]; exact Nat.ne_of_lt (blk_lt (g := gG2) (o := .cells #[.int .i64 0, .int .i64 0] 31 (0, 0)) (kX BKG2.out)) : gG2 ≠ gG1))
         have n6_ := Aside0.mk ((by rw [hg]; exact Nat.ne_of_gt (blk_lt (g := gG2) (o := .cells #[.int .i64 0, .int .i64 0] 31 (0, 0)) (kX BKG2.out)) : gG1 ≠ gG2))
         clear BKG2
         clear HB
         have BKG2 := n0_
         have HB := n1_
         have BKG1 := n2_
         have GWG1 := n3_
         have GEG1 := n4_
         have NB21 := n5_
         have NB12 := n6_
         clear n0_ n1_ n2_ n3_ n4_ n5_ n6_
         clear hb hbox hg
         refine hK.out _ _ ⟨(cB HB.out hw_p0), (cB HB.out hw_p1), (cB HB.out hw_q0), (cB HB.out hw_q1)⟩ (fun hHeld => ?_)
         clear hK K
         refine nm 7 ?_
         exact norm_ (by first | (simp only [putAll, Act.put, sA, sB, sC]; done) | (simp only [putAll, Act.put, sA, sB, sC]; rfl)) (hJ8_11_12 (gG1, gG2) _ ⟨hHeld, (kX BKG1.out), (kX BKG2.out), GWG1.out, GEG1.out, NB21.out, NB12.out, GWG2.out, GEG2.out, lB⟩)
       ·skip
        rintro gG1 w9 ⟨hS_, h0_, h1_, h2_, h3_⟩
        have n0_ : Aside0 (w9.heap[gG1]? = some (.cells #[.int .i64 0, .int .i64 0] 31 (0, 0))) := ⟨h0_⟩
        have n1_ : Aside0 (w.heap.size ≤ gG1) := ⟨h1_⟩
        have n2_ : Aside0 (w.heap.size ≤ gG1) := ⟨h2_⟩
        have n3_ : Aside0 (Below w.heap.size w w9) := ⟨h3_⟩
        clear HB
        clear h0_ h1_ h2_ h3_
        have BKG1 := n0_
        have GWG1 := n1_
        have GEG1 := n2_
        have HB := n3_
        clear n0_ n1_ n2_ n3_
        have hHeld : w9.cell? (ad.add (k * 2)) = some (.int .i64 (a.f0)) ∧ w9.cell? ⟨(ad.add (k * 2)).block, (ad.add (k * 2)).off + 1, none⟩ = some (.int .i64 (a.f1)) ∧ w9.cell? (ad.add (n * 2)) = some (.int .i64 (b.f0)) ∧ w9.cell? ⟨(ad.add (n * 2)).block, (ad.add (n * 2)).off + 1, none⟩ = some (.int .i64 (b.f1)) := hS_
        refine norm_ (a' := ?_) ?_ ?_
        rotate_left
        ·simp only [putAll, Act.put, sA, sB, sC]
         rfl
        refine one_ (i := 12) (N := some 8) (Bs 13 15) rfl rfl (one_of HT_.out (by kernel_rfl)) (by decide) (fun K hK => ?_)
        refine box_step ?hg (N := 8) ?hd (cs := #[.int .i64 0, .int .i64 0]) (t := 31) ?hr ?_; (case hd => rfl); (case hg => rfl); (case hr => first | (go_simp; done) | (go_simp; rfl))
        intro gG2 hg wE hbox hb
        have n0_ := Aside0.mk (blk_below (g := gG1) (o := .cells #[.int .i64 0, .int .i64 0] 31 (0, 0)) (kX BKG1.out) hb)
        have n1_ := Aside0.mk (below_step lB hb)
        have n2_ := Aside0.mk (hbox)
        have n3_ := Aside0.mk ((by rw [hg]; exact (below_size lB) : w.heap.size ≤ gG2))
        have n4_ := Aside0.mk ((by rw [hg]; exact (below_size lB) : w.heap.size ≤ gG2))
        have n5_ := Aside0.mk ((by rw [hg]; exact Nat.ne_of_lt (blk_lt (g := gG1) (o := .cells #[.int .i64 0, .int .i64 0] 31 (0, 0)) (kX BKG1.out)) : gG1 ≠ gG2))
        have n6_ := Aside0.mk ((by rw [hg]; exact Nat.ne_of_gt (blk_lt (g := gG1) (o := .cells #[.int .i64 0, .int .i64 0] 31 (0, 0)) (kX BKG1.out)) : gG2 ≠ gG1))
        clear BKG1
        clear HB
        have BKG1 := n0_
        have HB := n1_
        have BKG2 := n2_
        have GWG2 := n3_
        have GEG2 := n4_
        have NB12 := n5_
        have NB21 := n6_
        clear n0_ n1_ n2_ n3_ n4_ n5_ n6_
        clear hb hbox hg
        refine hK.out _ _ ⟨(cB HB.out hw_p0), (cB HB.out hw_p1), (cB HB.out hw_q0), (cB HB.out hw_q1)⟩ (fun hHeld => ?_)
        clear hK K
        refine nm 8 ?_
        exact norm_ (by first | (simp only [putAll, Act.put, sA, sB, sC]; done) | (simp only [putAll, Act.put, sA, sB, sC]; rfl)) (hJ8_11_12 (gG1, gG2) _ ⟨hHeld, (kX BKG1.out), (kX BKG2.out), GWG1.out, GEG1.out, NB21.out, NB12.out, GWG2.out, GEG2.out, lB⟩)
      rintro ⟨gG1, gG2⟩ wE ⟨hS_, h0_, h1_, h2_, h3_, h4_, h5_, h6_, h7_, h8_⟩
      have n0_ : Aside0 (wE.heap[gG1]? = some (.cells #[.int .i64 0, .int .i64 0] 31 (0, 0))) := ⟨h0_⟩
      have n1_ : Aside0 (wE.heap[gG2]? = some (.cells #[.int .i64 0, .int .i64 0] 31 (0, 0))) := ⟨h1_⟩
      have n2_ : Aside0 (w.heap.size ≤ gG1) := ⟨h2_⟩
      have n3_ : Aside0 (w.heap.size ≤ gG1) := ⟨h3_⟩
      have n4_ : Aside0 (gG2 ≠ gG1) := ⟨h4_⟩
      have n5_ : Aside0 (gG1 ≠ gG2) := ⟨h5_⟩
      have n6_ : Aside0 (w.heap.size ≤ gG2) := ⟨h6_⟩
      have n7_ : Aside0 (w.heap.size ≤ gG2) := ⟨h7_⟩
      have n8_ : Aside0 (Below w.heap.size w wE) := ⟨h8_⟩
      clear HB
      clear h0_ h1_ h2_ h3_ h4_ h5_ h6_ h7_ h8_
      have BKG1 := n0_
      have BKG2 := n1_
      have GWG1 := n2_
      have GEG1 := n3_
      have NB21 := n4_
      have NB12 := n5_
      have GWG2 := n6_
      have GEG2 := n7_
      have HB := n8_
      clear n0_ n1_ n2_ n3_ n4_ n5_ n6_ n7_ n8_
      have hHeld : wE.cell? (ad.add (k * 2)) = some (.int .i64 (a.f0)) ∧ wE.cell? ⟨(ad.add (k * 2)).block, (ad.add (k * 2)).off + 1, none⟩ = some (.int .i64 (a.f1)) ∧ wE.cell? (ad.add (n * 2)) = some (.int .i64 (b.f0)) ∧ wE.cell? ⟨(ad.add (n * 2)).block, (ad.add (n * 2)).off + 1, none⟩ = some (.int .i64 (b.f1)) := hS_
      refine norm_ (a' := ?_) ?_ ?_
      rotate_left
      ·simp only [putAll, Act.put, sA, sB, sC]
       rfl
      refine one_ (i := 13) (N := none) (Bs 14 15) rfl rfl (one_of HT_.out (by kernel_rfl)) (by decide) (fun K hK => ?_)
      have hs11 : wE.cell? ⟨gG1, 0, none⟩ = some (.int .i64 0) := (blk_cell BKG1.out 0).trans rfl
      have hfs11 := blk_frozen BKG1.out 0
      have hns11_1 := NB21.out
      have hms11_1 := NB12.out
      have hs12 : wE.cell? ⟨gG1, 1, none⟩ = some (.int .i64 0) := (blk_cell BKG1.out 1).trans rfl
      have hfs12 := blk_frozen BKG1.out 1
      have hns12_1 := NB21.out
      have hms12_1 := NB12.out
      refine skip_ (w1 := ?_) (by rfl) rfl ?_ ?_
      rotate_left
      ·go_simp
       rfl
      refine hK.out _ _ ⟨((cell_far (p := ⟨gG1, _, none⟩) (by first | exact Nat.ne_of_lt (Nat.lt_of_lt_of_le (by have := World.block_lt_of_cell? _ _ hw_p0; first | rwa [add_block] at this | exact this) GWG1.out) | (rw [add_block]; exact Nat.ne_of_lt (Nat.lt_of_lt_of_le (by have := World.block_lt_of_cell? _ _ hw_p0; first | rwa [add_block] at this | exact this) GWG1.out)) | (show (Addr.add _ _).block ≠ _; rw [add_block]; exact Nat.ne_of_lt (Nat.lt_of_lt_of_le (by have := World.block_lt_of_cell? _ _ hw_p0; first | rwa [add_block] at this | exact this) GWG1.out)) | (dsimp only; exact Nat.ne_of_lt (Nat.lt_of_lt_of_le (by have := World.block_lt_of_cell? _ _ hw_p0; first | rwa [add_block] at this | exact this) GWG1.out))) _).trans (((cell_far (p := ⟨gG1, _, none⟩) (by first | exact Nat.ne_of_lt (Nat.lt_of_lt_of_le (by have := World.block_lt_of_cell? _ _ hw_p0; first | rwa [add_block] at this | exact this) GWG1.out) | (rw [add_block]; exact Nat.ne_of_lt (Nat.lt_of_lt_of_le (by have := World.block_lt_of_cell? _ _ hw_p0; first | rwa [add_block] at this | exact this) GWG1.out)) | (show (Addr.add _ _).block ≠ _; rw [add_block]; exact Nat.ne_of_lt (Nat.lt_of_lt_of_le (by have := World.block_lt_of_cell? _ _ hw_p0; first | rwa [add_block] at this | exact this) GWG1.out)) | (dsimp only; exact Nat.ne_of_lt (Nat.lt_of_lt_of_le (by have := World.block_lt_of_cell? _ _ hw_p0; first | rwa [add_block] at this | exact this) GWG1.out))) _).trans (hHeld.1)))), ((cell_far (p := ⟨gG1, _, none⟩) (by first | exact Nat.ne_of_lt (Nat.lt_of_lt_of_le (by have := World.block_lt_of_cell? _ _ hw_p1; first | rwa [add_block] at this | exact this) GWG1.out) | (rw [add_block]; exact Nat.ne_of_lt (Nat.lt_of_lt_of_le (by have := World.block_lt_of_cell? _ _ hw_p1; first | rwa [add_block] at this | exact this) GWG1.out)) | (show (Addr.add _ _).block ≠ _; rw [add_block]; exact Nat.ne_of_lt (Nat.lt_of_lt_of_le (by have := World.block_lt_of_cell? _ _ hw_p1; first | rwa [add_block] at this | exact this) GWG1.out)) | (dsimp only; exact Nat.ne_of_lt (Nat.lt_of_lt_of_le (by have := World.block_lt_of_cell? _ _ hw_p1; first | rwa [add_block] at this | exact this) GWG1.out))) _).trans (((cell_far (p := ⟨gG1, _, none⟩) (by first | exact Nat.ne_of_lt (Nat.lt_of_lt_of_le (by have := World.block_lt_of_cell? _ _ hw_p1; first | rwa [add_block] at this | exact this) GWG1.out) | (rw [add_block]; exact Nat.ne_of_lt (Nat.lt_of_lt_of_le (by have := World.block_lt_of_cell? _ _ hw_p1; first | rwa [add_block] at this | exact this) GWG1.out)) | (show (Addr.add _ _).block ≠ _; rw [add_block]; exact Nat.ne_of_lt (Nat.lt_of_lt_of_le (by have := World.block_lt_of_cell? _ _ hw_p1; first | rwa [add_block] at this | exact this) GWG1.out)) | (dsimp only; exact Nat.ne_of_lt (Nat.lt_of_lt_of_le (by have := World.block_lt_of_cell? _ _ hw_p1; first | rwa [add_block] at this | exact this) GWG1.out))) _).trans (hHeld.2.1)))), ((cell_far (p := ⟨gG1, _, none⟩) (by first | exact Nat.ne_of_lt (Nat.lt_of_lt_of_le (by have := World.block_lt_of_cell? _ _ hw_q0; first | rwa [add_block] at this | exact this) GWG1.out) | (rw [add_block]; exact Nat.ne_of_lt (Nat.lt_of_lt_of_le (by have := World.block_lt_of_cell? _ _ hw_q0; first | rwa [add_block] at this | exact this) GWG1.out)) | (show (Addr.add _ _).block ≠ _; rw [add_block]; exact Nat.ne_of_lt (Nat.lt_of_lt_of_le (by have := World.block_lt_of_cell? _ _ hw_q0; first | rwa [add_block] at this | exact this) GWG1.out)) | (dsimp only; exact Nat.ne_of_lt (Nat.lt_of_lt_of_le (by have := World.block_lt_of_cell? _ _ hw_q0; first | rwa [add_block] at this | exact this) GWG1.out))) _).trans (((cell_far (p := ⟨gG1, _, none⟩) (by first | exact Nat.ne_of_lt (Nat.lt_of_lt_of_le (by have := World.block_lt_of_cell? _ _ hw_q0; first | rwa [add_block] at this | exact this) GWG1.out) | (rw [add_block]; exact Nat.ne_of_lt (Nat.lt_of_lt_of_le (by have := World.block_lt_of_cell? _ _ hw_q0; first | rwa [add_block] at this | exact this) GWG1.out)) | (show (Addr.add _ _).block ≠ _; rw [add_block]; exact Nat.ne_of_lt (Nat.lt_of_lt_of_le (by have := World.block_lt_of_cell? _ _ hw_q0; first | rwa [add_block] at this | exact this) GWG1.out)) | (dsimp only; exact Nat.ne_of_lt (Nat.lt_of_lt_of_le (by have := World.block_lt_of_cell? _ _ hw_q0; first | rwa [add_block] at this | exact this) GWG1.out))) _).trans (hHeld.2.2.1)))), ((cell_far (p := ⟨gG1, _, none⟩) (by first | exact Nat.ne_of_lt (Nat.lt_of_lt_of_le (by have := World.block_lt_of_cell? _ _ hw_q1; first | rwa [add_block] at this | exact this) GWG1.out) | (rw [add_block]; exact Nat.ne_of_lt (Nat.lt_of_lt_of_le (by have := World.block_lt_of_cell? _ _ hw_q1; first | rwa [add_block] at this | exact this) GWG1.out)) | (show (Addr.add _ _).block ≠ _; rw [add_block]; exact Nat.ne_of_lt (Nat.lt_of_lt_of_le (by have := World.block_lt_of_cell? _ _ hw_q1; first | rwa [add_block] at this | exact this) GWG1.out)) | (dsimp only; exact Nat.ne_of_lt (Nat.lt_of_lt_of_le (by have := World.block_lt_of_cell? _ _ hw_q1; first | rwa [add_block] at this | exact this) GWG1.out))) _).trans (((cell_far (p := ⟨gG1, _, none⟩) (by first | exact Nat.ne_of_lt (Nat.lt_of_lt_of_le (by have := World.block_lt_of_cell? _ _ hw_q1; first | rwa [add_block] at this | exact this) GWG1.out) | (rw [add_block]; exact Nat.ne_of_lt (Nat.lt_of_lt_of_le (by have := World.block_lt_of_cell? _ _ hw_q1; first | rwa [add_block] at this | exact this) GWG1.out)) | (show (Addr.add _ _).block ≠ _; rw [add_block]; exact Nat.ne_of_lt (Nat.lt_of_lt_of_le (by have := World.block_lt_of_cell? _ _ hw_q1; first | rwa [add_block] at this | exact this) GWG1.out)) | (dsimp only; exact Nat.ne_of_lt (Nat.lt_of_lt_of_le (by have := World.block_lt_of_cell? _ _ hw_q1; first | rwa [add_block] at this | exact this) GWG1.out))) _).trans (hHeld.2.2.2))))⟩ (fun hHeld => ?_)
      clear hK K
      refine one_ (i := 14) (N := none) (Bs 15 15) rfl rfl (one_of HT_.out (by kernel_rfl)) (by decide) (fun K hK => ?_)
      have hs13 : wE.cell? ⟨gG2, 0, none⟩ = some (.int .i64 0) := (blk_cell BKG2.out 0).trans rfl
      have hfs13 := blk_frozen BKG2.out 0
      have hns13_0 := NB12.out
      have hms13_0 := NB21.out
      have hs14 : wE.cell? ⟨gG2, 1, none⟩ = some (.int .i64 0) := (blk_cell BKG2.out 1).trans rfl
      have hfs14 := blk_frozen BKG2.out 1
      have hns14_0 := NB12.out
      have hms14_0 := NB21.out
      refine skip_ (w1 := ?_) (by rfl) rfl ?_ ?_
      rotate_left
      ·go_simp
       rfl
      refine hK.out _ _ ⟨((cell_far (p := ⟨gG2, _, none⟩) (by first | exact Nat.ne_of_lt (Nat.lt_of_lt_of_le (by have := World.block_lt_of_cell? _ _ hw_p0; first | rwa [add_block] at this | exact this) GWG2.out) | (rw [add_block]; exact Nat.ne_of_lt (Nat.lt_of_lt_of_le (by have := World.block_lt_of_cell? _ _ hw_p0; first | rwa [add_block] at this | exact this) GWG2.out)) | (show (Addr.add _ _).block ≠ _; rw [add_block]; exact Nat.ne_of_lt (Nat.lt_of_lt_of_le (by have := World.block_lt_of_cell? _ _ hw_p0; first | rwa [add_block] at this | exact this) GWG2.out)) | (dsimp only; exact Nat.ne_of_lt (Nat.lt_of_lt_of_le (by have := World.block_lt_of_cell? _ _ hw_p0; first | rwa [add_block] at this | exact this) GWG2.out))) _).trans (((cell_far (p := ⟨gG2, _, none⟩) (by first | exact Nat.ne_of_lt (Nat.lt_of_lt_of_le (by have := World.block_lt_of_cell? _ _ hw_p0; first | rwa [add_block] at this | exact this) GWG2.out) | (rw [add_block]; exact Nat.ne_of_lt (Nat.lt_of_lt_of_le (by have := World.block_lt_of_cell? _ _ hw_p0; first | rwa [add_block] at this | exact this) GWG2.out)) | (show (Addr.add _ _).block ≠ _; rw [add_block]; exact Nat.ne_of_lt (Nat.lt_of_lt_of_le (by have := World.block_lt_of_cell? _ _ hw_p0; first | rwa [add_block] at this | exact this) GWG2.out)) | (dsimp only; exact Nat.ne_of_lt (Nat.lt_of_lt_of_le (by have := World.block_lt_of_cell? _ _ hw_p0; first | rwa [add_block] at this | exact this) GWG2.out))) _).trans (hHeld.1)))), ((cell_far (p := ⟨gG2, _, none⟩) (by first | exact Nat.ne_of_lt (Nat.lt_of_lt_of_le (by have := World.block_lt_of_cell? _ _ hw_p1; first | rwa [add_block] at this | exact this) GWG2.out) | (rw [add_block]; exact Nat.ne_of_lt (Nat.lt_of_lt_of_le (by have := World.block_lt_of_cell? _ _ hw_p1; first | rwa [add_block] at this | exact this) GWG2.out)) | (show (Addr.add _ _).block ≠ _; rw [add_block]; exact Nat.ne_of_lt (Nat.lt_of_lt_of_le (by have := World.block_lt_of_cell? _ _ hw_p1; first | rwa [add_block] at this | exact this) GWG2.out)) | (dsimp only; exact Nat.ne_of_lt (Nat.lt_of_lt_of_le (by have := World.block_lt_of_cell? _ _ hw_p1; first | rwa [add_block] at this | exact this) GWG2.out))) _).trans (((cell_far (p := ⟨gG2, _, none⟩) (by first | exact Nat.ne_of_lt (Nat.lt_of_lt_of_le (by have := World.block_lt_of_cell? _ _ hw_p1; first | rwa [add_block] at this | exact this) GWG2.out) | (rw [add_block]; exact Nat.ne_of_lt (Nat.lt_of_lt_of_le (by have := World.block_lt_of_cell? _ _ hw_p1; first | rwa [add_block] at this | exact this) GWG2.out)) | (show (Addr.add _ _).block ≠ _; rw [add_block]; exact Nat.ne_of_lt (Nat.lt_of_lt_of_le (by have := World.block_lt_of_cell? _ _ hw_p1; first | rwa [add_block] at this | exact this) GWG2.out)) | (dsimp only; exact Nat.ne_of_lt (Nat.lt_of_lt_of_le (by have := World.block_lt_of_cell? _ _ hw_p1; first | rwa [add_block] at this | exact this) GWG2.out))) _).trans (hHeld.2.1)))), ((cell_far (p := ⟨gG2, _, none⟩) (by first | exact Nat.ne_of_lt (Nat.lt_of_lt_of_le (by have := World.block_lt_of_cell? _ _ hw_q0; first | rwa [add_block] at this | exact this) GWG2.out) | (rw [add_block]; exact Nat.ne_of_lt (Nat.lt_of_lt_of_le (by have := World.block_lt_of_cell? _ _ hw_q0; first | rwa [add_block] at this | exact this) GWG2.out)) | (show (Addr.add _ _).block ≠ _; rw [add_block]; exact Nat.ne_of_lt (Nat.lt_of_lt_of_le (by have := World.block_lt_of_cell? _ _ hw_q0; first | rwa [add_block] at this | exact this) GWG2.out)) | (dsimp only; exact Nat.ne_of_lt (Nat.lt_of_lt_of_le (by have := World.block_lt_of_cell? _ _ hw_q0; first | rwa [add_block] at this | exact this) GWG2.out))) _).trans (((cell_far (p := ⟨gG2, _, none⟩) (by first | exact Nat.ne_of_lt (Nat.lt_of_lt_of_le (by have := World.block_lt_of_cell? _ _ hw_q0; first | rwa [add_block] at this | exact this) GWG2.out) | (rw [add_block]; exact Nat.ne_of_lt (Nat.lt_of_lt_of_le (by have := World.block_lt_of_cell? _ _ hw_q0; first | rwa [add_block] at this | exact this) GWG2.out)) | (show (Addr.add _ _).block ≠ _; rw [add_block]; exact Nat.ne_of_lt (Nat.lt_of_lt_of_le (by have := World.block_lt_of_cell? _ _ hw_q0; first | rwa [add_block] at this | exact this) GWG2.out)) | (dsimp only; exact Nat.ne_of_lt (Nat.lt_of_lt_of_le (by have := World.block_lt_of_cell? _ _ hw_q0; first | rwa [add_block] at this | exact this) GWG2.out))) _).trans (hHeld.2.2.1)))), ((cell_far (p := ⟨gG2, _, none⟩) (by first | exact Nat.ne_of_lt (Nat.lt_of_lt_of_le (by have := World.block_lt_of_cell? _ _ hw_q1; first | rwa [add_block] at this | exact this) GWG2.out) | (rw [add_block]; exact Nat.ne_of_lt (Nat.lt_of_lt_of_le (by have := World.block_lt_of_cell? _ _ hw_q1; first | rwa [add_block] at this | exact this) GWG2.out)) | (show (Addr.add _ _).block ≠ _; rw [add_block]; exact Nat.ne_of_lt (Nat.lt_of_lt_of_le (by have := World.block_lt_of_cell? _ _ hw_q1; first | rwa [add_block] at this | exact this) GWG2.out)) | (dsimp only; exact Nat.ne_of_lt (Nat.lt_of_lt_of_le (by have := World.block_lt_of_cell? _ _ hw_q1; first | rwa [add_block] at this | exact this) GWG2.out))) _).trans (((cell_far (p := ⟨gG2, _, none⟩) (by first | exact Nat.ne_of_lt (Nat.lt_of_lt_of_le (by have := World.block_lt_of_cell? _ _ hw_q1; first | rwa [add_block] at this | exact this) GWG2.out) | (rw [add_block]; exact Nat.ne_of_lt (Nat.lt_of_lt_of_le (by have := World.block_lt_of_cell? _ _ hw_q1; first | rwa [add_block] at this | exact this) GWG2.out)) | (show (Addr.add _ _).block ≠ _; rw [add_block]; exact Nat.ne_of_lt (Nat.lt_of_lt_of_le (by have := World.block_lt_of_cell? _ _ hw_q1; first | rwa [add_block] at this | exact this) GWG2.out)) | (dsimp only; exact Nat.ne_of_lt (Nat.lt_of_lt_of_le (by have := World.block_lt_of_cell? _ _ hw_q1; first | rwa [add_block] at this | exact this) GWG2.out))) _).trans (hHeld.2.2.2))))⟩ (fun hHeld => ?_)
      clear hK K
      refine done_ (done_of HT_.out (by kernel_rfl)) ?_
      have B1 := Aside0.mk (blk_far (blk_far (blk_put (blk_put BKG1.out 0 (.int .i64 a.f0) rfl) 1 (.int .i64 a.f1) rfl) (p := ⟨gG2, 0, none⟩) NB12.out (.int .i64 b.f0)) (p := ⟨gG2, 1, none⟩) NB12.out (.int .i64 b.f1))
      have B2 := Aside0.mk (blk_put (blk_put (blk_far (blk_far BKG2.out (p := ⟨gG1, 0, none⟩) NB21.out (.int .i64 a.f0)) (p := ⟨gG1, 1, none⟩) NB21.out (.int .i64 a.f1)) 0 (.int .i64 b.f0) rfl) 1 (.int .i64 b.f1) rfl)
      have HBF := Aside0.mk (lS (j := 1) (v := .int .i64 b.f1) (lS (j := 0) (v := .int .i64 b.f0) (lS (j := 1) (v := .int .i64 a.f1) (lS (j := 0) (v := .int .i64 a.f0) HB.out GWG1.out) GWG1.out) GWG2.out) GWG2.out)
      clear hHeld hs11 hfs11 hns11_1 hms11_1 hs12 hfs12 hns12_1 hms12_1 hs13 hfs13 hns13_0 hms13_0 hs14 hfs14 hns14_0 hms14_0 BKG1 BKG2 HB
      generalize (((wE.setCell ⟨gG1, 0, none⟩ (.int .i64 a.f0)).setCell ⟨gG1, 1, none⟩ (.int .i64 a.f1)).setCell ⟨gG2, 0, none⟩ (.int .i64 b.f0)).setCell ⟨gG2, 1, none⟩ (.int .i64 b.f1) = wF at *
      have BP := Aside0.mk (blk_below BP0.out HBF.out)
      have e0 : wF.cell? ⟨gG1, 0, none⟩ = some (.int .i64 a.f0) := blk_cell B1.out 0
      have e1 : wF.cell? ⟨gG1, 1, none⟩ = some (.int .i64 a.f1) := blk_cell B1.out 1
      have e2 : wF.cell? ⟨gG2, 0, none⟩ = some (.int .i64 b.f0) := blk_cell B2.out 0
      have e3 : wF.cell? ⟨gG2, 1, none⟩ = some (.int .i64 b.f1) := blk_cell B2.out 1
      have e4 : wF.cell? ⟨gP, 0, none⟩ = some (.int .i64 p.f0) := blk_cell BP.out 0
      have e5 : wF.cell? ⟨gP, 1, none⟩ = some (.int .i64 p.f1) := blk_cell BP.out 1
      generalize hob : onB a b p = ob at *
      clear hob
      cases ob with
      | true =>
        have HR := Aside0.mk (show r = 0 by rw [HV.out, HST.out]; rfl)
        clear HV HST
        go_wp2_with (first | (go_at_call 59; go_must (refine (R1_on.calls _ _ _ _ _ _ _ _ HON.out).mono ?_); rintro e w3 ⟨rfl, hb3⟩; have HB3 := Aside0.mk (below_step HBF.out hb3); clear hb3))
        go_ret
        exact ⟨by rw [HR.out]; rfl, below_step HBZ.out HB3.out⟩
      | false =>
        have HR := Aside0.mk (show r = insR l0 p (l0.length - (k + 1)) (k + 1) (xor odd cr) by rw [HV.out, HST.out]; rfl)
        clear HV HST
        by_cases h1 : a.f1 ≤ p.f1
        · have d1 : decide (a.f1 ≤ p.f1) = true := decide_eq_true h1
          by_cases h2 : p.f1 < b.f1
          · have d2 : decide (p.f1 < b.f1) = true := decide_eq_true h2
            have d3 : decide (b.f1 ≤ p.f1) = false := decide_eq_false (by omega)
            by_cases h3 : 0 < s1
            · have d4 : decide (0 < s1) = true := decide_eq_true h3
              have HC := Aside0.mk (show cr = true by rw [HCR.out, decide_eq_true_eq]; exact Or.inl ⟨h1, h2, h3⟩)
              rw [HC.out] at HR
              clear HCR HC h1 h2 h3
              go_wp2_with (first | (go_at_call 59; go_must (refine (R1_on.calls _ _ _ _ _ _ _ _ HON.out).mono ?_); rintro e w3 ⟨rfl, hb3⟩; have HBN := Aside0.mk (below_step HBF.out hb3); have c0 := cB hb3 e0; have c1 := cB hb3 e1; have c2 := cB hb3 e2; have c3 := cB hb3 e3; have c4 := cB hb3 e4; have c5 := cB hb3 e5; clear hb3) | (go_at_call 31; go_must (refine (R1_Turn.calls _ _ _ _ _ _ _ _ HT1.out).mono ?_); rintro e w4 ⟨rfl, hb4⟩; have HBM := Aside0.mk (below_step HBN.out hb4); have f0 := cB hb4 c0; have f1 := cB hb4 c1; have f2 := cB hb4 c2; have f3 := cB hb4 c3; have f4 := cB hb4 c4; have f5 := cB hb4 c5; clear hb4))
              go_roundw
              case rel => exact ⟨k + 1, xor odd true, by omega, by go_num, by cases odd <;> rfl, HR, HBM⟩
              case measure => simp [intOf]; omega
            · have d4 : decide (0 < s1) = false := decide_eq_false h3
              have HC := Aside0.mk (show cr = false by rw [HCR.out, decide_eq_false_iff_not]; omega)
              rw [HC.out] at HR
              clear HCR HC h1 h2 h3
              go_wp2_with (first | (go_at_call 59; go_must (refine (R1_on.calls _ _ _ _ _ _ _ _ HON.out).mono ?_); rintro e w3 ⟨rfl, hb3⟩; have HBN := Aside0.mk (below_step HBF.out hb3); have c0 := cB hb3 e0; have c1 := cB hb3 e1; have c2 := cB hb3 e2; have c3 := cB hb3 e3; have c4 := cB hb3 e4; have c5 := cB hb3 e5; clear hb3) | (go_at_call 31; go_must (refine (R1_Turn.calls _ _ _ _ _ _ _ _ HT1.out).mono ?_); rintro e w4 ⟨rfl, hb4⟩; have HBM := Aside0.mk (below_step HBN.out hb4); have f0 := cB hb4 c0; have f1 := cB hb4 c1; have f2 := cB hb4 c2; have f3 := cB hb4 c3; have f4 := cB hb4 c4; have f5 := cB hb4 c5; clear hb4))
              go_roundw
              case rel => exact ⟨k + 1, xor odd false, by omega, by go_num, by cases odd <;> rfl, HR, HBM⟩
              case measure => simp [intOf]; omega
          · have d2 : decide (p.f1 < b.f1) = false := decide_eq_false h2
            have d3 : decide (b.f1 ≤ p.f1) = true := decide_eq_true (by omega)
            have d5 : decide (p.f1 < a.f1) = false := decide_eq_false (by omega)
            have HC := Aside0.mk (show cr = false by rw [HCR.out, decide_eq_false_iff_not]; omega)
            rw [HC.out] at HR
            clear HCR HC h1 h2
            go_wp2_with (first | (go_at_call 59; go_must (refine (R1_on.calls _ _ _ _ _ _ _ _ HON.out).mono ?_); rintro e w3 ⟨rfl, hb3⟩; have HBN := Aside0.mk (below_step HBF.out hb3); have c0 := cB hb3 e0; have c1 := cB hb3 e1; have c2 := cB hb3 e2; have c3 := cB hb3 e3; have c4 := cB hb3 e4; have c5 := cB hb3 e5; clear hb3))
            go_roundw
            case rel => exact ⟨k + 1, xor odd false, by omega, by go_num, by cases odd <;> rfl, HR, HBN⟩
            case measure => simp [intOf]; omega
        · have d1 : decide (a.f1 ≤ p.f1) = false := decide_eq_false h1
          have d5 : decide (p.f1 < a.f1) = true := decide_eq_true (by omega)
          by_cases h2 : b.f1 ≤ p.f1
          · have d3 : decide (b.f1 ≤ p.f1) = true := decide_eq_true h2
            by_cases h3 : 0 < s2
            · have d4 : decide (0 < s2) = true := decide_eq_true h3
              have HC := Aside0.mk (show cr = true by rw [HCR.out, decide_eq_true_eq]; exact Or.inr ⟨h2, by omega, h3⟩)
              rw [HC.out] at HR
              clear HCR HC h1 h2 h3
              go_wp2_with (first | (go_at_call 59; go_must (refine (R1_on.calls _ _ _ _ _ _ _ _ HON.out).mono ?_); rintro e w3 ⟨rfl, hb3⟩; have HBN := Aside0.mk (below_step HBF.out hb3); have c0 := cB hb3 e0; have c1 := cB hb3 e1; have c2 := cB hb3 e2; have c3 := cB hb3 e3; have c4 := cB hb3 e4; have c5 := cB hb3 e5; clear hb3) | (go_at_call 31; go_must (refine (R1_Turn.calls _ _ _ _ _ _ _ _ HT2.out).mono ?_); rintro e w4 ⟨rfl, hb4⟩; have HBM := Aside0.mk (below_step HBN.out hb4); have f0 := cB hb4 c0; have f1 := cB hb4 c1; have f2 := cB hb4 c2; have f3 := cB hb4 c3; have f4 := cB hb4 c4; have f5 := cB hb4 c5; clear hb4))
              go_roundw
              case rel => exact ⟨k + 1, xor odd true, by omega, by go_num, by cases odd <;> rfl, HR, HBM⟩
              case measure => simp [intOf]; omega
            · have d4 : decide (0 < s2) = false := decide_eq_false h3
              have HC := Aside0.mk (show cr = false by rw [HCR.out, decide_eq_false_iff_not]; omega)
              rw [HC.out] at HR
              clear HCR HC h1 h2 h3
              go_wp2_with (first | (go_at_call 59; go_must (refine (R1_on.calls _ _ _ _ _ _ _ _ HON.out).mono ?_); rintro e w3 ⟨rfl, hb3⟩; have HBN := Aside0.mk (below_step HBF.out hb3); have c0 := cB hb3 e0; have c1 := cB hb3 e1; have c2 := cB hb3 e2; have c3 := cB hb3 e3; have c4 := cB hb3 e4; have c5 := cB hb3 e5; clear hb3) | (go_at_call 31; go_must (refine (R1_Turn.calls _ _ _ _ _ _ _ _ HT2.out).mono ?_); rintro e w4 ⟨rfl, hb4⟩; have HBM := Aside0.mk (below_step HBN.out hb4); have f0 := cB hb4 c0; have f1 := cB hb4 c1; have f2 := cB hb4 c2; have f3 := cB hb4 c3; have f4 := cB hb4 c4; have f5 := cB hb4 c5; clear hb4))
              go_roundw
              case rel => exact ⟨k + 1, xor odd false, by omega, by go_num, by cases odd <;> rfl, HR, HBM⟩
              case measure => simp [intOf]; omega
          · have d3 : decide (b.f1 ≤ p.f1) = false := decide_eq_false h2
            have HC := Aside0.mk (show cr = false by rw [HCR.out, decide_eq_false_iff_not]; omega)
            rw [HC.out] at HR
            clear HCR HC h1 h2
            go_wp2_with (first | (go_at_call 59; go_must (refine (R1_on.calls _ _ _ _ _ _ _ _ HON.out).mono ?_); rintro e w3 ⟨rfl, hb3⟩; have HBN := Aside0.mk (below_step HBF.out hb3); have c0 := cB hb3 e0; have c1 := cB hb3 e1; have c2 := cB hb3 e2; have c3 := cB hb3 e3; have c4 := cB hb3 e4; have c5 := cB hb3 e5; clear hb3))
            go_roundw
            case rel => exact ⟨k + 1, xor odd false, by omega, by go_num, by cases odd <;> rfl, HR, HBN⟩
            case measure => simp [intOf]; omega
    · obtain rfl : k = l0.length := by omega
      have HR := Aside0.mk (show r = if odd then 1 else -1 by rw [HV.out, Nat.sub_self]; rfl)
      clear HV
      cases odd with
      | true =>
        go_wp2
        go_ret
        exact ⟨by rw [HR.out]; rfl, below_step HBZ.out HB.out⟩
      | false =>
        go_wp2
        go_ret
        exact ⟨by rw [HR.out]; rfl, below_step HBZ.out HB.out⟩
def R1_Inside.f (l0 : List S31) (a1 a2 : Int) : Option Int := if allOk l0 = true ∧ okPt ⟨a1, a2⟩ = true ∧ l0.length ≤ 4096 then some (insR l0 ⟨a1, a2⟩ l0.length 0 false) else none
theorem R1_Inside.calls (A0 : Option Addr) (c0 : Nat) (l0 : List S31) (a1_0 a1_1 : Int) (r : Int) (w : World) (hr0 : Kd.C k31 w A0 l0.length l0) (hc0 : l0.length ≤ c0) (h : R1_Inside.f l0 a1_0 a1_1 = some r) :
    Calls Try.prog 29 #[.slice A0 l0.length c0, .agg #[.int .i64 a1_0, .int .i64 a1_1]] w fun e w' => e = .returned (.int .i64 r) ∧ Below w.heap.size w w' := by
  unfold R1_Inside.f at h
  split at h
  · rename_i hh
    cases h
    exact refinside_calls A0 c0 l0 ⟨a1_0, a1_1⟩ w hr0 hc0 hh.1 hh.2.1 hh.2.2
  · cases h
end Go.Proofs.Ythaklbjcjoolcaa.P
namespace Go.Proofs.Ythaklbjcjoolcaa.Pure
open Go.RowKit Go.Proofs.Ythaklbjcjoolcaa.P YthaklbjcjoolcaaW.PrintWords YthaklbjcjoolcaaW.PrintLast YthaklbjcjoolcaaW.PrintMore
def way (odd : Bool) : Int := if odd then 1 else -1
theorem way_flip (odd : Bool) : wrap64 (-way odd) = way (!odd) := by
 rw [w64i (by cases odd <;> decide) (by cases odd <;> decide)]
 cases odd <;> rfl
theorem prog_ins (l : List S31) (p : S31) (ho : allOk l = true) (hp : okPt p = true) (hn : l.length ≤ 4096) : ∀ (m i : Nat) (odd : Bool), l.length - i = m → i ≤ l.length →
  Ev (fun k => plane_Inside.l0 k l (way odd) (l.length : Int) (i : Int) p.f0 p.f1) (insR l p m i odd, 0)
 | 0, i, odd, hm, hi => by
  refine Ev.step (f := fun _ => some (way odd, 0)) (fun k => ?_) (Ev.now _)
  rw [plane_Inside.l0, if_neg (by omega)]
 | m + 1, i, odd, hm, hi => by
  have hlt : i < l.length := by omega
  have hnb : (i + 1) % l.length < l.length := Nat.mod_lt _ (by omega)
  have oa := pt_ok ho hlt
  have ob := pt_ok ho hnb
  have ih := fun o => prog_ins l p ho hp hn m (i + 1) o (by omega) (by omega)
  have ej : wrap64 ((i : Int) + 1) = ((i + 1 : Nat) : Int) := w64i (x := (i : Int) + 1) (by omega) (by omega)
  have he := edge_is l i hlt hn
  have hst : insR l p (m + 1) i odd = if onB (pt l i) (pt l ((i + 1) % l.length)) p = true then 0 else insR l p m (i + 1) (xor odd (crossR (pt l i) (pt l ((i + 1) % l.length)) p)) := rfl
  rw [hst]
  generalize pt l ((i + 1) % l.length) = b at *
  generalize pt l i = a at *
  have hh := has_is oa ob hp
  have t1 := turn_is oa ob hp
  have t2 := turn_is ob oa hp
  refine Ev.step (f := fun k => if onB a b p = true then some (0, 0) else plane_Inside.l0 k l (way (xor odd (crossR a b p))) (l.length : Int) ((i + 1 : Nat) : Int) p.f0 p.f1) (fun k => ?_) ?_
  ·rw [plane_Inside.l0, if_pos (by omega), he, Option.bind_some]
   simp only
   rw [hh, Option.bind_some, ej]
   by_cases ho : onB a b p = true
   ·rw [if_pos ho, if_pos ho]
   ·rw [if_neg ho, if_neg ho]
    by_cases h1 : a.f1 > b.f1
    ·rw [if_pos h1]
     by_cases h2 : b.f1 ≤ p.f1
     ·rw [if_pos h2]
      by_cases h3 : p.f1 < a.f1
      ·rw [if_pos h3, t2, Option.bind_some]
       by_cases h4 : 0 < crs b a p
       ·have hc : crossR a b p = true := by unfold crossR; rw [decide_eq_true_eq]; exact Or.inr ⟨h2, h3, h4⟩
        rw [if_pos (sgn_pos.2 h4), hc, way_flip, Bool.xor_true]
       ·have hc : crossR a b p = false := by unfold crossR; rw [decide_eq_false_iff_not]; omega
        rw [if_neg (fun h => h4 (sgn_pos.1 h)), hc, Bool.xor_false]
      ·have hc : crossR a b p = false := by unfold crossR; rw [decide_eq_false_iff_not]; omega
       rw [if_neg h3, hc, Bool.xor_false]
     ·have hc : crossR a b p = false := by unfold crossR; rw [decide_eq_false_iff_not]; omega
      rw [if_neg h2, hc, Bool.xor_false]
    ·rw [if_neg h1]
     by_cases h2 : a.f1 ≤ p.f1
     ·rw [if_pos h2]
      by_cases h3 : p.f1 < b.f1
      ·rw [if_pos h3, t1, Option.bind_some]
       by_cases h4 : 0 < crs a b p
       ·have hc : crossR a b p = true := by unfold crossR; rw [decide_eq_true_eq]; exact Or.inl ⟨h2, h3, h4⟩
        rw [if_pos (sgn_pos.2 h4), hc, way_flip, Bool.xor_true]
       ·have hc : crossR a b p = false := by unfold crossR; rw [decide_eq_false_iff_not]; omega
        rw [if_neg (fun h => h4 (sgn_pos.1 h)), hc, Bool.xor_false]
      ·have hc : crossR a b p = false := by unfold crossR; rw [decide_eq_false_iff_not]; omega
       rw [if_neg h3, hc, Bool.xor_false]
     ·have hc : crossR a b p = false := by unfold crossR; rw [decide_eq_false_iff_not]; omega
      rw [if_neg h2, hc, Bool.xor_false]
  ·by_cases ho : onB a b p = true
   ·rw [if_pos ho]; exact ev_pos ho (Ev.now _)
   ·rw [if_neg ho]; exact ev_neg ho (ih _)
theorem invalid_is (p : S31) : plane_invalid.f p.f0 p.f1 = some (!okPt p) := by
 unfold plane_invalid.f plane_valid.f okPt
 simp only [within_is, Option.bind_some]
 by_cases h1 : -4096 ≤ p.f0 ∧ p.f0 ≤ 4096
 ·by_cases h2 : -4096 ≤ p.f1 ∧ p.f1 ≤ 4096 <;> simp [h1, h2]
 ·simp [h1]
theorem inside_ev (t : List S31) (p : S31) : Ev (fun k => plane_Inside.f k t p.f0 p.f1) (if simpleS t = true ∧ okPt p = true then (insR t p t.length 0 false, 0) else (0, 2)) := by
 have no : Ev (fun k => plane_Inside.j0 k t true p.f0 p.f1) (0, 2) := by
  refine Ev.step (f := fun _ => some (0, 2)) (fun k => ?_) (Ev.now _)
  rw [plane_Inside.j0, if_pos rfl]
 unfold plane_Inside.f
 refine Ev.bind (prog_simple t) ?_
 by_cases hs : simpleS t = true
 ·refine ev_pos hs (Ev.bind (ev_is (invalid_is p)) ?_)
  by_cases hp : okPt p = true
  ·rw [if_pos ⟨hs, hp⟩, hp]
   unfold simpleS at hs
   simp only [Bool.and_eq_true, decide_eq_true_eq] at hs
   refine Ev.step (fun k => ?_) (prog_ins t p hs.1.2 hp (by omega) t.length 0 false (by omega) (by omega))
   rw [plane_Inside.j0, if_neg (by decide)]
   rfl
  ·rw [if_neg (fun h => hp h.2)]
   rw [Bool.not_eq_true] at hp
   rw [hp]; exact no
 ·rw [if_neg (fun h => hs h.1)]
  exact ev_neg hs no
end Go.Proofs.Ythaklbjcjoolcaa.Pure
