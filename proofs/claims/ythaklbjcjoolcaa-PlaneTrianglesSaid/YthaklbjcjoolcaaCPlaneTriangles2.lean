/- Proved here: what functions that the law reaches compute, and plain laws of that. Put together by a program; a part was printed by one (wip/printplus.py). -/
import Derived.Test.YthaklbjcjoolcaaBQ1
import Derived.Maps.RangeWalk
import Derived.Maps.Views
import Derived.WideKeyArr2
import Derived.WideKeyEntry
import Derived.DeepKeys2
import Derived.KernelRfl
import Derived.Test.YthaklbjcjoolcaaProg
import Derived.Ground.Names2Prog
import Derived.Shelf.Slices.Delete
import Derived.Test.YthaklbjcjoolcaaBQ2
import Derived.Test.YthaklbjcjoolcaaCPlaneTriangles1
set_option linter.unusedVariables false
set_option linter.unusedSimpArgs false
namespace Go.Proofs.Ythaklbjcjoolcaa.P
open Go.RowKit YthaklbjcjoolcaaW.PrintWords YthaklbjcjoolcaaW.PrintLast YthaklbjcjoolcaaW.PrintMore
attribute [local go_sem] max2_int min2_int max_two min_two max_three min_three max_four min_four

def plane_sense.f (k : Nat) (l0 : List (S31)) : Option (Int) := (plane_area.f k l0).bind fun t630 => (if t630 > 0 then (some 1) else (some (-1)))
theorem plane_sense.mono : ∀ a0 k, LeO (plane_sense.f k a0) (plane_sense.f (k + 1) a0) := by
 intro a0 k
 unfold plane_sense.f
 repeat' first
   | (with_reducible exact plane_area.mono _ _)
   | (with_reducible first | exact LeO.refl _ | exact LeO.none _ | refine LeO.ite ?_ ?_ | refine LeO.bind ?_ (fun _ => ?_))
   | exact plane_area.mono _ _
   | exact LeO.none _ | refine LeO.ite ?_ ?_ | refine LeO.bind ?_ (fun _ => ?_)
set_option maxHeartbeats 8000000 in
set_option maxRecDepth 100000 in
theorem plane_sense.calls (k : Nat) (A0 : Option Addr) (c0 : Nat) (l0 : List (S31)) (r : Int) (w : World) (hr0 : Kd.C k31 w A0 l0.length l0) (hc0 : l0.length ≤ c0) (h : plane_sense.f k l0 = some r) :
  Calls Try.prog 76 #[.slice A0 l0.length c0] w fun e w' => e = .returned (.int .i64 r) ∧ Below w.heap.size w w' := by
 have HR0 := Aside0.mk hr0
 have HC0 := Aside0.mk hc0
 clear hr0 hc0
 have HB := Aside0.mk (Below.refl w.heap.size w)
 have H : ((plane_area.f k l0).bind fun t630 => (if t630 > 0 then (some 1) else (some (-1)))) = some r := h
 clear h
 replace H := Option.bind_eq_some_iff.mp H
 obtain ⟨t630, A20, H⟩ := H
 replace H : (if t630 > 0 then (some 1) else (some (-1))) = some r := H
 have A2 := Aside0.mk A20
 clear A20
 by_cases c3 : t630 > 0
 ·rw [if_pos c3] at H
  have c3b0 : decide (0 < t630) = true := decide_eq_true c3
  clear c3
  obtain rfl := Option.some.inj H
  go_enter Try.func76, Try.ntmps76
  go_wp2_with (first | ((with_reducible refine gate_callee (f := 53) rfl ?_); refine goesL_ (some 4) rfl rfl Try.func53 (by kernel_rfl) rfl #[.slice A0 l0.length c0] rfl (by (try simp only [List.map_toArray, List.map_cons, List.map_nil]); first | done | rfl | (simp only [List.length_drop, List.length_take]; rfl)) ?_; (with_reducible refine (plane_area.calls k _ _ l0 t630 _ ?side1 ?side2 A2.out).mono ?_); (case side1 => repeat (first | exact HR0.out | (with_reducible refine Kd.C_alloc ?_ _) | (with_reducible refine Kd.C_drewN ?_ _) | (with_reducible refine Kd.C_drew ?_))); (case side2 => exact HC0.out); rintro e w4 ⟨rfl, hb⟩; refine ⟨_, rfl, ?_⟩; have n0_ := Aside0.mk (below_step lB hb); clear HB; have HB := n0_; clear n0_; (try clear hb); (try clear hb2); (try clear hk); (try clear hi)))
  go_ret
  exact en
 rw [if_neg c3] at H
 have c3b0 : decide (0 < t630) = false := decide_eq_false c3
 clear c3
 obtain rfl := Option.some.inj H
 go_enter Try.func76, Try.ntmps76
 go_wp2_with (first | ((with_reducible refine gate_callee (f := 53) rfl ?_); refine goesL_ (some 4) rfl rfl Try.func53 (by kernel_rfl) rfl #[.slice A0 l0.length c0] rfl (by (try simp only [List.map_toArray, List.map_cons, List.map_nil]); first | done | rfl | (simp only [List.length_drop, List.length_take]; rfl)) ?_; (with_reducible refine (plane_area.calls k _ _ l0 t630 _ ?side1 ?side2 A2.out).mono ?_); (case side1 => repeat (first | exact HR0.out | (with_reducible refine Kd.C_alloc ?_ _) | (with_reducible refine Kd.C_drewN ?_ _) | (with_reducible refine Kd.C_drew ?_))); (case side2 => exact HC0.out); rintro e w5 ⟨rfl, hb⟩; refine ⟨_, rfl, ?_⟩; have n0_ := Aside0.mk (below_step lB hb); clear HB; have HB := n0_; clear n0_; (try clear hb); (try clear hb2); (try clear hk); (try clear hi)))
 go_ret
 exact en

end Go.Proofs.Ythaklbjcjoolcaa.P
namespace Go.Proofs.Ythaklbjcjoolcaa.P
open Go.WideMaps Go.WideElems Go.MapKept Go.ChangeMaps
open Go.Maps (Keyed has)
def kv (x y : Int) : Value := .agg #[.int .i64 x, .int .i64 y]
def ok64 (x : Int) : Prop := (Lit.int .i64 x).wf = true
theorem ok64_of {x : Int} (h0 : -9223372036854775808 ≤ x) (h1 : x ≤ 9223372036854775807) : ok64 x := by
 have e1 : IntKind.i64.min = -9223372036854775808 := by decide
 have e2 : IntKind.i64.max = 9223372036854775807 := by decide
 show (decide (IntKind.i64.min ≤ x) && decide (x ≤ IntKind.i64.max)) = true
 rw [e1, e2]
 simp only [Bool.and_eq_true, decide_eq_true_eq]
 omega
theorem mArr : ArrKey Try.prog 49 3 2 := ⟨Try.underlying49, by kernel_rfl, by kernel_rfl, by kernel_rfl⟩
theorem mSize : Try.prog.types.size = (Try.prog.types.size - 1) + 1 := by kernel_rfl
theorem mType : Try.prog.keyType 49 = true := by kernel_rfl
theorem mCells3 : Try.prog.cellsOf 3 = 1 := by kernel_rfl
theorem mCells49 : Try.prog.cellsOf 49 = 2 := by kernel_rfl
theorem mLaw : KeyLaw Try.prog 49 := mArr.law
theorem mK : Keyed Try.prog 49 := Keyed.of_law mLaw
theorem mLits {x y : Int} (hx : ok64 x) (hy : ok64 y) (d : Nat) : Try.prog.keyLits (d + 2) 49 [.int .i64 x, .int .i64 y] = some [.int .i64 x, .int .i64 y] := by
 unfold ok64 at hx hy
 have h0 : Try.prog.keyLits (d + 1) 3 [.int .i64 x] = some [.int .i64 x] := by unfold Program.keyLits; simp [Try.underlying3, hx]
 have h1 : Try.prog.keyLits (d + 1) 3 [.int .i64 y] = some [.int .i64 y] := by unfold Program.keyLits; simp [Try.underlying3, hy]
 unfold Program.keyLits
 simp [Try.underlying49, mCells49, mCells3, List.range_succ, h0, h1]
theorem key_of {x y : Int} (hx : ok64 x) (hy : ok64 y) : keyOf Try.prog 49 (kv x y) = some (.string (keyBytes [.int .i64 x, .int .i64 y])) := by
 unfold keyOf kv
 simp only [Try.underlying49]
 rw [if_pos (by simp [mType, Value.formed, Try.underlying49, mCells49])]
 show (Try.prog.keyLits (Try.prog.types.size + 1) 49 [.int .i64 x, .int .i64 y]).map _ = _
 rw [mSize, mLits hx hy]; rfl
def kl (x y : Int) : Lit := .string (keyBytes [.int .i64 x, .int .i64 y])
theorem kl_of {x y : Int} (hx : ok64 x) (hy : ok64 y) : keyOf Try.prog 49 (kv x y) = some (kl x y) := key_of hx hy
theorem kl_key {x y : Int} (hx : ok64 x) (hy : ok64 y) : WideAt.IsKeyLit (kl x y) := mK.key (kl_of hx hy)
theorem kl_inj {x y u v : Int} (hx : ok64 x) (hy : ok64 y) (hu : ok64 u) (hv : ok64 v) (h : kl x y = kl u v) : x = u ∧ y = v := by
 have := mK.inj (kl_of hx hy) (h ▸ kl_of hu hv)
 unfold kv at this
 simpa using this
theorem key_inv {v : Value} {l : Lit} (h : keyOf Try.prog 49 v = some l) : ∃ x y, v = kv x y ∧ ok64 x ∧ ok64 y ∧ l = kl x y := by
 obtain ⟨xs, L, rfl, hL, _⟩ := keyOf_top (by rw [Try.underlying49]) h
 have hl := hL
 rw [mSize] at hl
 unfold Program.keyLits at hl
 simp only [Try.underlying49, mCells49, mCells3] at hl
 split at hl
 ·rename_i hlen
  obtain ⟨a, b, e⟩ : ∃ a b, xs.toList = [a, b] := by
   match xs.toList, hlen with
   | [a, b], _ => exact ⟨a, b, rfl⟩
  rw [e] at hl
  simp only [Option.map_eq_some_iff] at hl
  obtain ⟨ys, hy, _⟩ := hl
  simp [List.range_succ, bind, Option.bind_eq_some_iff] at hy
  obtain ⟨la, h1, lb, ⟨lc, h2, _⟩, _⟩ := hy
  obtain ⟨x, ex, _⟩ := keyLits_int' Try.underlying3 h1
  obtain ⟨y, ey, _⟩ := keyLits_int' Try.underlying3 h2
  simp at ex ey
  subst ex; subst ey
  have wx : ok64 x := by unfold Program.keyLits at h1; simp [Try.underlying3] at h1; exact h1.1
  have wy : ok64 y := by unfold Program.keyLits at h2; simp [Try.underlying3] at h2; exact h2.1
  have ev : Value.agg xs = kv x y := by unfold kv; rw [← Array.toArray_toList (xs := xs), e]
  rw [ev, kl_of wx wy] at h
  exact ⟨x, y, ev, wx, wy, (Option.some.inj h).symm⟩
 ·cases hl
def Mp (w : World) (b n : Nat) (D : DataW Unit) (c : Int → Int → Int) : Prop := w.ownsMap Try.prog 49 (plainElem Try.prog 3) b n D ∧ Maps.IsMap D ∧ ∀ x y, ok64 x → ok64 y → D.atKey (kl x y) (.lit (.int .i64 0)) = .lit (.int .i64 (c x y))
theorem mp_made (w : World) : Mp (w.alloc (.map #[] 0)) w.heap.size 0 (.map []) (fun _ _ => 0) := ⟨World.ownsMap_made w _ _ _, ⟨[], rfl⟩, fun _ _ _ _ => rfl⟩
theorem mp_zero (w : World) : (zeroValue 3).run Try.prog w = .ok (.int .i64 0) w := by kernel_rfl
theorem mp_look {w : World} {b n : Nat} {D : DataW Unit} {c : Int → Int → Int} (h : Mp w b n D c) {x y : Int} (hx : ok64 x) (hy : ok64 y) : (Instr.lookup 76 (.map (some b)) (kv x y) false).run Try.prog w = .ok (.int .i64 (c x y)) w := by
 obtain ⟨v, h1, h2, _⟩ := h.1.lookup_int mK Try.underlying76 Try.underlying3 (mp_zero w) (kl_of hx hy)
 rw [h.2.2 x y hx hy] at h2
 simp at h2
 rw [h1, h2]
def putF (c : Int → Int → Int) (x y v : Int) : Int → Int → Int := fun a d => if a = x ∧ d = y then v else c a d
theorem mp_put {D : DataW Unit} {c : Int → Int → Int} (hm : Maps.IsMap D) (h : ∀ x y, ok64 x → ok64 y → D.atKey (kl x y) (.lit (.int .i64 0)) = .lit (.int .i64 (c x y))) {x y v : Int} (hx : ok64 x) (hy : ok64 y) :
  Maps.IsMap (D.put (kl x y) (.lit (.int .i64 v))) ∧ ∀ a d, ok64 a → ok64 d → (D.put (kl x y) (.lit (.int .i64 v))).atKey (kl a d) (.lit (.int .i64 0)) = .lit (.int .i64 (putF c x y v a d)) := by
 refine ⟨hm.put _ _, fun a d ha hd => ?_⟩
 unfold putF
 by_cases e : a = x ∧ d = y
 ·rw [if_pos e, e.1, e.2, Maps.atKey_put_same hm (kl_key hx hy)]
 ·rw [if_neg e, Maps.atKey_put_other (fun q => e (kl_inj ha hd hx hy q)), h a d ha hd]
theorem mp_update {w : World} {b n : Nat} {D : DataW Unit} {c : Int → Int → Int} (h : Mp w b n D c) (hn : n < maxLen) {x y v : Int} (hx : ok64 x) (hy : ok64 y) (hv : ok64 v) :
  ∃ w', (Instr.mapUpdate 76 (.map (some b)) (kv x y) (.int .i64 v)).run Try.prog w = .ok () w' ∧ Mp w' b (n + 1) (D.put (kl x y) (.lit (.int .i64 v))) (putF c x y v) ∧ w.grownBy w' (some b) := by
 obtain ⟨w', h1, h2, h3⟩ := h.1.update mK Try.underlying76 hn (kl_of hx hy) (plainElem_int Try.underlying3 hv)
 obtain ⟨k1, k2⟩ := mp_put h.2.1 h.2.2 hx hy (v := v)
 exact ⟨w', h1, ⟨h2, k1, k2⟩, h3⟩
theorem Mp.kept {w w' : World} {b n : Nat} {D : DataW Unit} {c : Int → Int → Int} (h : Mp w b n D c) {row : Option Nat} (hg : w.grownBy w' row) (hne : some b ≠ row) : Mp w' b n D c := ⟨h.1.kept hg hne, h.2⟩
theorem mp_entry {w : World} {b n : Nat} {D : DataW Unit} {c : Int → Int → Int} (h : Mp w b n D c) (hn : n < maxLen) {x y : Int} (hx : ok64 x) (hy : ok64 y) :
  ∃ (v0 st : Value) (w1 : World), (Instr.mapEntry 76 (.map (some b)) (kv x y)).run Try.prog w = .ok (.tuple #[v0, st]) w1 ∧ (∃ D1, Mp w1 b (n + 1) D1 c) ∧ w.grownBy w1 (some b) ∧
   ∀ (w2 : World) (v : Int), ok64 v → w2.heap[b]? = w1.heap[b]? → ∃ w3, (Instr.entryStore 76 (.map (some b)) st (.int .i64 v)).run Try.prog w2 = .ok () w3 ∧ (∃ D3, Mp w3 b (n + 1) D3 (putF c x y v)) ∧ w2.grownBy w3 (some b) := by
 obtain ⟨ho, hm, hc⟩ := h
 have hmp : Mp w b n D c := ⟨ho, hm, hc⟩
 obtain ⟨es, clock, hb, F, hs, hD⟩ := ho
 have hkey := kl_of hx hy
 obtain ⟨v0, st, es1, clock1, r1, _, r3⟩ := entry_then_store mLaw Try.underlying76 (z := .int .i64 0) mp_zero hb F hkey
 have hsb : ∀ (W : World) (o o' : Obj), W.heap[b]? = some o' → (setBlock W b o).heap[b]? = some o := fun W o o' e => by
  have := (Array.getElem?_eq_some_iff.1 e).1
  simp [setBlock, this]
 have hgr : ∀ (W : World) (o o' : Obj), W.heap[b]? = some o' → W.grownBy (setBlock W b o) (some b) := fun W o o' e =>
  ⟨rfl, rfl, rfl, by simp [setBlock], fun i _ hi => by
   have : b ≠ i := fun q => hi (by rw [q])
   simp [setBlock, Array.getElem?_setIfInBounds_ne this]⟩
 have hblk : ∀ {W W' : World} {m : Nat} {E : DataW Unit} {f : Int → Int → Int}, Mp W b m E f → W'.heap[b]? = W.heap[b]? → Mp W' b m E f := fun h e => by
  obtain ⟨⟨es, clock, hb, F⟩, r⟩ := h
  exact ⟨⟨es, clock, e.trans hb, F⟩, r⟩
 refine ⟨v0, goInt st, _, r1, ?_, hgr w _ _ hb, fun w2 v hv e2 => ?_⟩
 ·rcases mK.find w hkey es.toList F.keys with ⟨h1, h2⟩ | ⟨j, e0, h1, h2, h3⟩
  ·obtain ⟨w', u1, u2, u3⟩ := mp_update hmp hn hx hy (v := 0) (by unfold ok64; decide)
   have hl := mp_look hmp hx hy
   have e0 : c x y = 0 := by
    simp [Instr.lookup, run_underlying Try.underlying76, MapKept.run_getObj_map hb, mK.check w _ hkey, h1, Result.andThen] at hl
    exact hl.symm
   have e1 : putF c x y 0 = c := by
    funext a d; unfold putF
    by_cases e : a = x ∧ d = y
    ·rw [if_pos e, e.1, e.2, e0]
    ·rw [if_neg e]
   rw [e1] at u2
   have k1 : (Instr.mapEntry 76 (.map (some b)) (kv x y)).run Try.prog w = .ok (.tuple #[.int .i64 0, goInt clock]) (setBlock w b (.map (es.push ⟨kv x y, .int .i64 0, clock⟩) (clock + 1))) := by
    simp [Instr.mapEntry, run_underlying Try.underlying76, MapKept.run_getObj_map hb, mK.check w false hkey, h1, MapKept.run_setObj_map _ hb, Result.andThen, setBlock]
   have k2 : (Instr.mapUpdate 76 (.map (some b)) (kv x y) (.int .i64 0)).run Try.prog w = .ok () (setBlock w b (.map (es.push ⟨kv x y, .int .i64 0, clock⟩) (clock + 1))) := by
    simp [Instr.mapUpdate, run_underlying Try.underlying76, MapKept.run_getObj_map hb, mK.check w false hkey, h1, MapKept.run_setObj_map _ hb, Result.andThen, setBlock]
   rw [r1] at k1
   rw [u1] at k2
   injection k1 with _ k1
   injection k2 with _ k2
   rw [k1, ← k2]
   exact ⟨_, u2⟩
  ·have hj : es[j]? = some e0 := by simpa using h2
   have hsame : es.modify j (fun e => { e with key := kv x y }) = es := by
    apply Array.ext'
    rw [Array.toList_modify, modify_eq_set _ _ _ _ h2]
    have : ({ e0 with key := kv x y } : MapEntry) = e0 := by rw [← h3]
    rw [this]
    exact set_self _ _ _ h2
   have k1 : (Instr.mapEntry 76 (.map (some b)) (kv x y)).run Try.prog w = .ok (.tuple #[e0.val, goInt e0.born]) (setBlock w b (.map es clock)) := by
    simp [Instr.mapEntry, run_underlying Try.underlying76, MapKept.run_getObj_map hb, mK.check w false hkey, h1, hj, h3, mK.stays w hkey, hsame, MapKept.run_setObj_map _ hb, Result.andThen, setBlock]
   rw [r1] at k1
   injection k1 with _ k1
   rw [k1]
   exact ⟨D, hblk ⟨hmp.1.mono (Nat.le_succ n), hmp.2⟩ ((hsb w _ _ hb).trans hb.symm)⟩
 ·have hb2 : w2.heap[b]? = some (.map es1 clock1) := e2.trans (hsb w _ _ hb)
  obtain ⟨es', clock', s1, s2⟩ := r3 w2 (.int .i64 v) hb2
  obtain ⟨w', u1, u2, u3⟩ := mp_update hmp hn hx hy hv
  rw [u1] at s2
  injection s2 with _ s2
  refine ⟨_, s1, ⟨_, hblk u2 ?_⟩, hgr w2 _ _ hb2⟩
  rw [s2, hsb w2 _ _ hb2, hsb w _ _ hb]
end Go.Proofs.Ythaklbjcjoolcaa.P
namespace Go.Proofs
open Go.Shelf
def Try.laysNm223_ren : Go.Shelf.Ren := ⟨fun | 23 => 79 | n => n, fun | 22 => 78 | 3 => 3 | 4 => 4 | 0 => 0 | n => n, fun | n => n⟩
theorem Try.laysNm223 : Go.Proofs.Lays2.n23 Try.prog Try.laysNm223_ren := {
 mixed := by kernel_rfl
 f23 := Try.func79.trans (congrArg some (by kernel_rfl))
 t0 := Try.underlying0
 a0 := Try.isAgg0
 z0 := Try.sizeOf0
 v0 := Try.zeroValue0
 t3 := Try.underlying3
 a3 := Try.isAgg3
 z3 := Try.sizeOf3
 v3 := Try.zeroValue3
 t4 := Try.underlying4
 a4 := Try.isAgg4
 z4 := Try.sizeOf4
 v4 := Try.zeroValue4
 t22 := Try.underlying78
 a22 := Try.isAgg78
 z22 := Try.sizeOf78
 v22 := Try.zeroValue78
 i3 := by kernel_rfl }
open Go.RowKit Go.Lib Go.Sort in
theorem Try.slices_Delete_int (blk off cap i j : Nat) (zs : List Int) (w : World) (hH : Holds (Value.int .i64) w blk off zs.toArray) (hcap : zs.length ≤ cap) (hm : cap ≤ 9223372036854775807) (hij : i ≤ j) (hj : j ≤ zs.length) :
  Calls Try.prog 79 #[.slice (some ⟨blk, off, none⟩) zs.length cap, .int .i64 i, .int .i64 j] w fun e w' => e = .returned (.slice (some ⟨blk, off, none⟩) (zs.length - (j - i)) cap) ∧ ∃ q, w' = putRow (Value.int .i64) (Sort.ahead w q) blk off (zs.take i ++ zs.drop j ++ List.replicate (j - i) 0).toArray := Any.slices_Delete_int Try.laysNm223 blk off cap i j zs w hH hcap hm hij hj
end Go.Proofs
namespace Go.Proofs.Ythaklbjcjoolcaa.P
open Go.RowKit Go.Shelf Go.Sort YthaklbjcjoolcaaW.PrintWords YthaklbjcjoolcaaW.PrintLast YthaklbjcjoolcaaW.PrintMore
theorem putCells_take1 {α : Type} [Inhabited α] (enc : α → Value) (d : Array α) (c : Array Value) (h : d.size ≤ c.size) : (putCells enc 0 d c).toList.take d.size = d.toList.map enc := by
 apply List.ext_getElem
 ·simp [putCells]; omega
 ·intro i h1 h2
  simp at h2
  simp [putCells, h2]
theorem holds_ints {w : World} {base g n cap : Nat} {e : TypeId} {xs : List Int} (hn : xs.length = n) (h : w.ownsRow base e 1 (.slice (some ⟨g, 0, none⟩) n cap) n (encs (Value.int .i64) xs)) : Holds (Value.int .i64) w g 0 xs.toArray := by
 obtain ⟨hlen, hv⟩ := h
 intro j hj
 have hj' : j < xs.length := by simpa using hj
 rcases hv with ⟨hv, _⟩ | ⟨g', cap', cur, hv, hg, hblk, _, _, hcs, htk⟩
 ·simp at hv
 ·simp only [Value.slice.injEq, Option.some.injEq, Addr.mk.injEq] at hv
  obtain ⟨⟨rfl, _⟩, _, rfl⟩ := hv
  constructor
  ·rw [Nat.zero_add, cell_of_row _ _ _ _ _ _ hblk]
   have h1 : (cur.toList.take (n * 1))[j]? = (encs (Value.int .i64) xs)[j]? := by rw [htk]
   rw [List.getElem?_take, if_pos (by omega)] at h1
   rw [← Array.getElem?_toList, h1]
   unfold encs
   rw [List.getElem?_map, List.getElem?_eq_getElem hj']
   simp [hj']
  ·exact frozen_of_row _ _ _ _ _ hblk
theorem delete_calls (w : World) (base : Nat) (ok : Nat → Prop) (v : Value) (xs : List Int) (k : Nat) (h : Kd.R (Kd.int .i64) 3 w base ok v xs) (hk : k < xs.length) (hsz : xs.length < 4611686018427387904) :
  Calls Try.prog 79 #[v, .int .i64 k, .int .i64 (((k + 1 : Nat) : Int))] w fun e w' => ∃ v', e = .returned v' ∧ Kd.R (Kd.int .i64) 3 w' base ok v' (xs.eraseIdx k) ∧ w.grownBy w' v.ownBlock ∧ v'.ownBlock = v.ownBlock := by
 have ho := Kd.own_of_R h
 obtain ⟨hlen, hv⟩ := ho
 rcases hv with ⟨rfl, hn⟩ | ⟨g, cap, cur, rfl, hg, hblk, hc1, hc2, hcs, htk⟩
 ·exact absurd hn (by omega)
 ·have hH : Holds (Value.int .i64) w g 0 xs.toArray := holds_ints rfl (Kd.own_of_R h)
  have hc := Try.slices_Delete_int g 0 cap k (k + 1) xs w hH hc1 (by unfold maxLen at hc2; omega) (by omega) (by omega)
  refine hc.mono ?_
  rintro e w' ⟨he, q, rfl⟩
  have hF : xs.length - (k + 1 - k) = (xs.eraseIdx k).length := by rw [List.length_eraseIdx, if_pos hk]; omega
  refine ⟨_, he, ?_, ?_, rfl⟩
  ·refine Kd.R_of_own (h1 := fun _ => rfl) ?_ h.1
   rw [hF]
   have hbk : (putRow (Value.int .i64) (Sort.ahead w q) g 0 (xs.take k ++ xs.drop (k + 1) ++ List.replicate (k + 1 - k) 0).toArray).heap[g]? = some (.cells (putCells (Value.int .i64) 0 (xs.take k ++ xs.drop (k + 1) ++ List.replicate (k + 1 - k) 0).toArray cur) 3) := heap_mapBlock_same (w := Sort.ahead w q) hblk
   refine ⟨by rw [encs_length, Nat.mul_one], .inr ⟨g, cap, putCells (Value.int .i64) 0 (xs.take k ++ xs.drop (k + 1) ++ List.replicate (k + 1 - k) 0).toArray cur, rfl, hg, hbk, by omega, hc2, by simp [putCells, hcs], ?_⟩⟩
   have hsize : (xs.take k ++ xs.drop (k + 1) ++ List.replicate (k + 1 - k) 0).toArray.size = xs.length := by simp; omega
   have ht := putCells_take1 (Value.int .i64) (xs.take k ++ xs.drop (k + 1) ++ List.replicate (k + 1 - k) 0).toArray cur (by rw [hsize, hcs]; omega)
   rw [hsize] at ht
   have e0 : (xs.eraseIdx k).length * 1 = min (xs.eraseIdx k).length xs.length := by rw [← hF]; omega
   rw [e0, ← List.take_take, ht]
   unfold encs
   rw [← List.map_take, List.eraseIdx_eq_take_drop_succ]
   congr 1
   exact List.take_left
  ·exact ⟨rfl, rfl, rfl, by unfold putRow; rw [size_mapBlock]; exact Nat.le_refl _, fun i hi hne => by unfold putRow; rw [heap_mapBlock_other (fun e => hne (by rw [e]; rfl))]; rfl⟩
end Go.Proofs.Ythaklbjcjoolcaa.P
namespace Go.Proofs.Ythaklbjcjoolcaa.P
open Go.RowKit YthaklbjcjoolcaaW.PrintWords YthaklbjcjoolcaaW.PrintLast YthaklbjcjoolcaaW.PrintMore
attribute [local go_sem] max2_int min2_int max_two min_two max_three min_three max_four min_four

def R1_Area.l0 : Nat → List (S31) → Int → Int → Option (Int)
 | 0, _, _, _ => none
 | k + 1, x0, x3, x4 => if x4 < (x0.length : Int) then (if 0 ≤ x4 then ((R1_next.f x4 (x0.length : Int)).bind fun t231 => (if 0 ≤ t231 then (if t231 < (x0.length : Int) then (R1_Area.l0 k x0 (wrap64 ((wrap64 (x3 + (wrap64 (((rd_T31 x0 x4).f0) * ((rd_T31 x0 t231).f1))))) - (wrap64 (((rd_T31 x0 t231).f0) * ((rd_T31 x0 x4).f1))))) (wrap64 (x4 + 1))) else (none)) else (none))) else (none)) else (some x3)
def R1_Area.f (k : Nat) (l0 : List (S31)) : Option (Int) := R1_Area.l0 k l0 0 0
theorem R1_Area.mono_l : ∀ k, (∀ y0 y1 y2, LeO (R1_Area.l0 k y0 y1 y2) (R1_Area.l0 (k + 1) y0 y1 y2))
 | 0 => fun _ _ _ r h => by simp [R1_Area.l0] at h
 | k + 1 => by
  have ih0 := R1_Area.mono_l k
  ·intro y0 y1 y2
   unfold R1_Area.l0
   repeat' first
   | (with_reducible exact ih0 _ _ _)
   | (with_reducible first | exact LeO.refl _ | exact LeO.none _ | refine LeO.ite ?_ ?_ | refine LeO.bind ?_ (fun _ => ?_))
   | exact ih0 _ _ _
   | exact LeO.none _ | refine LeO.ite ?_ ?_ | refine LeO.bind ?_ (fun _ => ?_)
theorem R1_Area.mono : ∀ a0 k, LeO (R1_Area.f k a0) (R1_Area.f (k + 1) a0) := by
 intro a0 k
 have ih0 := R1_Area.mono_l k
 unfold R1_Area.f
 repeat' first
   | (with_reducible exact ih0 _ _ _)
   | (with_reducible first | exact LeO.refl _ | exact LeO.none _ | refine LeO.ite ?_ ?_ | refine LeO.bind ?_ (fun _ => ?_))
   | exact ih0 _ _ _
   | exact LeO.none _ | refine LeO.ite ?_ ?_ | refine LeO.bind ?_ (fun _ => ?_)
def R1_Area.T5 : Bool × List (List Nat × List Nat) := (true, [([], []), ([], []), ([0, 1], [0, 1]), ([2], [2]), ([], []), ([], []), ([], []), ([6], [6]), ([5, 7], [5, 7]), ([4, 8], [4, 8]), ([9], [9]), ([], []), ([], []), ([11, 3, 8, 0, 1, 2, 3, 11, 12], [3, 11]), ([12, 10, 13, 0, 1, 2, 3, 4, 5, 6, 7, 8, 9, 10, 11, 12, 13], [10, 12])])
def R1_Area.B5 : List Nat := [0, 0, 3, 7, 0, 0, 0, 64, 224, 496, 1008, 0, 0, 6639, 16383]
theorem R1_Area.tab5 : rtab .any (opsOf Try.f24 5) = R1_Area.T5 := by kernel_rfl
theorem R1_Area.bits5 : waitsOk R1_Area.T5.2 R1_Area.B5 = true := by kernel_rfl
theorem cF2PSilversideref01Area {w W : World} {g : Nat} {a : Addr} {v v0 u1 u2 : Value} {o1 o2 : Nat} (hw : w.cell? a = some v0) (gw : w.heap.size ≤ g) (h : W.cell? a = some v) : ((W.setCell ⟨g, o1, none⟩ u1).setCell ⟨g, o2, none⟩ u2).cell? a = some v := by
  have hne : a.block ≠ g := Nat.ne_of_lt (Nat.lt_of_lt_of_le (World.block_lt_of_cell? _ _ hw) gw)
  exact (cell_far (p := ⟨g, o2, none⟩) hne u2).trans ((cell_far (p := ⟨g, o1, none⟩) hne u1).trans h)
set_option maxHeartbeats 8000000 in
set_option maxRecDepth 100000 in
theorem R1_Area.calls (k : Nat) (A0 : Option Addr) (c0 : Nat) (l0 : List (S31)) (r : Int) (w : World) (hr0 : Kd.C k31 w A0 l0.length l0) (hc0 : l0.length ≤ c0) (h : R1_Area.f k l0 = some r) :
  Calls Try.prog 24 #[.slice A0 l0.length c0] w fun e w' => e = .returned (.int .i64 r) ∧ Below w.heap.size w w' := by
 have hu31 := Try.underlying31
 have HR0 := Aside0.mk hr0
 have HC0 := Aside0.mk hc0
 clear hr0 hc0
 have HB := Aside0.mk (Below.refl w.heap.size w)
 have H : (R1_Area.l0 k l0 0 0) = some r := h
 clear h
 have H' := Aside0.mk H
 clear H
 go_enter Try.func24, Try.ntmps24
 go_wp2
 go_loopg [3, 4] k (fun kq v3 v4 w' => ∃ (x3_1 : Int) (x4_1 : Int), v3 = .int .i64 x3_1 ∧ v4 = .int .i64 x4_1 ∧ Aside0 (R1_Area.l0 kq l0 x3_1 x4_1 = some r) ∧ Aside0 (kq ≤ k) ∧ Aside0 (Below w.heap.size w w'))
 case atStart => exact ⟨(0), (0), (by first | rfl | (simp; done) | (simp [*]; done)), (by first | rfl | (simp; done) | (simp [*]; done)), H', ⟨Nat.le_refl _⟩, ⟨by repeat (first | (with_reducible first | exact HB.out | apply lA | apply lN | apply lD) | exact HB.out)⟩⟩
 case round =>
  clear H'
  obtain ⟨x3_1, x4_1, rfl, rfl, HA, HK1, HB⟩ := hrel
  cases gk with
  | zero => exact absurd HA.out (by simp [R1_Area.l0])
  | succ k1 =>
   have H := HA.out
   clear HA
   simp only [R1_Area.l0] at H
   by_cases c2 : x4_1 < (l0.length : Int)
   rotate_left
   ·rw [if_neg c2] at H
    have c2b0 : decide (x4_1 < (l0.length : Int)) = false := decide_eq_false c2
    clear c2
    obtain rfl := Option.some.inj H
    go_wp2
    go_ret
    exact en
   rw [if_pos c2] at H
   have c2b0 : decide (x4_1 < (l0.length : Int)) = true := decide_eq_true c2
   clear c2
   by_cases c3 : 0 ≤ x4_1
   rotate_left
   ·rw [if_neg c3] at H; exact absurd H (by simp)
   rw [if_pos c3] at H
   have c3b0 : decide (0 ≤ x4_1) = true := decide_eq_true c3
   clear c3
   replace H := Option.bind_eq_some_iff.mp H
   obtain ⟨t231, A40, H⟩ := H
   replace H : (if 0 ≤ t231 then (if t231 < (l0.length : Int) then (R1_Area.l0 k1 l0 (wrap64 ((wrap64 (x3_1 + (wrap64 (((rd_T31 l0 x4_1).f0) * ((rd_T31 l0 t231).f1))))) - (wrap64 (((rd_T31 l0 t231).f0) * ((rd_T31 l0 x4_1).f1))))) (wrap64 (x4_1 + 1))) else (none)) else (none)) = some r := H
   have A4 := Aside0.mk A40
   clear A40
   by_cases c5 : 0 ≤ t231
   rotate_left
   ·rw [if_neg c5] at H; exact absurd H (by simp)
   rw [if_pos c5] at H
   have c5b0 : decide (0 ≤ t231) = true := decide_eq_true c5
   clear c5
   by_cases c6 : t231 < (l0.length : Int)
   rotate_left
   ·rw [if_neg c6] at H; exact absurd H (by simp)
   rw [if_pos c6] at H
   have c6b0 : decide (t231 < (l0.length : Int)) = true := decide_eq_true c6
   clear c6
   have H' := Aside0.mk H
   clear H
   try go_wp2
   replace HB := Aside0.mk (lD HB.out)
   have p230 : 0 ≤ (x4_1 : Int) := of_decide_eq_true (by first | (with_reducible assumption) | assumption)
   have q230 : x4_1 < (l0.length : Int) := of_decide_eq_true (by first | (with_reducible assumption) | assumption)
   obtain ⟨ad230, e230, hx230_0, hx230_1⟩ := at_T31 HR0.out x4_1 p230 q230
   have hw230_1 := hx230_1
   have hw230_0 := hx230_0
   cases e230
   replace hx230_0 := cB HB.out hx230_0
   replace hx230_1 := cB HB.out hx230_1
   replace p230 := eq_true p230
   replace q230 := eq_true q230
   have p232 : 0 ≤ (t231 : Int) := of_decide_eq_true (by first | (with_reducible assumption) | assumption)
   have q232 : t231 < (l0.length : Int) := of_decide_eq_true (by first | (with_reducible assumption) | assumption)
   obtain ⟨ad232, e232, hx232_0, hx232_1⟩ := at_T31 HR0.out t231 p232 q232
   have hw232_1 := hx232_1
   have hw232_0 := hx232_0
   obtain rfl : ad230 = ad232 := (by injection e232)
   replace hx232_0 := cB HB.out hx232_0
   replace hx232_1 := cB HB.out hx232_1
   replace p232 := eq_true p232
   replace q232 := eq_true q232
   refine start_ (n := 15) (S := fun w' => w'.cell? (ad230.add ((x4_1).toNat * 2)) = some (.int .i64 ((rd_T31 l0 x4_1).f0)) ∧ w'.cell? ⟨(ad230.add ((x4_1).toNat * 2)).block, (ad230.add ((x4_1).toNat * 2)).off + 1, none⟩ = some (.int .i64 ((rd_T31 l0 x4_1).f1)) ∧ w'.cell? (ad230.add ((t231).toNat * 2)) = some (.int .i64 ((rd_T31 l0 t231).f0)) ∧ w'.cell? ⟨(ad230.add ((t231).toNat * 2)).block, (ad230.add ((t231).toNat * 2)).off + 1, none⟩ = some (.int .i64 ((rd_T31 l0 t231).f1))) (ds := []) (Bs 0 15) (by kernel_rfl) rfl rfl ⟨(cB HB.out hw230_0), (cB HB.out hw230_1), (cB HB.out hw232_0), (cB HB.out hw232_1)⟩ (fun hHeld => ?_); refine with_tabW R1_Area.tab5 R1_Area.bits5 (fun HT_ HW_ => ?_)
   generalize wr.drew = w7 at HB hx230_0 hx230_1 hx232_0 hx232_1 hHeld ⊢
   refine pu 0 13 (Bs 1 15) HT_ ?_
   refine pu 1 14 (Bs 2 15) HT_ ?_
   refine pu 2 15 (Bs 3 15) HT_ ?_
   refine pu 4 17 (Br [3,1,1,10]) HT_ ?_
   refine pu 5 18 (Br [3,1,2,9]) HT_ ?_
   refine pu 6 19 (Br [3,1,3,8]) HT_ ?_
   refine pu 7 20 (Br [3,1,4,7]) HT_ ?_
   refine ta 3 16 (Bs 8 15) HT_ HW_ hHeld ?_
   refine join_ (σ := Nat × Nat) 2 (Bs 13 15) (fun s_ => [(21, .int .i64 t231), (5, .pointer (some ⟨s_.1, 0, none⟩)), (6, .pointer (some ⟨s_.2, 0, none⟩)), (22, .pointer (some (ad230.add ((t231).toNat * 2)))), (23, .agg #[.int .i64 ((rd_T31 l0 t231).f0), .int .i64 ((rd_T31 l0 t231).f1)])]) (fun s_ w' => (w'.cell? (ad230.add ((x4_1).toNat * 2)) = some (.int .i64 ((rd_T31 l0 x4_1).f0)) ∧ w'.cell? ⟨(ad230.add ((x4_1).toNat * 2)).block, (ad230.add ((x4_1).toNat * 2)).off + 1, none⟩ = some (.int .i64 ((rd_T31 l0 x4_1).f1)) ∧ w'.cell? (ad230.add ((t231).toNat * 2)) = some (.int .i64 ((rd_T31 l0 t231).f0)) ∧ w'.cell? ⟨(ad230.add ((t231).toNat * 2)).block, (ad230.add ((t231).toNat * 2)).off + 1, none⟩ = some (.int .i64 ((rd_T31 l0 t231).f1))) ∧ (w'.heap[s_.1]? = some (.cells #[.int .i64 0, .int .i64 0] 31 (0, 0))) ∧ (w'.heap[s_.2]? = some (.cells #[.int .i64 0, .int .i64 0] 31 (0, 0))) ∧ (w.heap.size ≤ s_.1) ∧ (w.heap.size ≤ s_.1) ∧ (s_.2 ≠ s_.1) ∧ (s_.1 ≠ s_.2) ∧ (w.heap.size ≤ s_.2) ∧ (w.heap.size ≤ s_.2) ∧ (Below w.heap.size w w')) ?_ ?_
   rotate_left
   ·intro hJ8_11_12
    refine join_ (σ := Nat) 3 (Bs 12 15) (fun s_ => [(21, .int .i64 t231), (5, .pointer (some ⟨s_, 0, none⟩)), (22, .pointer (some (ad230.add ((t231).toNat * 2)))), (23, .agg #[.int .i64 ((rd_T31 l0 t231).f0), .int .i64 ((rd_T31 l0 t231).f1)])]) (fun s_ w' => (w'.cell? (ad230.add ((x4_1).toNat * 2)) = some (.int .i64 ((rd_T31 l0 x4_1).f0)) ∧ w'.cell? ⟨(ad230.add ((x4_1).toNat * 2)).block, (ad230.add ((x4_1).toNat * 2)).off + 1, none⟩ = some (.int .i64 ((rd_T31 l0 x4_1).f1)) ∧ w'.cell? (ad230.add ((t231).toNat * 2)) = some (.int .i64 ((rd_T31 l0 t231).f0)) ∧ w'.cell? ⟨(ad230.add ((t231).toNat * 2)).block, (ad230.add ((t231).toNat * 2)).off + 1, none⟩ = some (.int .i64 ((rd_T31 l0 t231).f1))) ∧ (w'.heap[s_]? = some (.cells #[.int .i64 0, .int .i64 0] 31 (0, 0))) ∧ (w.heap.size ≤ s_) ∧ (w.heap.size ≤ s_) ∧ (Below w.heap.size w w')) ?_ ?_
    rotate_left
    ·intro hJ8_11
     refine join_ (σ := Nat) 3 (Br [11,1,1,2]) (fun s_ => [(21, .int .i64 t231), (6, .pointer (some ⟨s_, 0, none⟩)), (22, .pointer (some (ad230.add ((t231).toNat * 2)))), (23, .agg #[.int .i64 ((rd_T31 l0 t231).f0), .int .i64 ((rd_T31 l0 t231).f1)])]) (fun s_ w' => (w'.cell? (ad230.add ((x4_1).toNat * 2)) = some (.int .i64 ((rd_T31 l0 x4_1).f0)) ∧ w'.cell? ⟨(ad230.add ((x4_1).toNat * 2)).block, (ad230.add ((x4_1).toNat * 2)).off + 1, none⟩ = some (.int .i64 ((rd_T31 l0 x4_1).f1)) ∧ w'.cell? (ad230.add ((t231).toNat * 2)) = some (.int .i64 ((rd_T31 l0 t231).f0)) ∧ w'.cell? ⟨(ad230.add ((t231).toNat * 2)).block, (ad230.add ((t231).toNat * 2)).off + 1, none⟩ = some (.int .i64 ((rd_T31 l0 t231).f1))) ∧ (w'.heap[s_]? = some (.cells #[.int .i64 0, .int .i64 0] 31 (0, 0))) ∧ (w.heap.size ≤ s_) ∧ (w.heap.size ≤ s_) ∧ (Below w.heap.size w w')) ?_ ?_
     rotate_left
     ·intro hJ8_12
      refine join_ (σ := Nat × Nat) 5 (Br [8,3,2,2]) (fun s_ => [(5, .pointer (some ⟨s_.1, 0, none⟩)), (6, .pointer (some ⟨s_.2, 0, none⟩))]) (fun s_ w' => (w'.cell? (ad230.add ((x4_1).toNat * 2)) = some (.int .i64 ((rd_T31 l0 x4_1).f0)) ∧ w'.cell? ⟨(ad230.add ((x4_1).toNat * 2)).block, (ad230.add ((x4_1).toNat * 2)).off + 1, none⟩ = some (.int .i64 ((rd_T31 l0 x4_1).f1)) ∧ w'.cell? (ad230.add ((t231).toNat * 2)) = some (.int .i64 ((rd_T31 l0 t231).f0)) ∧ w'.cell? ⟨(ad230.add ((t231).toNat * 2)).block, (ad230.add ((t231).toNat * 2)).off + 1, none⟩ = some (.int .i64 ((rd_T31 l0 t231).f1))) ∧ (w'.heap[s_.1]? = some (.cells #[.int .i64 0, .int .i64 0] 31 (0, 0))) ∧ (w'.heap[s_.2]? = some (.cells #[.int .i64 0, .int .i64 0] 31 (0, 0))) ∧ (w.heap.size ≤ s_.1) ∧ (w.heap.size ≤ s_.1) ∧ (s_.2 ≠ s_.1) ∧ (s_.1 ≠ s_.2) ∧ (w.heap.size ≤ s_.2) ∧ (w.heap.size ≤ s_.2) ∧ (Below w.heap.size w w')) ?_ ?_
      rotate_left
      ·intro hJ11_12
       refine join_ (σ := Unit) 4 (Bs 11 15) (fun s_ => [(21, .int .i64 t231), (22, .pointer (some (ad230.add ((t231).toNat * 2)))), (23, .agg #[.int .i64 ((rd_T31 l0 t231).f0), .int .i64 ((rd_T31 l0 t231).f1)])]) (fun s_ w' => (w'.cell? (ad230.add ((x4_1).toNat * 2)) = some (.int .i64 ((rd_T31 l0 x4_1).f0)) ∧ w'.cell? ⟨(ad230.add ((x4_1).toNat * 2)).block, (ad230.add ((x4_1).toNat * 2)).off + 1, none⟩ = some (.int .i64 ((rd_T31 l0 x4_1).f1)) ∧ w'.cell? (ad230.add ((t231).toNat * 2)) = some (.int .i64 ((rd_T31 l0 t231).f0)) ∧ w'.cell? ⟨(ad230.add ((t231).toNat * 2)).block, (ad230.add ((t231).toNat * 2)).off + 1, none⟩ = some (.int .i64 ((rd_T31 l0 t231).f1))) ∧ (Below w.heap.size w w')) ?_ ?_
       rotate_left
       ·intro hJ8
        refine join_ (σ := Nat) 6 (Br [8,3,1,3]) (fun s_ => [(5, .pointer (some ⟨s_, 0, none⟩))]) (fun s_ w' => (w'.cell? (ad230.add ((x4_1).toNat * 2)) = some (.int .i64 ((rd_T31 l0 x4_1).f0)) ∧ w'.cell? ⟨(ad230.add ((x4_1).toNat * 2)).block, (ad230.add ((x4_1).toNat * 2)).off + 1, none⟩ = some (.int .i64 ((rd_T31 l0 x4_1).f1)) ∧ w'.cell? (ad230.add ((t231).toNat * 2)) = some (.int .i64 ((rd_T31 l0 t231).f0)) ∧ w'.cell? ⟨(ad230.add ((t231).toNat * 2)).block, (ad230.add ((t231).toNat * 2)).off + 1, none⟩ = some (.int .i64 ((rd_T31 l0 t231).f1))) ∧ (w'.heap[s_]? = some (.cells #[.int .i64 0, .int .i64 0] 31 (0, 0))) ∧ (w.heap.size ≤ s_) ∧ (w.heap.size ≤ s_) ∧ (Below w.heap.size w w')) ?_ ?_
        rotate_left
        ·intro hJ11
         refine join_ (σ := Nat) 6 (Br [8,4,1,2]) (fun s_ => [(6, .pointer (some ⟨s_, 0, none⟩))]) (fun s_ w' => (w'.cell? (ad230.add ((x4_1).toNat * 2)) = some (.int .i64 ((rd_T31 l0 x4_1).f0)) ∧ w'.cell? ⟨(ad230.add ((x4_1).toNat * 2)).block, (ad230.add ((x4_1).toNat * 2)).off + 1, none⟩ = some (.int .i64 ((rd_T31 l0 x4_1).f1)) ∧ w'.cell? (ad230.add ((t231).toNat * 2)) = some (.int .i64 ((rd_T31 l0 t231).f0)) ∧ w'.cell? ⟨(ad230.add ((t231).toNat * 2)).block, (ad230.add ((t231).toNat * 2)).off + 1, none⟩ = some (.int .i64 ((rd_T31 l0 t231).f1))) ∧ (w'.heap[s_]? = some (.cells #[.int .i64 0, .int .i64 0] 31 (0, 0))) ∧ (w.heap.size ≤ s_) ∧ (w.heap.size ≤ s_) ∧ (Below w.heap.size w w')) ?_ ?_
         rotate_left
         ·intro hJ12
          refine three_ (i := 8) (j := 11) (k := 12) (Ni := some 21) (Nj := some 5) (Nk := some 6) (Bs 9 15) (Br [8,3,1,3]) (Br [8,4,1,2]) rfl rfl rfl rfl rfl rfl (three_of HT_.out (by kernel_rfl)) (by decide) (by decide) (by decide) (fun K hK => ?_) (fun K hK => ?_) (fun K hK => ?_)
          ·skip
           refine goes_ Try.func54 (by kernel_rfl) rfl #[.int .i64 x4_1, .int .i64 (l0.length : Int)] (by rfl) rfl rfl (by (try simp only [List.map_toArray, List.map_cons, List.map_nil]); first | done | rfl | (simp only [List.length_drop, List.length_take]; rfl)) ?_
           with_reducible refine (R1_next.calls x4_1 (l0.length : Int) t231 _ A4.out).mono ?_
           rintro e w' ⟨rfl, ⟨nd, rfl⟩⟩
           refine ⟨_, rfl, ?_⟩
           refine hK.out _ _ ⟨(cB HB.out hw230_0), (cB HB.out hw230_1), (cB HB.out hw232_0), (cB HB.out hw232_1)⟩ (fun hHeld => ?_)
           clear hK K
           refine nm 21 ?_
           refine pu 9 22 (Bs 10 15) HT_ ?_
           refine ta 10 23 (Bs 11 15) HT_ HW_ hHeld ?_
           exact norm_ (by first | (simp only [putAll, Act.put, sA, sB, sC]; done) | (simp only [putAll, Act.put, sA, sB, sC]; rfl)) (hJ8 () _ ⟨hHeld, lB⟩)
          ·skip
           refine box_step ?hg (N := 5) ?hd (cs := #[.int .i64 0, .int .i64 0]) (t := 31) ?hr ?_; (case hd => rfl); (case hg => rfl); (case hr => first | (go_simp; done) | (go_simp; rfl))
           intro gb233 hg w8 hbox hb
           have n0_ := Aside0.mk (below_step lB hb)
           have n1_ := Aside0.mk (hbox)
           have n2_ := Aside0.mk (lG (w := w) hg)
           have n3_ := Aside0.mk (lG (w := w) hg)
           clear HB
           have HB := n0_
           have BK233 := n1_
           have GW233 := n2_
           have GE233 := n3_
           clear n0_ n1_ n2_ n3_
           clear hb hbox hg
           refine hK.out _ _ ⟨(cB HB.out hw230_0), (cB HB.out hw230_1), (cB HB.out hw232_0), (cB HB.out hw232_1)⟩ (fun hHeld => ?_)
           clear hK K
           refine nm 5 ?_
           exact norm_ (by first | (simp only [putAll, Act.put, sA, sB, sC]; done) | (simp only [putAll, Act.put, sA, sB, sC]; rfl)) (hJ11 (gb233) _ ⟨hHeld, (kX BK233.out), GW233.out, GE233.out, lB⟩)
          ·skip
           refine box_step ?hg (N := 6) ?hd (cs := #[.int .i64 0, .int .i64 0]) (t := 31) ?hr ?_; (case hd => rfl); (case hg => rfl); (case hr => first | (go_simp; done) | (go_simp; rfl))
           intro gb234 hg w8 hbox hb
           have n0_ := Aside0.mk (below_step lB hb)
           have n1_ := Aside0.mk (hbox)
           have n2_ := Aside0.mk (lG (w := w) hg)
           have n3_ := Aside0.mk (lG (w := w) hg)
           clear HB
           have HB := n0_
           have BK234 := n1_
           have GW234 := n2_
           have GE234 := n3_
           clear n0_ n1_ n2_ n3_
           clear hb hbox hg
           refine hK.out _ _ ⟨(cB HB.out hw230_0), (cB HB.out hw230_1), (cB HB.out hw232_0), (cB HB.out hw232_1)⟩ (fun hHeld => ?_)
           clear hK K
           refine nm 6 ?_
           exact norm_ (by first | (simp only [putAll, Act.put, sA, sB, sC]; done) | (simp only [putAll, Act.put, sA, sB, sC]; rfl)) (hJ12 (gb234) _ ⟨hHeld, (kX BK234.out), GW234.out, GE234.out, lB⟩)
         ·skip
          rintro gb234 w9 ⟨hS_, h0_, h1_, h2_, h3_⟩
          have n0_ : Aside0 (w9.heap[gb234]? = some (.cells #[.int .i64 0, .int .i64 0] 31 (0, 0))) := ⟨h0_⟩
          have n1_ : Aside0 (w.heap.size ≤ gb234) := ⟨h1_⟩
          have n2_ : Aside0 (w.heap.size ≤ gb234) := ⟨h2_⟩
          have n3_ : Aside0 (Below w.heap.size w w9) := ⟨h3_⟩
          clear HB
          clear h0_ h1_ h2_ h3_
          have BK234 := n0_
          have GW234 := n1_
          have GE234 := n2_
          have HB := n3_
          clear n0_ n1_ n2_ n3_
          have hHeld : w9.cell? (ad230.add ((x4_1).toNat * 2)) = some (.int .i64 ((rd_T31 l0 x4_1).f0)) ∧ w9.cell? ⟨(ad230.add ((x4_1).toNat * 2)).block, (ad230.add ((x4_1).toNat * 2)).off + 1, none⟩ = some (.int .i64 ((rd_T31 l0 x4_1).f1)) ∧ w9.cell? (ad230.add ((t231).toNat * 2)) = some (.int .i64 ((rd_T31 l0 t231).f0)) ∧ w9.cell? ⟨(ad230.add ((t231).toNat * 2)).block, (ad230.add ((t231).toNat * 2)).off + 1, none⟩ = some (.int .i64 ((rd_T31 l0 t231).f1)) := hS_
          refine norm_ (a' := ?_) ?_ ?_
          rotate_left
          ·simp only [putAll, Act.put, sA, sB, sC]
           rfl
          refine two_ (i := 8) (j := 11) (Ni := some 21) (Nj := some 5) (Br [9,3,1,2]) (Br [8,3,2,2]) rfl rfl rfl rfl (two_of HT_.out (by kernel_rfl)) (by decide) (by decide) (fun K hK => ?_) (fun K hK => ?_)
          ·skip
           refine goes_ Try.func54 (by kernel_rfl) rfl #[.int .i64 x4_1, .int .i64 (l0.length : Int)] (by rfl) rfl rfl (by (try simp only [List.map_toArray, List.map_cons, List.map_nil]); first | done | rfl | (simp only [List.length_drop, List.length_take]; rfl)) ?_
           with_reducible refine (R1_next.calls x4_1 (l0.length : Int) t231 _ A4.out).mono ?_
           rintro e w' ⟨rfl, ⟨nd, rfl⟩⟩
           refine ⟨_, rfl, ?_⟩
           refine hK.out _ _ ⟨(cB HB.out hw230_0), (cB HB.out hw230_1), (cB HB.out hw232_0), (cB HB.out hw232_1)⟩ (fun hHeld => ?_)
           clear hK K
           refine nm 21 ?_
           refine pu 9 22 (Br [10,2,1,2]) HT_ ?_
           refine ta 10 23 (Br [11,1,1,2]) HT_ HW_ hHeld ?_
           exact norm_ (by first | (simp only [putAll, Act.put, sA, sB, sC]; done) | (simp only [putAll, Act.put, sA, sB, sC]; rfl)) (hJ8_12 (gb234) _ ⟨hHeld, (kX BK234.out), GW234.out, GE234.out, lB⟩)
          ·skip
           refine box_step ?hg (N := 5) ?hd (cs := #[.int .i64 0, .int .i64 0]) (t := 31) ?hr ?_; (case hd => rfl); (case hg => rfl); (case hr => first | (go_simp; done) | (go_simp; rfl))
           intro gb233 hg w10 hbox hb
           have n0_ := Aside0.mk (blk_below (g := gb234) (o := .cells #[.int .i64 0, .int .i64 0] 31 (0, 0)) (kX BK234.out) hb)
           have n1_ := Aside0.mk (below_step lB hb)
           have n2_ := Aside0.mk (hbox)
           have n3_ := Aside0.mk (lG (w := w) hg)
           have n4_ := Aside0.mk (lG (w := w) hg)
           have n5_ := Aside0.mk ((by rw [hg]; exact Nat.ne_of_lt (blk_lt (g := gb234) (o := .cells #[.int .i64 0, .int .i64 0] 31 (0, 0)) (kX BK234.out)) : gb234 ≠ gb233))
           have n6_ := Aside0.mk ((by rw [hg]; exact Nat.ne_of_gt (blk_lt (g := gb234) (o := .cells #[.int .i64 0, .int .i64 0] 31 (0, 0)) (kX BK234.out)) : gb233 ≠ gb234))
           clear BK234
           clear HB
           have BK234 := n0_
           have HB := n1_
           have BK233 := n2_
           have GW233 := n3_
           have GE233 := n4_
           have NB234_233 := n5_
           have NB233_234 := n6_
           clear n0_ n1_ n2_ n3_ n4_ n5_ n6_
           clear hb hbox hg
           refine hK.out _ _ ⟨(cB HB.out hw230_0), (cB HB.out hw230_1), (cB HB.out hw232_0), (cB HB.out hw232_1)⟩ (fun hHeld => ?_)
           clear hK K
           refine nm 5 ?_
           exact norm_ (by first | (simp only [putAll, Act.put, sA, sB, sC]; done) | (simp only [putAll, Act.put, sA, sB, sC]; rfl)) (hJ11_12 (gb233, gb234) _ ⟨hHeld, (kX BK233.out), (kX BK234.out), GW233.out, GE233.out, NB234_233.out, NB233_234.out, GW234.out, GE234.out, lB⟩)
        ·skip
         rintro gb233 w9 ⟨hS_, h0_, h1_, h2_, h3_⟩
         have n0_ : Aside0 (w9.heap[gb233]? = some (.cells #[.int .i64 0, .int .i64 0] 31 (0, 0))) := ⟨h0_⟩
         have n1_ : Aside0 (w.heap.size ≤ gb233) := ⟨h1_⟩
         have n2_ : Aside0 (w.heap.size ≤ gb233) := ⟨h2_⟩
         have n3_ : Aside0 (Below w.heap.size w w9) := ⟨h3_⟩
         clear HB
         clear h0_ h1_ h2_ h3_
         have BK233 := n0_
         have GW233 := n1_
         have GE233 := n2_
         have HB := n3_
         clear n0_ n1_ n2_ n3_
         have hHeld : w9.cell? (ad230.add ((x4_1).toNat * 2)) = some (.int .i64 ((rd_T31 l0 x4_1).f0)) ∧ w9.cell? ⟨(ad230.add ((x4_1).toNat * 2)).block, (ad230.add ((x4_1).toNat * 2)).off + 1, none⟩ = some (.int .i64 ((rd_T31 l0 x4_1).f1)) ∧ w9.cell? (ad230.add ((t231).toNat * 2)) = some (.int .i64 ((rd_T31 l0 t231).f0)) ∧ w9.cell? ⟨(ad230.add ((t231).toNat * 2)).block, (ad230.add ((t231).toNat * 2)).off + 1, none⟩ = some (.int .i64 ((rd_T31 l0 t231).f1)) := hS_
         refine norm_ (a' := ?_) ?_ ?_
         rotate_left
         ·simp only [putAll, Act.put, sA, sB, sC]
          rfl
         refine two_ (i := 8) (j := 12) (Ni := some 21) (Nj := some 6) (Br [9,2,1,3]) (Br [8,3,2,2]) rfl rfl rfl rfl (two_of HT_.out (by kernel_rfl)) (by decide) (by decide) (fun K hK => ?_) (fun K hK => ?_)
         ·skip
          refine goes_ Try.func54 (by kernel_rfl) rfl #[.int .i64 x4_1, .int .i64 (l0.length : Int)] (by rfl) rfl rfl (by (try simp only [List.map_toArray, List.map_cons, List.map_nil]); first | done | rfl | (simp only [List.length_drop, List.length_take]; rfl)) ?_
          with_reducible refine (R1_next.calls x4_1 (l0.length : Int) t231 _ A4.out).mono ?_
          rintro e w' ⟨rfl, ⟨nd, rfl⟩⟩
          refine ⟨_, rfl, ?_⟩
          refine hK.out _ _ ⟨(cB HB.out hw230_0), (cB HB.out hw230_1), (cB HB.out hw232_0), (cB HB.out hw232_1)⟩ (fun hHeld => ?_)
          clear hK K
          refine nm 21 ?_
          refine pu 9 22 (Br [10,1,1,3]) HT_ ?_
          refine ta 10 23 (Bs 12 15) HT_ HW_ hHeld ?_
          exact norm_ (by first | (simp only [putAll, Act.put, sA, sB, sC]; done) | (simp only [putAll, Act.put, sA, sB, sC]; rfl)) (hJ8_11 (gb233) _ ⟨hHeld, (kX BK233.out), GW233.out, GE233.out, lB⟩)
         ·skip
          refine box_step ?hg (N := 6) ?hd (cs := #[.int .i64 0, .int .i64 0]) (t := 31) ?hr ?_; (case hd => rfl); (case hg => rfl); (case hr => first | (go_simp; done) | (go_simp; rfl))
          intro gb234 hg w10 hbox hb
          have n0_ := Aside0.mk (blk_below (g := gb233) (o := .cells #[.int .i64 0, .int .i64 0] 31 (0, 0)) (kX BK233.out) hb)
          have n1_ := Aside0.mk (below_step lB hb)
          have n2_ := Aside0.mk (hbox)
          have n3_ := Aside0.mk (lG (w := w) hg)
          have n4_ := Aside0.mk (lG (w := w) hg)
          have n5_ := Aside0.mk ((by rw [hg]; exact Nat.ne_of_lt (blk_lt (g := gb233) (o := .cells #[.int .i64 0, .int .i64 0] 31 (0, 0)) (kX BK233.out)) : gb233 ≠ gb234))
          have n6_ := Aside0.mk ((by rw [hg]; exact Nat.ne_of_gt (blk_lt (g := gb233) (o := .cells #[.int .i64 0, .int .i64 0] 31 (0, 0)) (kX BK233.out)) : gb234 ≠ gb233))
          clear BK233
          clear HB
          have BK233 := n0_
          have HB := n1_
          have BK234 := n2_
          have GW234 := n3_
          have GE234 := n4_
          have NB233_234 := n5_
          have NB234_233 := n6_
          clear n0_ n1_ n2_ n3_ n4_ n5_ n6_
          clear hb hbox hg
          refine hK.out _ _ ⟨(cB HB.out hw230_0), (cB HB.out hw230_1), (cB HB.out hw232_0), (cB HB.out hw232_1)⟩ (fun hHeld => ?_)
          clear hK K
          refine nm 6 ?_
          exact norm_ (by first | (simp only [putAll, Act.put, sA, sB, sC]; done) | (simp only [putAll, Act.put, sA, sB, sC]; rfl)) (hJ11_12 (gb233, gb234) _ ⟨hHeld, (kX BK233.out), (kX BK234.out), GW233.out, GE233.out, NB234_233.out, NB233_234.out, GW234.out, GE234.out, lB⟩)
       ·skip
        rintro _ w8 ⟨hS_, h0_⟩
        have n0_ : Aside0 (Below w.heap.size w w8) := ⟨h0_⟩
        clear HB
        clear h0_
        have HB := n0_
        clear n0_
        have hHeld : w8.cell? (ad230.add ((x4_1).toNat * 2)) = some (.int .i64 ((rd_T31 l0 x4_1).f0)) ∧ w8.cell? ⟨(ad230.add ((x4_1).toNat * 2)).block, (ad230.add ((x4_1).toNat * 2)).off + 1, none⟩ = some (.int .i64 ((rd_T31 l0 x4_1).f1)) ∧ w8.cell? (ad230.add ((t231).toNat * 2)) = some (.int .i64 ((rd_T31 l0 t231).f0)) ∧ w8.cell? ⟨(ad230.add ((t231).toNat * 2)).block, (ad230.add ((t231).toNat * 2)).off + 1, none⟩ = some (.int .i64 ((rd_T31 l0 t231).f1)) := hS_
        refine norm_ (a' := ?_) ?_ ?_
        rotate_left
        ·simp only [putAll, Act.put, sA, sB, sC]
         rfl
        refine two_ (i := 11) (j := 12) (Ni := some 5) (Nj := some 6) (Bs 12 15) (Br [11,1,1,2]) rfl rfl rfl rfl (two_of HT_.out (by kernel_rfl)) (by decide) (by decide) (fun K hK => ?_) (fun K hK => ?_)
        ·skip
         refine box_step ?hg (N := 5) ?hd (cs := #[.int .i64 0, .int .i64 0]) (t := 31) ?hr ?_; (case hd => rfl); (case hg => rfl); (case hr => first | (go_simp; done) | (go_simp; rfl))
         intro gb233 hg w9 hbox hb
         have n0_ := Aside0.mk (below_step lB hb)
         have n1_ := Aside0.mk (hbox)
         have n2_ := Aside0.mk (lG (w := w) hg)
         have n3_ := Aside0.mk (lG (w := w) hg)
         clear HB
         have HB := n0_
         have BK233 := n1_
         have GW233 := n2_
         have GE233 := n3_
         clear n0_ n1_ n2_ n3_
         clear hb hbox hg
         refine hK.out _ _ ⟨(cB HB.out hw230_0), (cB HB.out hw230_1), (cB HB.out hw232_0), (cB HB.out hw232_1)⟩ (fun hHeld => ?_)
         clear hK K
         refine nm 5 ?_
         exact norm_ (by first | (simp only [putAll, Act.put, sA, sB, sC]; done) | (simp only [putAll, Act.put, sA, sB, sC]; rfl)) (hJ8_11 (gb233) _ ⟨hHeld, (kX BK233.out), GW233.out, GE233.out, lB⟩)
        ·skip
         refine box_step ?hg (N := 6) ?hd (cs := #[.int .i64 0, .int .i64 0]) (t := 31) ?hr ?_; (case hd => rfl); (case hg => rfl); (case hr => first | (go_simp; done) | (go_simp; rfl))
         intro gb234 hg w9 hbox hb
         have n0_ := Aside0.mk (below_step lB hb)
         have n1_ := Aside0.mk (hbox)
         have n2_ := Aside0.mk (lG (w := w) hg)
         have n3_ := Aside0.mk (lG (w := w) hg)
         clear HB
         have HB := n0_
         have BK234 := n1_
         have GW234 := n2_
         have GE234 := n3_
         clear n0_ n1_ n2_ n3_
         clear hb hbox hg
         refine hK.out _ _ ⟨(cB HB.out hw230_0), (cB HB.out hw230_1), (cB HB.out hw232_0), (cB HB.out hw232_1)⟩ (fun hHeld => ?_)
         clear hK K
         refine nm 6 ?_
         exact norm_ (by first | (simp only [putAll, Act.put, sA, sB, sC]; done) | (simp only [putAll, Act.put, sA, sB, sC]; rfl)) (hJ8_12 (gb234) _ ⟨hHeld, (kX BK234.out), GW234.out, GE234.out, lB⟩)
      ·skip
       rintro ⟨gb233, gb234⟩ w10 ⟨hS_, h0_, h1_, h2_, h3_, h4_, h5_, h6_, h7_, h8_⟩
       have n0_ : Aside0 (w10.heap[gb233]? = some (.cells #[.int .i64 0, .int .i64 0] 31 (0, 0))) := ⟨h0_⟩
       have n1_ : Aside0 (w10.heap[gb234]? = some (.cells #[.int .i64 0, .int .i64 0] 31 (0, 0))) := ⟨h1_⟩
       have n2_ : Aside0 (w.heap.size ≤ gb233) := ⟨h2_⟩
       have n3_ : Aside0 (w.heap.size ≤ gb233) := ⟨h3_⟩
       have n4_ : Aside0 (gb234 ≠ gb233) := ⟨h4_⟩
       have n5_ : Aside0 (gb233 ≠ gb234) := ⟨h5_⟩
       have n6_ : Aside0 (w.heap.size ≤ gb234) := ⟨h6_⟩
       have n7_ : Aside0 (w.heap.size ≤ gb234) := ⟨h7_⟩
       have n8_ : Aside0 (Below w.heap.size w w10) := ⟨h8_⟩
       clear HB
       clear h0_ h1_ h2_ h3_ h4_ h5_ h6_ h7_ h8_
       have BK233 := n0_
       have BK234 := n1_
       have GW233 := n2_
       have GE233 := n3_
       have NB234_233 := n4_
       have NB233_234 := n5_
       have GW234 := n6_
       have GE234 := n7_
       have HB := n8_
       clear n0_ n1_ n2_ n3_ n4_ n5_ n6_ n7_ n8_
       have hHeld : w10.cell? (ad230.add ((x4_1).toNat * 2)) = some (.int .i64 ((rd_T31 l0 x4_1).f0)) ∧ w10.cell? ⟨(ad230.add ((x4_1).toNat * 2)).block, (ad230.add ((x4_1).toNat * 2)).off + 1, none⟩ = some (.int .i64 ((rd_T31 l0 x4_1).f1)) ∧ w10.cell? (ad230.add ((t231).toNat * 2)) = some (.int .i64 ((rd_T31 l0 t231).f0)) ∧ w10.cell? ⟨(ad230.add ((t231).toNat * 2)).block, (ad230.add ((t231).toNat * 2)).off + 1, none⟩ = some (.int .i64 ((rd_T31 l0 t231).f1)) := hS_
       refine norm_ (a' := ?_) ?_ ?_
       rotate_left
       ·simp only [putAll, Act.put, sA, sB, sC]
        rfl
       refine one_ (i := 8) (N := some 21) (Br [9,2,2,2]) rfl rfl (one_of HT_.out (by kernel_rfl)) (by decide) (fun K hK => ?_)
       refine goes_ Try.func54 (by kernel_rfl) rfl #[.int .i64 x4_1, .int .i64 (l0.length : Int)] (by rfl) rfl rfl (by (try simp only [List.map_toArray, List.map_cons, List.map_nil]); first | done | rfl | (simp only [List.length_drop, List.length_take]; rfl)) ?_
       with_reducible refine (R1_next.calls x4_1 (l0.length : Int) t231 _ A4.out).mono ?_
       rintro e w' ⟨rfl, ⟨nd, rfl⟩⟩
       refine ⟨_, rfl, ?_⟩
       refine hK.out _ _ ⟨(cB HB.out hw230_0), (cB HB.out hw230_1), (cB HB.out hw232_0), (cB HB.out hw232_1)⟩ (fun hHeld => ?_)
       clear hK K
       refine nm 21 ?_
       refine pu 9 22 (Br [10,1,2,2]) HT_ ?_
       refine ta 10 23 (Bs 13 15) HT_ HW_ hHeld ?_
       exact norm_ (by first | (simp only [putAll, Act.put, sA, sB, sC]; done) | (simp only [putAll, Act.put, sA, sB, sC]; rfl)) (hJ8_11_12 (gb233, gb234) _ ⟨hHeld, (kX BK233.out), (kX BK234.out), GW233.out, GE233.out, NB234_233.out, NB233_234.out, GW234.out, GE234.out, lB⟩)
     ·skip
      rintro gb234 w9 ⟨hS_, h0_, h1_, h2_, h3_⟩
      have n0_ : Aside0 (w9.heap[gb234]? = some (.cells #[.int .i64 0, .int .i64 0] 31 (0, 0))) := ⟨h0_⟩
      have n1_ : Aside0 (w.heap.size ≤ gb234) := ⟨h1_⟩
      have n2_ : Aside0 (w.heap.size ≤ gb234) := ⟨h2_⟩
      have n3_ : Aside0 (Below w.heap.size w w9) := ⟨h3_⟩
      clear HB
      clear h0_ h1_ h2_ h3_
      have BK234 := n0_
      have GW234 := n1_
      have GE234 := n2_
      have HB := n3_
      clear n0_ n1_ n2_ n3_
      have hHeld : w9.cell? (ad230.add ((x4_1).toNat * 2)) = some (.int .i64 ((rd_T31 l0 x4_1).f0)) ∧ w9.cell? ⟨(ad230.add ((x4_1).toNat * 2)).block, (ad230.add ((x4_1).toNat * 2)).off + 1, none⟩ = some (.int .i64 ((rd_T31 l0 x4_1).f1)) ∧ w9.cell? (ad230.add ((t231).toNat * 2)) = some (.int .i64 ((rd_T31 l0 t231).f0)) ∧ w9.cell? ⟨(ad230.add ((t231).toNat * 2)).block, (ad230.add ((t231).toNat * 2)).off + 1, none⟩ = some (.int .i64 ((rd_T31 l0 t231).f1)) := hS_
      refine norm_ (a' := ?_) ?_ ?_
      rotate_left
      ·simp only [putAll, Act.put, sA, sB, sC]
       rfl
      refine one_ (i := 11) (N := some 5) (Bs 13 15) rfl rfl (one_of HT_.out (by kernel_rfl)) (by decide) (fun K hK => ?_)
      refine box_step ?hg (N := 5) ?hd (cs := #[.int .i64 0, .int .i64 0]) (t := 31) ?hr ?_; (case hd => rfl); (case hg => rfl); (case hr => first | (go_simp; done) | (go_simp; rfl))
      intro gb233 hg w10 hbox hb
      have n0_ := Aside0.mk (blk_below (g := gb234) (o := .cells #[.int .i64 0, .int .i64 0] 31 (0, 0)) (kX BK234.out) hb)
      have n1_ := Aside0.mk (below_step lB hb)
      have n2_ := Aside0.mk (hbox)
      have n3_ := Aside0.mk (lG (w := w) hg)
      have n4_ := Aside0.mk (lG (w := w) hg)
      have n5_ := Aside0.mk ((by rw [hg]; exact Nat.ne_of_lt (blk_lt (g := gb234) (o := .cells #[.int .i64 0, .int .i64 0] 31 (0, 0)) (kX BK234.out)) : gb234 ≠ gb233))
      have n6_ := Aside0.mk ((by rw [hg]; exact Nat.ne_of_gt (blk_lt (g := gb234) (o := .cells #[.int .i64 0, .int .i64 0] 31 (0, 0)) (kX BK234.out)) : gb233 ≠ gb234))
      clear BK234
      clear HB
      have BK234 := n0_
      have HB := n1_
      have BK233 := n2_
      have GW233 := n3_
      have GE233 := n4_
      have NB234_233 := n5_
      have NB233_234 := n6_
      clear n0_ n1_ n2_ n3_ n4_ n5_ n6_
      clear hb hbox hg
      refine hK.out _ _ ⟨(cB HB.out hw230_0), (cB HB.out hw230_1), (cB HB.out hw232_0), (cB HB.out hw232_1)⟩ (fun hHeld => ?_)
      clear hK K
      refine nm 5 ?_
      exact norm_ (by first | (simp only [putAll, Act.put, sA, sB, sC]; done) | (simp only [putAll, Act.put, sA, sB, sC]; rfl)) (hJ8_11_12 (gb233, gb234) _ ⟨hHeld, (kX BK233.out), (kX BK234.out), GW233.out, GE233.out, NB234_233.out, NB233_234.out, GW234.out, GE234.out, lB⟩)
    ·skip
     rintro gb233 w9 ⟨hS_, h0_, h1_, h2_, h3_⟩
     have n0_ : Aside0 (w9.heap[gb233]? = some (.cells #[.int .i64 0, .int .i64 0] 31 (0, 0))) := ⟨h0_⟩
     have n1_ : Aside0 (w.heap.size ≤ gb233) := ⟨h1_⟩
     have n2_ : Aside0 (w.heap.size ≤ gb233) := ⟨h2_⟩
     have n3_ : Aside0 (Below w.heap.size w w9) := ⟨h3_⟩
     clear HB
     clear h0_ h1_ h2_ h3_
     have BK233 := n0_
     have GW233 := n1_
     have GE233 := n2_
     have HB := n3_
     clear n0_ n1_ n2_ n3_
     have hHeld : w9.cell? (ad230.add ((x4_1).toNat * 2)) = some (.int .i64 ((rd_T31 l0 x4_1).f0)) ∧ w9.cell? ⟨(ad230.add ((x4_1).toNat * 2)).block, (ad230.add ((x4_1).toNat * 2)).off + 1, none⟩ = some (.int .i64 ((rd_T31 l0 x4_1).f1)) ∧ w9.cell? (ad230.add ((t231).toNat * 2)) = some (.int .i64 ((rd_T31 l0 t231).f0)) ∧ w9.cell? ⟨(ad230.add ((t231).toNat * 2)).block, (ad230.add ((t231).toNat * 2)).off + 1, none⟩ = some (.int .i64 ((rd_T31 l0 t231).f1)) := hS_
     refine norm_ (a' := ?_) ?_ ?_
     rotate_left
     ·simp only [putAll, Act.put, sA, sB, sC]
      rfl
     refine one_ (i := 12) (N := some 6) (Bs 13 15) rfl rfl (one_of HT_.out (by kernel_rfl)) (by decide) (fun K hK => ?_)
     refine box_step ?hg (N := 6) ?hd (cs := #[.int .i64 0, .int .i64 0]) (t := 31) ?hr ?_; (case hd => rfl); (case hg => rfl); (case hr => first | (go_simp; done) | (go_simp; rfl))
     intro gb234 hg w10 hbox hb
     have n0_ := Aside0.mk (blk_below (g := gb233) (o := .cells #[.int .i64 0, .int .i64 0] 31 (0, 0)) (kX BK233.out) hb)
     have n1_ := Aside0.mk (below_step lB hb)
     have n2_ := Aside0.mk (hbox)
     have n3_ := Aside0.mk (lG (w := w) hg)
     have n4_ := Aside0.mk (lG (w := w) hg)
     have n5_ := Aside0.mk ((by rw [hg]; exact Nat.ne_of_lt (blk_lt (g := gb233) (o := .cells #[.int .i64 0, .int .i64 0] 31 (0, 0)) (kX BK233.out)) : gb233 ≠ gb234))
     have n6_ := Aside0.mk ((by rw [hg]; exact Nat.ne_of_gt (blk_lt (g := gb233) (o := .cells #[.int .i64 0, .int .i64 0] 31 (0, 0)) (kX BK233.out)) : gb234 ≠ gb233))
     clear BK233
     clear HB
     have BK233 := n0_
     have HB := n1_
     have BK234 := n2_
     have GW234 := n3_
     have GE234 := n4_
     have NB233_234 := n5_
     have NB234_233 := n6_
     clear n0_ n1_ n2_ n3_ n4_ n5_ n6_
     clear hb hbox hg
     refine hK.out _ _ ⟨(cB HB.out hw230_0), (cB HB.out hw230_1), (cB HB.out hw232_0), (cB HB.out hw232_1)⟩ (fun hHeld => ?_)
     clear hK K
     refine nm 6 ?_
     exact norm_ (by first | (simp only [putAll, Act.put, sA, sB, sC]; done) | (simp only [putAll, Act.put, sA, sB, sC]; rfl)) (hJ8_11_12 (gb233, gb234) _ ⟨hHeld, (kX BK233.out), (kX BK234.out), GW233.out, GE233.out, NB234_233.out, NB233_234.out, GW234.out, GE234.out, lB⟩)
   rintro ⟨gb233, gb234⟩ w10 ⟨hS_, h0_, h1_, h2_, h3_, h4_, h5_, h6_, h7_, h8_⟩
   have n0_ : Aside0 (w10.heap[gb233]? = some (.cells #[.int .i64 0, .int .i64 0] 31 (0, 0))) := ⟨h0_⟩
   have n1_ : Aside0 (w10.heap[gb234]? = some (.cells #[.int .i64 0, .int .i64 0] 31 (0, 0))) := ⟨h1_⟩
   have n2_ : Aside0 (w.heap.size ≤ gb233) := ⟨h2_⟩
   have n3_ : Aside0 (w.heap.size ≤ gb233) := ⟨h3_⟩
   have n4_ : Aside0 (gb234 ≠ gb233) := ⟨h4_⟩
   have n5_ : Aside0 (gb233 ≠ gb234) := ⟨h5_⟩
   have n6_ : Aside0 (w.heap.size ≤ gb234) := ⟨h6_⟩
   have n7_ : Aside0 (w.heap.size ≤ gb234) := ⟨h7_⟩
   have n8_ : Aside0 (Below w.heap.size w w10) := ⟨h8_⟩
   clear HB
   clear h0_ h1_ h2_ h3_ h4_ h5_ h6_ h7_ h8_
   have BK233 := n0_
   have BK234 := n1_
   have GW233 := n2_
   have GE233 := n3_
   have NB234_233 := n4_
   have NB233_234 := n5_
   have GW234 := n6_
   have GE234 := n7_
   have HB := n8_
   clear n0_ n1_ n2_ n3_ n4_ n5_ n6_ n7_ n8_
   have hHeld : w10.cell? (ad230.add ((x4_1).toNat * 2)) = some (.int .i64 ((rd_T31 l0 x4_1).f0)) ∧ w10.cell? ⟨(ad230.add ((x4_1).toNat * 2)).block, (ad230.add ((x4_1).toNat * 2)).off + 1, none⟩ = some (.int .i64 ((rd_T31 l0 x4_1).f1)) ∧ w10.cell? (ad230.add ((t231).toNat * 2)) = some (.int .i64 ((rd_T31 l0 t231).f0)) ∧ w10.cell? ⟨(ad230.add ((t231).toNat * 2)).block, (ad230.add ((t231).toNat * 2)).off + 1, none⟩ = some (.int .i64 ((rd_T31 l0 t231).f1)) := hS_
   refine norm_ (a' := ?_) ?_ ?_
   rotate_left
   ·simp only [putAll, Act.put, sA, sB, sC]
    rfl
   refine one_ (i := 13) (N := none) (Bs 14 15) rfl rfl (one_of HT_.out (by kernel_rfl)) (by decide) (fun K hK => ?_)
   have hs11 : w10.cell? ⟨gb233, 0, none⟩ = some (.int .i64 0) := (blk_cell BK233.out 0).trans rfl
   have hfs11 := blk_frozen BK233.out 0
   have hns11_1 := NB234_233.out
   have hms11_1 := NB233_234.out
   have hs12 : w10.cell? ⟨gb233, 1, none⟩ = some (.int .i64 0) := (blk_cell BK233.out 1).trans rfl
   have hfs12 := blk_frozen BK233.out 1
   have hns12_1 := NB234_233.out
   have hms12_1 := NB233_234.out
   refine skip_ (w1 := ?_) (by rfl) rfl ?_ ?_
   rotate_left
   ·go_simp
    rfl
   refine hK.out _ _ ⟨(cF2PSilversideref01Area hw230_0 GW233.out hHeld.1), (cF2PSilversideref01Area hw230_1 GW233.out hHeld.2.1), (cF2PSilversideref01Area hw232_0 GW233.out hHeld.2.2.1), (cF2PSilversideref01Area hw232_1 GW233.out hHeld.2.2.2)⟩ (fun hHeld => ?_)
   clear hK K
   refine one_ (i := 14) (N := none) (Bs 15 15) rfl rfl (one_of HT_.out (by kernel_rfl)) (by decide) (fun K hK => ?_)
   have hs13 : w10.cell? ⟨gb234, 0, none⟩ = some (.int .i64 0) := (blk_cell BK234.out 0).trans rfl
   have hfs13 := blk_frozen BK234.out 0
   have hns13_0 := NB233_234.out
   have hms13_0 := NB234_233.out
   have hs14 : w10.cell? ⟨gb234, 1, none⟩ = some (.int .i64 0) := (blk_cell BK234.out 1).trans rfl
   have hfs14 := blk_frozen BK234.out 1
   have hns14_0 := NB233_234.out
   have hms14_0 := NB234_233.out
   refine skip_ (w1 := ?_) (by rfl) rfl ?_ ?_
   rotate_left
   ·go_simp
    rfl
   refine hK.out _ _ ⟨(cF2PSilversideref01Area hw230_0 GW234.out hHeld.1), (cF2PSilversideref01Area hw230_1 GW234.out hHeld.2.1), (cF2PSilversideref01Area hw232_0 GW234.out hHeld.2.2.1), (cF2PSilversideref01Area hw232_1 GW234.out hHeld.2.2.2)⟩ (fun hHeld => ?_)
   clear hK K
   refine done_ (done_of HT_.out (by kernel_rfl)) ?_
   have hnb15 := NB233_234.out
   have hnc15 := NB234_233.out
   have hcz16_0 : w10.cell? ⟨gb233, 0, none⟩ = some (.int .i64 0) := (blk_cell BK233.out 0).trans rfl
   have hcz16_1 : w10.cell? ⟨gb233, 1, none⟩ = some (.int .i64 0) := (blk_cell BK233.out 1).trans rfl
   have hfz16_0 := blk_frozen BK233.out 0
   have hfz16_1 := blk_frozen BK233.out 1
   have hcz17_0 : w10.cell? ⟨gb234, 0, none⟩ = some (.int .i64 0) := (blk_cell BK234.out 0).trans rfl
   have hcz17_1 : w10.cell? ⟨gb234, 1, none⟩ = some (.int .i64 0) := (blk_cell BK234.out 1).trans rfl
   have hfz17_0 := blk_frozen BK234.out 0
   have hfz17_1 := blk_frozen BK234.out 1
   try go_wp2
   go_roundg k1
   case measure => have := HK1.out; omega
   case rel => exact ⟨(wrap64 ((wrap64 (x3_1 + (wrap64 (((rd_T31 l0 x4_1).f0) * ((rd_T31 l0 t231).f1))))) - (wrap64 (((rd_T31 l0 t231).f0) * ((rd_T31 l0 x4_1).f1))))), (wrap64 (x4_1 + 1)), (by first | rfl | (simp; done) | (simp [*]; done)), (by first | rfl | (simp; done) | (simp [*]; done)), H', ⟨by have := HK1.out; omega⟩, ⟨by repeat (first | (with_reducible first | exact HB.out | apply lA | apply lN | apply lD | refine lS ?_ GE233.out | refine lS ?_ GE234.out) | exact HB.out)⟩⟩

end Go.Proofs.Ythaklbjcjoolcaa.P
namespace Go.Proofs.Ythaklbjcjoolcaa.P
open Go.RowKit YthaklbjcjoolcaaW.PrintWords YthaklbjcjoolcaaW.PrintLast YthaklbjcjoolcaaW.PrintMore
theorem refnext_is (i n : Nat) (h : i < n) (hn : n ≤ 4096) : R1_next.f (i : Int) (n : Int) = some ((((i + 1) % n : Nat)) : Int) := by
 unfold R1_next.f
 rw [w64i (by omega) (by omega)]
 by_cases h1 : i + 1 < n
 ·rw [if_pos (by omega), Nat.mod_eq_of_lt h1]; rfl
 ·have : i + 1 = n := by omega
  rw [if_neg (by omega), this, Nat.mod_self]; rfl
theorem ref_row (l : List S31) (ho : allOk l = true) (hn : l.length ≤ 4096) (i : Nat) (hi : i < l.length) (v : Bool) (hv : Ev (fun k => R1_Simple.l1 k l (l.length : Int) ((i + 1 : Nat) : Int)) v) :
  ∀ m j, l.length - j = m → j ≤ l.length + 1 → Ev (fun k => R1_Simple.l2 k l (l.length : Int) (i : Int) ((nx l i : Nat) : Int) (j : Int)) (rowB l i m j && v)
 | 0, j, hm, hj => by
  refine Ev.step (f := fun k => R1_Simple.l1 k l (l.length : Int) ((i + 1 : Nat) : Int)) (fun k => ?_) hv
  rw [R1_Simple.l2, if_neg (by omega), w64i (x := (i : Int) + 1) (by omega) (by omega)]
  rfl
 | m + 1, j, hm, hj => by
  have hjl : j < l.length := by omega
  have hnj := nx_lt l j (by omega)
  have hni := nx_lt l i (by omega)
  have ih := ref_row l ho hn i hi v hv m (j + 1) (by omega) (by omega)
  have ej : wrap64 ((j : Int) + 1) = ((j + 1 : Nat) : Int) := w64i (x := (j : Int) + 1) (by omega) (by omega)
  unfold rowB
  by_cases hx : nx l j = i
  ·refine Ev.step (f := fun k => R1_Simple.l2 k l (l.length : Int) (i : Int) ((nx l i : Nat) : Int) ((j + 1 : Nat) : Int)) (fun k => ?_) (by rw [decide_eq_true hx, Bool.true_or, Bool.true_and]; exact ih)
   rw [R1_Simple.l2, if_pos (by omega), nx_next l j hjl hn, Option.bind_some, if_pos (by omega), ej]
  ·rw [decide_eq_false hx, Bool.false_or]
   refine Ev.step (f := fun k => (R1_meet.f k (pt l i).f0 (pt l i).f1 (pt l (nx l i)).f0 (pt l (nx l i)).f1 (pt l j).f0 (pt l j).f1 (pt l (nx l j)).f0 (pt l (nx l j)).f1).bind fun t => if t = true then some false else R1_Simple.l2 k l (l.length : Int) (i : Int) ((nx l i : Nat) : Int) ((j + 1 : Nat) : Int)) (fun k => ?_) ?_
   ·rw [R1_Simple.l2, if_pos (by omega), nx_next l j hjl hn, Option.bind_some, if_neg (by omega), if_pos (by omega), if_pos (by omega), if_pos (by omega), if_pos (by omega), if_pos (by omega), if_pos (by omega), Option.bind_some, if_pos (by omega), if_pos (by omega), ej]
    simp only [rd_pt]
   ·refine Ev.bind (Ev.step (f := fun _ => some (meetB (pt l i) (pt l (nx l i)) (pt l j) (pt l (nx l j)))) (fun k => refmeet_is (pt_ok ho hi) (pt_ok ho hni) (pt_ok ho hjl) (pt_ok ho hnj) k) (Ev.now _)) ?_
    cases meetB (pt l i) (pt l (nx l i)) (pt l j) (pt l (nx l j))
    ·exact ev_neg (by decide) (by simpa using ih)
    ·exact ev_pos rfl (Ev.now _)
theorem crs_cyc (a b c : S31) : crs b c a = crs a b c := by
 unfold crs
 rw [← Int.sub_eq_zero]
 simp only [Int.sub_mul, Int.mul_sub]
 rw [Int.mul_comm c.f0 a.f1, Int.mul_comm c.f0 b.f1, Int.mul_comm b.f0 a.f1, Int.mul_comm b.f0 b.f1, Int.mul_comm c.f1 a.f0, Int.mul_comm c.f1 b.f0, Int.mul_comm b.f1 a.f0, Int.mul_comm a.f0 c.f1, Int.mul_comm a.f0 a.f1, Int.mul_comm b.f0 c.f1]
 omega
theorem ref_tou (l : List S31) (ho : allOk l = true) (hn : l.length ≤ 4096) : ∀ m i, l.length - i = m → i ≤ l.length → Ev (fun k => R1_Simple.l1 k l (l.length : Int) (i : Int)) (touB l m i)
 | 0, i, hm, hi => by
  refine Ev.step (f := fun _ => some true) (fun k => ?_) (Ev.now _)
  rw [R1_Simple.l1, if_neg (by omega)]
 | m + 1, i, hm, hi => by
  have hil : i < l.length := by omega
  have hni := nx_lt l i (by omega)
  have hnn := nx_lt l (nx l i) (by omega)
  have ih := ref_tou l ho hn m (i + 1) (by omega) (by omega)
  have hr := ref_row l ho hn i hil _ ih (l.length - (i + 2)) (i + 2) rfl (by omega)
  have h1 := on_is (pt_ok ho hni) (pt_ok ho hnn) (pt_ok ho hil)
  have h2 := on_is (pt_ok ho hil) (pt_ok ho hni) (pt_ok ho hnn)
  have ht := turn_is (pt_ok ho hil) (pt_ok ho hni) (pt_ok ho hnn)
  have ej : wrap64 ((i : Int) + 2) = ((i + 2 : Nat) : Int) := w64i (x := (i : Int) + 2) (by omega) (by omega)
  have hj : ∀ b : Bool, Ev (fun k => R1_Simple.j3 k l (l.length : Int) (i : Int) ((nx l i : Nat) : Int) b) (!b && (rowB l i (l.length - (i + 2)) (i + 2) && touB l m (i + 1))) := by
   intro b
   cases b
   ·refine Ev.step (f := fun k => R1_Simple.l2 k l (l.length : Int) (i : Int) ((nx l i : Nat) : Int) ((i + 2 : Nat) : Int)) (fun k => ?_) (by simpa using hr)
    rw [R1_Simple.j3, if_neg (by decide), ej]
   ·refine Ev.step (f := fun _ => some false) (fun k => ?_) (Ev.now _)
    rw [R1_Simple.j3, if_pos rfl]
  refine Ev.step (f := fun k => if sgn (crs (pt l i) (pt l (nx l i)) (pt l (nx l (nx l i)))) = 0 then (if onB (pt l i) (pt l (nx l i)) (pt l (nx l (nx l i))) = true then R1_Simple.j3 k l (l.length : Int) (i : Int) ((nx l i : Nat) : Int) true else R1_Simple.j3 k l (l.length : Int) (i : Int) ((nx l i : Nat) : Int) (onB (pt l (nx l i)) (pt l (nx l (nx l i))) (pt l i))) else R1_Simple.j3 k l (l.length : Int) (i : Int) ((nx l i : Nat) : Int) false) (fun k => ?_) ?_
  ·rw [R1_Simple.l1, if_pos (by omega), nx_next l i hil hn, Option.bind_some, nx_next l (nx l i) hni hn, Option.bind_some, if_pos (by omega), if_pos (by omega), if_pos (by omega), if_pos (by omega), if_pos (by omega), if_pos (by omega)]
   simp only [rd_pt, refturn_same, ht, h1, h2, Option.bind_some]
  ·unfold touB xB
   by_cases h0 : crs (pt l i) (pt l (nx l i)) (pt l (nx l (nx l i))) = 0
   ·refine ev_pos (sgn_zero.2 h0) ?_
    by_cases hx : onB (pt l i) (pt l (nx l i)) (pt l (nx l (nx l i))) = true
    ·rw [hx, Bool.or_true]; exact ev_pos rfl (hj true)
    ·rw [Bool.not_eq_true] at hx
     rw [hx, Bool.or_false]
     refine ev_neg (by decide) ?_
     have h := hj (onB (pt l (nx l i)) (pt l (nx l (nx l i))) (pt l i))
     rw [← Bool.and_assoc] at h
     exact h
   ·refine ev_neg (fun h => h0 (sgn_zero.1 h)) ?_
    have e1 : onB (pt l i) (pt l (nx l i)) (pt l (nx l (nx l i))) = false := Bool.eq_false_iff.2 fun h => h0 (onB_crs h)
    have e2 : onB (pt l (nx l i)) (pt l (nx l (nx l i))) (pt l i) = false := Bool.eq_false_iff.2 fun h => h0 ((crs_cyc _ _ _).symm.trans (onB_crs h))
    rw [e1, e2]
    have h := hj false
    rw [← Bool.and_assoc] at h
    exact h
theorem ref_ne (l : List S31) (ho : allOk l = true) (hn : l.length ≤ 4096) : ∀ m i, l.length - i = m → i ≤ l.length → Ev (fun k => R1_Simple.l0 k l (l.length : Int) (i : Int)) (neB l m i && touB l l.length 0)
 | 0, i, hm, hi => by
  refine Ev.step (f := fun k => R1_Simple.l1 k l (l.length : Int) ((0 : Nat) : Int)) (fun k => ?_) (ref_tou l ho hn l.length 0 (by omega) (by omega))
  rw [R1_Simple.l0, if_neg (by omega)]
  rfl
 | m + 1, i, hm, hi => by
  have hil : i < l.length := by omega
  have hni := nx_lt l i (by omega)
  have ih := ref_ne l ho hn m (i + 1) (by omega) (by omega)
  have ej : wrap64 ((i : Int) + 1) = ((i + 1 : Nat) : Int) := w64i (x := (i : Int) + 1) (by omega) (by omega)
  refine Ev.step (f := fun k => if eqE l i = true then some false else R1_Simple.l0 k l (l.length : Int) ((i + 1 : Nat) : Int)) (fun k => ?_) ?_
  ·rw [R1_Simple.l0, if_pos (by omega), if_pos (by omega), if_pos (by omega), nx_next l i hil hn, Option.bind_some, if_pos (by omega), if_pos (by omega), ej]
   simp only [rd_pt]
   rfl
  ·unfold neB
   by_cases h : eqE l i = true
   ·rw [h]; exact ev_pos rfl (Ev.now _)
   ·rw [Bool.not_eq_true] at h
    rw [h]
    exact ev_neg (by decide) ih
theorem ref_simple (l : List S31) (hl : l.length < 9223372036854775807) : Ev (fun k => R1_Simple.f k l) (simpleS l) := by
 have hj : Ev (fun k => R1_Simple.j0 k l (l.length : Int) true) false := by
  refine Ev.step (f := fun _ => some false) (fun k => ?_) (Ev.now _)
  rw [R1_Simple.j0, if_pos rfl]
 unfold R1_Simple.f simpleS
 by_cases h3 : (l.length : Int) < 3
 ·rw [decide_eq_false (by omega), Bool.false_and]
  exact ev_pos h3 hj
 ·refine ev_neg h3 ?_
  by_cases h5 : (l.length : Int) > 512
  ·rw [decide_eq_false (by omega), Bool.false_and]
   exact ev_pos h5 hj
  ·refine ev_neg h5 (Ev.bind (valids_ev l hl) ?_)
   rw [decide_eq_true (show 3 ≤ l.length ∧ l.length ≤ 512 by omega), Bool.true_and]
   by_cases ha : allOk l = true
   ·rw [ha, Bool.true_and, simB_parts]
    refine Ev.step (f := fun k => R1_Simple.l0 k l (l.length : Int) ((0 : Nat) : Int)) (fun k => ?_) (ref_ne l ha (by omega) l.length 0 (by omega) (by omega))
    rw [R1_Simple.j0, if_neg (by decide)]
    rfl
   ·rw [Bool.not_eq_true] at ha
    rw [ha]; exact hj
end Go.Proofs.Ythaklbjcjoolcaa.P
namespace Go.Proofs.Ythaklbjcjoolcaa.Geo

abbrev Pt := Int × Int

def T (a b c : Pt) : Int := (b.1 - a.1) * (c.2 - a.2) - (b.2 - a.2) * (c.1 - a.1)
def aff (i j k : Int) (p : Pt) : Int := i * p.1 + j * p.2 + k

theorem T_cyc (a b c : Pt) : T b c a = T a b c := by unfold T; grind
theorem T_cyc2 (a b c : Pt) : T c a b = T a b c := by unfold T; grind
theorem T_swap (a b c : Pt) : T b a c = - T a b c := by unfold T; grind
theorem T_swap2 (a b c : Pt) : T a c b = - T a b c := by unfold T; grind
theorem T_swap3 (a b c : Pt) : T c b a = - T a b c := by unfold T; grind
theorem T_aba (a b : Pt) : T a b a = 0 := by unfold T; grind
theorem T_abb (a b : Pt) : T a b b = 0 := by unfold T; grind
theorem id4 (i j k : Int) (a b c d : Pt) : T b c d * aff i j k a - T a c d * aff i j k b + T a b d * aff i j k c - T a b c * aff i j k d = 0 := by unfold T aff; grind
theorem sum4 (a b c d : Pt) : T b c d - T a c d + T a b d - T a b c = 0 := by unfold T; grind
theorem id_col (i j k i' j' k' : Int) (a b p : Pt) : (aff i j k p - aff i j k a) * (aff i' j' k' b - aff i' j' k' a) - (aff i' j' k' p - aff i' j' k' a) * (aff i j k b - aff i j k a) = T a b p * (j * i' - i * j') := by unfold T aff; grind
theorem bary (x y a b c q : Pt) : T a b c * T x y q = T b c q * T x y a + T c a q * T x y b + T a b q * T x y c := by unfold T; grind

theorem mpp {x y : Int} (h : 0 < x) (k : 0 < y) : 0 < x * y := Int.mul_pos h k
theorem mpn {x y : Int} (h : 0 < x) (k : y < 0) : x * y < 0 := by
 have := Int.mul_pos h (Int.neg_pos_of_neg k); rw [Int.mul_neg] at this; omega
theorem mnp {x y : Int} (h : x < 0) (k : 0 < y) : x * y < 0 := by rw [Int.mul_comm]; exact mpn k h
theorem mnn {x y : Int} (h : x < 0) (k : y < 0) : 0 < x * y := by
 have := Int.mul_pos (Int.neg_pos_of_neg h) (Int.neg_pos_of_neg k); rw [Int.neg_mul_neg] at this; exact this
theorem mzz {x y : Int} (h : 0 ≤ x) (k : 0 ≤ y) : 0 ≤ x * y := Int.mul_nonneg h k
theorem mzn {x y : Int} (h : 0 ≤ x) (k : y ≤ 0) : x * y ≤ 0 := by
 have := Int.mul_nonneg h (Int.neg_nonneg_of_nonpos k); rw [Int.mul_neg] at this; omega
theorem mnz {x y : Int} (h : x ≤ 0) (k : 0 ≤ y) : x * y ≤ 0 := by rw [Int.mul_comm]; exact mzn k h
theorem mnnz {x y : Int} (h : x ≤ 0) (k : y ≤ 0) : 0 ≤ x * y := by
 have := Int.mul_nonneg (Int.neg_nonneg_of_nonpos h) (Int.neg_nonneg_of_nonpos k); rw [Int.neg_mul_neg] at this; exact this
theorem ps {x c : Int} (hc : 0 < c) (h : 0 < x * c) : 0 < x := by
 by_cases k : 0 < x
 ·exact k
 ·have := mnz (show x ≤ 0 by omega) (show 0 ≤ c by omega); omega
theorem ng {x c : Int} (hc : 0 < c) (h : x * c < 0) : x < 0 := by
 by_cases k : x < 0
 ·exact k
 ·have := mzz (show 0 ≤ x by omega) (show 0 ≤ c by omega); omega
theorem ps' {x c : Int} (hc : c < 0) (h : 0 < x * c) : x < 0 := by
 by_cases k : x < 0
 ·exact k
 ·have := mzn (show 0 ≤ x by omega) (show c ≤ 0 by omega); omega
theorem ng' {x c : Int} (hc : c < 0) (h : x * c < 0) : 0 < x := by
 by_cases k : 0 < x
 ·exact k
 ·have := mnnz (show x ≤ 0 by omega) (show c ≤ 0 by omega); omega

def Bt (u v x : Int) : Prop := u ≤ v ∧ v ≤ x ∨ x ≤ v ∧ v ≤ u
def On (a b p : Pt) : Prop := T a b p = 0 ∧ Bt a.1 p.1 b.1 ∧ Bt a.2 p.2 b.2
def opp (x y : Int) : Prop := x < 0 ∧ 0 < y ∨ 0 < x ∧ y < 0
def Dis (a b c d : Pt) : Prop := ¬ On a b c ∧ ¬ On a b d ∧ ¬ On c d a ∧ ¬ On c d b ∧ ¬ (opp (T a b c) (T a b d) ∧ opp (T c d a) (T c d b))

theorem bt_core {F r G s : Int} (hF : 0 < F) (h0 : 0 ≤ r) (h1 : r ≤ F) (e : s * F = r * G) : 0 ≤ s ∧ s ≤ G ∨ G ≤ s ∧ s ≤ 0 := by
 by_cases hG : 0 ≤ G
 ·refine .inl ⟨?_, ?_⟩
  ·have := mzz h0 hG
   by_cases k : 0 ≤ s
   ·exact k
   ·have := mnp (show s < 0 by omega) hF; omega
  ·have h2 := mzz (show 0 ≤ F - r by omega) hG
   by_cases k : s ≤ G
   ·exact k
   ·have h3 := mpp (show 0 < s - G by omega) hF
    rw [Int.sub_mul] at h2 h3
    have := Int.mul_comm F G; omega
 ·refine .inr ⟨?_, ?_⟩
  ·have h2 := mzn (show 0 ≤ F - r by omega) (show G ≤ 0 by omega)
   by_cases k : G ≤ s
   ·exact k
   ·have h3 := mnp (show s - G < 0 by omega) hF
    rw [Int.sub_mul] at h2 h3
    have := Int.mul_comm F G; omega
  ·have := mzn h0 (show G ≤ 0 by omega)
   by_cases k : s ≤ 0
   ·exact k
   ·have := mpp (show 0 < s by omega) hF; omega

theorem aff_x (p : Pt) : aff 1 0 0 p = p.1 := by unfold aff; omega
theorem aff_y (p : Pt) : aff 0 1 0 p = p.2 := by unfold aff; omega

theorem on_of {a b p : Pt} (i j k : Int) (h : T a b p = 0) (h1 : aff i j k a < aff i j k b) (h2 : aff i j k a ≤ aff i j k p) (h3 : aff i j k p ≤ aff i j k b) : On a b p := by
 have g : ∀ i' j' k', Bt (aff i' j' k' a) (aff i' j' k' p) (aff i' j' k' b) := by
  intro i' j' k'
  have e := id_col i j k i' j' k' a b p
  rw [h, Int.zero_mul] at e
  have := bt_core (F := aff i j k b - aff i j k a) (r := aff i j k p - aff i j k a) (G := aff i' j' k' b - aff i' j' k' a) (s := aff i' j' k' p - aff i' j' k' a) (by omega) (by omega) (by omega) (by omega)
  unfold Bt; omega
 have gx := g 1 0 0; have gy := g 0 1 0
 rw [aff_x, aff_x, aff_x] at gx; rw [aff_y, aff_y, aff_y] at gy
 exact ⟨h, gx, gy⟩
theorem bt_swap {u v x : Int} (h : Bt u v x) : Bt x v u := by unfold Bt at *; omega
theorem On.swap {a b p : Pt} (h : On a b p) : On b a p := ⟨by rw [T_swap, h.1]; rfl, bt_swap h.2.1, bt_swap h.2.2⟩
theorem on_of' {a b p : Pt} (i j k : Int) (h : T a b p = 0) (h1 : aff i j k b < aff i j k a) (h2 : aff i j k b ≤ aff i j k p) (h3 : aff i j k p ≤ aff i j k a) : On a b p :=
 (on_of (a := b) (b := a) i j k (by rw [T_swap, h]; rfl) h1 h2 h3).swap
theorem On.bt {a b p : Pt} (h : On a b p) (i j k : Int) : Bt (aff i j k a) (aff i j k p) (aff i j k b) := by
 obtain ⟨h0, hx, hy⟩ := h
 by_cases e : a = b
 ·subst e
  have : p = a := by
   unfold Bt at hx hy
   apply Prod.ext <;> omega
  subst this; unfold Bt; omega
 ·have key : ∀ i' j' k', aff i' j' k' a ≠ aff i' j' k' b → Bt (aff i' j' k' a) (aff i' j' k' p) (aff i' j' k' b) → Bt (aff i j k a) (aff i j k p) (aff i j k b) := by
   intro i' j' k' hne hb
   have e := id_col i' j' k' i j k a b p
   rw [h0, Int.zero_mul] at e
   unfold Bt at hb ⊢
   rcases Int.lt_or_gt_of_ne hne with h1 | h1
   ·have := bt_core (F := aff i' j' k' b - aff i' j' k' a) (r := aff i' j' k' p - aff i' j' k' a) (G := aff i j k b - aff i j k a) (s := aff i j k p - aff i j k a) (by omega) (by omega) (by omega) (by omega)
    omega
   ·have e2 : (aff i j k p - aff i j k a) * (aff i' j' k' a - aff i' j' k' b) = (aff i' j' k' a - aff i' j' k' p) * (aff i j k b - aff i j k a) := by grind
    have := bt_core (F := aff i' j' k' a - aff i' j' k' b) (r := aff i' j' k' a - aff i' j' k' p) (G := aff i j k b - aff i j k a) (s := aff i j k p - aff i j k a) (by omega) (by omega) (by omega) e2
    omega
  by_cases ex : a.1 = b.1
  ·have ey : a.2 ≠ b.2 := fun h => e (Prod.ext ex h)
   exact key 0 1 0 (by rw [aff_y, aff_y]; exact ey) (by rw [aff_y, aff_y, aff_y]; exact hy)
  ·exact key 1 0 0 (by rw [aff_x, aff_x]; exact ex) (by rw [aff_x, aff_x, aff_x]; exact hx)
theorem on_left (a b : Pt) : On a b a := ⟨T_aba a b, by unfold Bt; omega, by unfold Bt; omega⟩
theorem opp_swap {x y : Int} (h : opp x y) : opp y x := by unfold opp at *; omega
theorem opp_neg {x y : Int} (h : opp (-x) (-y)) : opp x y := by unfold opp at *; omega
theorem Dis.swap {a b c d : Pt} (h : Dis a b c d) : Dis c d a b := ⟨h.2.2.1, h.2.2.2.1, h.1, h.2.1, fun k => h.2.2.2.2 ⟨k.2, k.1⟩⟩
theorem Dis.flip {a b c d : Pt} (h : Dis a b c d) : Dis b a c d :=
 ⟨fun k => h.1 k.swap, fun k => h.2.1 k.swap, h.2.2.2.1, h.2.2.1, fun k => h.2.2.2.2 ⟨by have := k.1; rw [T_swap a b c, T_swap a b d] at this; exact opp_neg this, opp_swap k.2⟩⟩
theorem Dis.flip2 {a b c d : Pt} (h : Dis a b c d) : Dis a b d c := h.swap.flip.swap

def ht (N : Int) (p : Pt) : Int := aff (-1) N 0 p
def w (N X : Int) (a b z : Pt) : Int :=
 if ht N a ≤ ht N z ∧ ht N z < ht N b ∧ 0 < T a b z + X then 1 else if ht N b ≤ ht N z ∧ ht N z < ht N a ∧ 0 < T b a z + X then -1 else 0
theorem w_swap (N X : Int) (a b z : Pt) : w N X b a z = - w N X a b z := by
 unfold w; split <;> split <;> (try split) <;> (try split) <;> omega
def S (N : Int) (q r z : Pt) : Int := if ht N q < ht N z ∧ ht N z < ht N r ∧ T q r z < 0 then 1 else 0

section core
variable {A B Q R a b q r : Int}
theorem c2 (k1 : B * (a - q) - A * (b - q) - Q * (r - q) = 0) (k2 : B * (a - r) - A * (b - r) + R * (q - r) = 0) (h : a < q ∧ q < b ∧ b < r) (n : ¬ (opp Q R ∧ opp A B)) : ¬ (0 < Q ∧ 0 < B) := by
 rintro ⟨hQ, hB⟩
 have p1 := mpn hB (show a - q < 0 by omega)
 have p2 := mpp hQ (show 0 < r - q by omega)
 have hA : A < 0 := ng (c := b - q) (by omega) (by omega)
 have p3 := mpn hB (show a - r < 0 by omega)
 have p4 := mnn hA (show b - r < 0 by omega)
 have hR : R < 0 := ps' (c := q - r) (by omega) (by omega)
 exact n ⟨.inr ⟨hQ, hR⟩, .inl ⟨hA, hB⟩⟩
theorem c3 (k1 : B * (a - q) - A * (b - q) - Q * (r - q) = 0) (k2 : B * (a - r) - A * (b - r) + R * (q - r) = 0) (h : a < q ∧ q < r ∧ r < b) (n : ¬ (opp Q R ∧ opp A B)) : ¬ (0 < Q ∧ R < 0) := by
 rintro ⟨hQ, hR⟩
 have p1 := mpp hQ (show 0 < r - q by omega)
 have p2 := mnn hR (show q - r < 0 by omega)
 rcases Int.lt_trichotomy A 0 with hA | hA | hA
 ·have p3 := mnp hA (show 0 < b - r by omega)
  have hB : 0 < B := ng' (c := a - r) (by omega) (by omega)
  exact n ⟨.inr ⟨hQ, hR⟩, .inl ⟨hA, hB⟩⟩
 ·subst hA
  have hB : B < 0 := ps' (c := a - q) (by omega) (by omega)
  have hB2 : 0 < B := ng' (c := a - r) (by omega) (by omega)
  omega
 ·have p3 := mpp hA (show 0 < b - q by omega)
  have hB : B < 0 := ps' (c := a - q) (by omega) (by omega)
  exact n ⟨.inr ⟨hQ, hR⟩, .inr ⟨hA, hB⟩⟩
theorem c4 (k1 : B * (a - q) - A * (b - q) - Q * (r - q) = 0) (k2 : B * (a - r) - A * (b - r) + R * (q - r) = 0) (h : q < a ∧ a < r ∧ q < b ∧ b < r) (n : ¬ (opp Q R ∧ opp A B)) : ¬ (A < 0 ∧ 0 < B) := by
 rintro ⟨hA, hB⟩
 have p1 := mpp hB (show 0 < a - q by omega)
 have p2 := mnp hA (show 0 < b - q by omega)
 have hQ : 0 < Q := ps (c := r - q) (by omega) (by omega)
 have p3 := mpn hB (show a - r < 0 by omega)
 have p4 := mnn hA (show b - r < 0 by omega)
 have hR : R < 0 := ps' (c := q - r) (by omega) (by omega)
 exact n ⟨.inr ⟨hQ, hR⟩, .inl ⟨hA, hB⟩⟩
theorem c5 (k1 : B * (a - q) - A * (b - q) - Q * (r - q) = 0) (k2 : B * (a - r) - A * (b - r) + R * (q - r) = 0) (h : q < a ∧ a < r ∧ r < b) (n : ¬ (opp Q R ∧ opp A B)) : ¬ (0 < R ∧ 0 < A) := by
 rintro ⟨hR, hA⟩
 have p1 := mpn hR (show q - r < 0 by omega)
 have p2 := mpp hA (show 0 < b - r by omega)
 have hB : B < 0 := ps' (c := a - r) (by omega) (by omega)
 have p3 := mnp hB (show 0 < a - q by omega)
 have p4 := mpp hA (show 0 < b - q by omega)
 have hQ : Q < 0 := ng (c := r - q) (by omega) (by omega)
 exact n ⟨.inl ⟨hQ, hR⟩, .inr ⟨hA, hB⟩⟩
end core
theorem neg_k {A B Q x y z : Int} (k : B * x - A * y - Q * z = 0) : -B * x - -A * y - -Q * z = 0 := by simp only [Int.neg_mul]; omega
theorem neg_k2 {A B R x y z : Int} (k : B * x - A * y + R * z = 0) : -B * x - -A * y + -R * z = 0 := by simp only [Int.neg_mul]; omega
theorem neg_n {Q R A B : Int} (n : ¬ (opp Q R ∧ opp A B)) : ¬ (opp (-Q) (-R) ∧ opp (-A) (-B)) := fun k => n ⟨opp_neg k.1, opp_neg k.2⟩

theorem w_out {N X : Int} {a b z : Pt} (h : ht N a ≤ ht N b) (k : ¬ (ht N a ≤ ht N z ∧ ht N z < ht N b)) : w N X a b z = 0 := by
 unfold w; rw [if_neg (fun c => k ⟨c.1, c.2.1⟩), if_neg (by omega)]
theorem w_one {N X : Int} {a b z : Pt} (k : ht N a ≤ ht N z ∧ ht N z < ht N b) (t : 0 < T a b z + X) : w N X a b z = 1 := by
 unfold w; rw [if_pos ⟨k.1, k.2, t⟩]
theorem w_zero {N X : Int} {a b z : Pt} (h : ht N a ≤ ht N b) (t : ¬ 0 < T a b z + X) : w N X a b z = 0 := by
 unfold w; rw [if_neg (fun c => t c.2.2), if_neg (by omega)]
theorem S_out {N : Int} {q r z : Pt} (h : ¬ (ht N q < ht N z ∧ ht N z < ht N r)) : S N q r z = 0 := if_neg (fun c => h ⟨c.1, c.2.1⟩)
theorem S_one {N : Int} {q r z : Pt} (h : ht N q < ht N z ∧ ht N z < ht N r) (t : T q r z < 0) : S N q r z = 1 := if_pos ⟨h.1, h.2, t⟩
theorem S_zero {N : Int} {q r z : Pt} (t : ¬ T q r z < 0) : S N q r z = 0 := if_neg (fun c => t c.2.2)
theorem strip_up {N X : Int} (hX : X = 0 ∨ X = 1) {a b q r : Pt} (D : Dis a b q r) (hqr : ht N q < ht N r) (hab : ht N a ≤ ht N b)
  (h1 : ht N a ≠ ht N q) (h2 : ht N a ≠ ht N r) (h3 : ht N b ≠ ht N q) (h4 : ht N b ≠ ht N r) :
  w N X a b q - w N X a b r = S N q r b - S N q r a := by
 have k1 : T q r b * (ht N a - ht N q) - T q r a * (ht N b - ht N q) - T a b q * (ht N r - ht N q) = 0 := by
  unfold ht aff T; grind
 have k2 : T q r b * (ht N a - ht N r) - T q r a * (ht N b - ht N r) + T a b r * (ht N q - ht N r) = 0 := by
  unfold ht aff T; grind
 have n := D.2.2.2.2
 have nn := neg_n n
 have oQ : T a b q = 0 → ¬ (ht N a < ht N q ∧ ht N q < ht N b) := fun e k => D.1 (on_of (-1) N 0 e (by unfold ht at *; omega) (Int.le_of_lt k.1) (Int.le_of_lt k.2))
 have oR : T a b r = 0 → ¬ (ht N a < ht N r ∧ ht N r < ht N b) := fun e k => D.2.1 (on_of (-1) N 0 e (by unfold ht at *; omega) (Int.le_of_lt k.1) (Int.le_of_lt k.2))
 have oA : T q r a = 0 → ¬ (ht N q < ht N a ∧ ht N a < ht N r) := fun e k => D.2.2.1 (on_of (-1) N 0 e hqr (Int.le_of_lt k.1) (Int.le_of_lt k.2))
 have oB : T q r b = 0 → ¬ (ht N q < ht N b ∧ ht N b < ht N r) := fun e k => D.2.2.2.1 (on_of (-1) N 0 e hqr (Int.le_of_lt k.1) (Int.le_of_lt k.2))
 clear D
 by_cases x1 : ht N b < ht N q ∨ ht N r < ht N a
 ·rw [w_out hab (by omega), w_out hab (by omega), S_out (by omega), S_out (by omega)]
 by_cases x2 : ht N a < ht N q
 ·by_cases x3 : ht N b < ht N r
  ·have o : ht N a < ht N q ∧ ht N q < ht N b ∧ ht N b < ht N r := ⟨x2, by omega, x3⟩
   have t1 := c2 k1 k2 o n
   have t2 := c2 (neg_k k1) (neg_k2 k2) o nn
   have hQ : T a b q ≠ 0 := fun e => oQ e ⟨o.1, o.2.1⟩
   have hB : T q r b ≠ 0 := fun e => oB e ⟨o.2.1, o.2.2⟩
   clear k1 k2 oQ oR oA oB n nn
   rw [w_out (z := r) hab (by omega), S_out (z := a) (by omega)]
   rcases Int.lt_or_gt_of_ne hQ with s | s
   ·rw [w_zero hab (by omega), S_zero (by omega)]
   ·rw [w_one ⟨by omega, by omega⟩ (by omega), S_one ⟨by omega, by omega⟩ (by omega)]
  ·have o : ht N a < ht N q ∧ ht N q < ht N r ∧ ht N r < ht N b := ⟨x2, hqr, by omega⟩
   have t1 := c3 k1 k2 o n
   have t2 := c3 (neg_k k1) (neg_k2 k2) o nn
   have hQ : T a b q ≠ 0 := fun e => oQ e ⟨by omega, by omega⟩
   have hR : T a b r ≠ 0 := fun e => oR e ⟨by omega, by omega⟩
   clear k1 k2 oQ oR oA oB n nn
   rw [S_out (z := a) (by omega), S_out (z := b) (by omega)]
   rcases Int.lt_or_gt_of_ne hQ with s | s
   ·rw [w_zero (z := q) hab (by omega), w_zero (z := r) hab (by omega)]
   ·rw [w_one (z := q) ⟨by omega, by omega⟩ (by omega), w_one (z := r) ⟨by omega, by omega⟩ (by omega)]; rfl
 ·by_cases x3 : ht N b < ht N r
  ·have o : ht N q < ht N a ∧ ht N a < ht N r ∧ ht N q < ht N b ∧ ht N b < ht N r := ⟨by omega, by omega, by omega, by omega⟩
   have t1 := c4 k1 k2 o n
   have t2 := c4 (neg_k k1) (neg_k2 k2) o nn
   have hA : T q r a ≠ 0 := fun e => oA e ⟨by omega, by omega⟩
   have hB : T q r b ≠ 0 := fun e => oB e ⟨by omega, by omega⟩
   clear k1 k2 oQ oR oA oB n nn
   rw [w_out (z := q) hab (by omega), w_out (z := r) hab (by omega)]
   rcases Int.lt_or_gt_of_ne hA with s | s
   ·rw [S_one (z := a) ⟨by omega, by omega⟩ (by omega), S_one (z := b) ⟨by omega, by omega⟩ (by omega)]; rfl
   ·rw [S_zero (z := a) (by omega), S_zero (z := b) (by omega)]
  ·have o : ht N q < ht N a ∧ ht N a < ht N r ∧ ht N r < ht N b := ⟨by omega, by omega, by omega⟩
   have t1 := c5 k1 k2 o n
   have t2 := c5 (neg_k k1) (neg_k2 k2) o nn
   have hR : T a b r ≠ 0 := fun e => oR e ⟨by omega, by omega⟩
   have hA : T q r a ≠ 0 := fun e => oA e ⟨by omega, by omega⟩
   clear k1 k2 oQ oR oA oB n nn
   rw [w_out (z := q) hab (by omega), S_out (z := b) (by omega)]
   rcases Int.lt_or_gt_of_ne hR with s | s
   ·rw [w_zero (z := r) hab (by omega), S_zero (z := a) (by omega)]
   ·rw [w_one (z := r) ⟨by omega, by omega⟩ (by omega), S_one (z := a) ⟨by omega, by omega⟩ (by omega)]

theorem strip {N X : Int} (hX : X = 0 ∨ X = 1) {a b q r : Pt} (D : Dis a b q r) (hqr : ht N q < ht N r)
  (h1 : ht N a ≠ ht N q) (h2 : ht N a ≠ ht N r) (h3 : ht N b ≠ ht N q) (h4 : ht N b ≠ ht N r) :
  w N X a b q - w N X a b r = S N q r b - S N q r a := by
 rcases Int.le_total (ht N a) (ht N b) with h | h
 ·exact strip_up hX D hqr h h1 h2 h3 h4
 ·have := strip_up hX D.flip hqr h h3 h4 h1 h2
  rw [w_swap N X a b q, w_swap N X a b r] at this; omega

def ed : List Pt → List (Pt × Pt)
 | a :: b :: r => (a, b) :: ed (b :: r)
 | _ => []
def pw (N X : Int) : List Pt → Pt → Int
 | a :: b :: r, z => w N X a b z + pw N X (b :: r) z
 | _, _ => 0
theorem pw_two (N X : Int) (a b : Pt) (r : List Pt) (z : Pt) : pw N X (a :: b :: r) z = w N X a b z + pw N X (b :: r) z := rfl
theorem pw_split (N X : Int) (p : Pt) (B : List Pt) (z : Pt) : ∀ A, pw N X (A ++ p :: B) z = pw N X (A ++ [p]) z + pw N X (p :: B) z
 | [] => by simp [pw]
 | [a] => by simp [pw]
 | a :: b :: r => by
  have := pw_split N X p B z (b :: r)
  simp only [List.cons_append] at this ⊢
  rw [pw_two, pw_two, this]; omega
theorem ed_split (p : Pt) (B : List Pt) : ∀ A, ed (A ++ p :: B) = ed (A ++ [p]) ++ ed (p :: B)
 | [] => by simp [ed]
 | [a] => by simp [ed]
 | a :: b :: r => by
  have := ed_split p B (b :: r)
  simp only [List.cons_append] at this ⊢
  rw [ed, ed, this]; rfl
theorem path_strip {N X : Int} (hX : X = 0 ∨ X = 1) {q r : Pt} (hqr : ht N q < ht N r) : ∀ (l : List Pt) (a : Pt),
  (∀ e ∈ ed (a :: l), Dis e.1 e.2 q r) → (∀ x ∈ a :: l, ht N x ≠ ht N q ∧ ht N x ≠ ht N r) →
  pw N X (a :: l) q - pw N X (a :: l) r = S N q r ((a :: l).getLast (List.cons_ne_nil _ _)) - S N q r a
 | [], a, _, _ => by simp [pw]
 | b :: l, a, h, k => by
  have ih := path_strip hX hqr l b (fun e he => h e (by rw [ed]; exact List.mem_cons_of_mem _ he)) (fun x hx => k x (List.mem_cons_of_mem _ hx))
  have s := strip hX (h (a, b) (by rw [ed]; exact List.mem_cons_self)) hqr (k a (by simp)).1 (k a (by simp)).2 (k b (by simp)).1 (k b (by simp)).2
  rw [pw_two, pw_two, List.getLast_cons (List.cons_ne_nil _ _)]
  simp only at s; omega

theorem sT_aff (s : Int) (x y q : Pt) : s * T x y q = aff (s * (x.2 - y.2)) (s * (y.1 - x.1)) (s * (x.1 * y.2 - y.1 * x.2)) q := by unfold T aff; grind
theorem on_T {s : Int} {u b x y q : Pt} (h : T x y q = 0) (h1 : s * T u b x < s * T u b y) (h2 : s * T u b x ≤ s * T u b q) (h3 : s * T u b q ≤ s * T u b y) : On x y q := by
 rw [sT_aff, sT_aff] at h1 h2 h3
 exact on_of _ _ _ h h1 h2 h3
theorem opp_s {s a b : Int} (hs : s = 1 ∨ s = -1) (h : opp (s * a) (s * b)) : opp a b := by
 rcases hs with rfl | rfl
 ·simpa using h
 ·simp only [Int.neg_mul, Int.one_mul] at h; exact opp_neg h
theorem id4T (s : Int) (u v a b c d : Pt) : T b c d * (s * T u v a) - T a c d * (s * T u v b) + T a b d * (s * T u v c) - T a b c * (s * T u v d) = 0 := by
 rw [sT_aff, sT_aff, sT_aff, sT_aff]; exact id4 _ _ _ a b c d
theorem baryS (s g : Int) (x y a b c q : Pt) : (s * T a b c) * (g * T x y q) = (s * T b c q) * (g * T x y a) + (s * T c a q) * (g * T x y b) + (s * T a b q) * (g * T x y c) := by
 have := bary x y a b c q
 have h : (s * T a b c) * (g * T x y q) = (s * g) * (T a b c * T x y q) := by grind
 rw [h, this]; grind

section core
variable {D ap bp dp ax bx dx ay b_y Lu Lv Lb Lp Kx Ky : Int}
theorem coreA (hLb : 0 < Lb) (hLp : Lp < 0) (hap : 0 < ap) (hbp : 0 < bp) (hdp : 0 ≤ dp) (hD : 0 < D) (hdx : dp < dx) (hx : ¬ (0 ≤ bx ∧ 0 ≤ ax))
  (e1 : D * Lp = ap * Lu + dp * Lb + bp * Lv) (e2 : 0 = ax * Lu + dx * Lb + bx * Lv) (hKx : Kx < 0) (hKy : 0 < Ky)
  (e3 : Ky * bx - Kx * b_y = Lb * bp) (e4 : Ky * ax - Kx * ay = Lb * ap) :
  (bx < 0 ∧ 0 < b_y ∧ Lu ≤ 0) ∨ (ax < 0 ∧ 0 < ay ∧ Lv ≤ 0) := by
 have q1 := mpn hD hLp
 have q2 := mzz hdp (Int.le_of_lt hLb)
 have q3 := mpp (show 0 < dx by omega) hLb
 have q4 := mpp hLb hbp
 have q5 := mpp hLb hap
 have hby : bx < 0 → 0 < b_y := by
  intro h
  have := mpn hKy h
  rw [Int.mul_comm] at e3
  exact ng' (c := Kx) hKx (by rw [Int.mul_comm b_y Kx]; have := Int.mul_comm bx Ky; omega)
 have hay : ax < 0 → 0 < ay := by
  intro h
  have := mpn hKy h
  rw [Int.mul_comm] at e4
  exact ng' (c := Kx) hKx (by rw [Int.mul_comm ay Kx]; have := Int.mul_comm ax Ky; omega)
 by_cases hb : bx < 0
 ·by_cases hu : Lu ≤ 0
  ·exact .inl ⟨hb, hby hb, hu⟩
  ·have r1 := mpp hap (show 0 < Lu by omega)
   have r2 : Lv < 0 := ng (c := bp) hbp (by rw [Int.mul_comm Lv bp]; omega)
   have r3 := mnn hb r2
   have r4 : ax < 0 := ng (c := Lu) (by omega) (by omega)
   exact .inr ⟨r4, hay r4, by omega⟩
 ·have ha : ax < 0 := by omega
  by_cases hv : Lv ≤ 0
  ·exact .inr ⟨ha, hay ha, hv⟩
  ·exfalso
   have r1 := mpp hbp (show 0 < Lv by omega)
   have r2 : Lu < 0 := ng (c := ap) hap (by rw [Int.mul_comm Lu ap]; omega)
   have r3 := mnn ha r2
   have r4 : bx < 0 := ng (c := Lv) (by omega) (by omega)
   omega
theorem coreB (hLu : 0 < Lu) (hLv : Lv < 0) (hD : 0 < D) (hdx : 0 < dx) (hx : ¬ (0 ≤ bx ∧ 0 ≤ ax))
  (e2 : 0 = ax * Lu + dx * Lb + bx * Lv) (hKx : Kx < 0) (hKy : 0 < Ky)
  (e3 : Ky * bx - Kx * b_y = Lu * D) (e4 : Ky * ax - Kx * ay = -(Lv * D)) :
  (bx < 0 ∧ 0 < b_y ∧ Lb < 0) ∨ (ax < 0 ∧ 0 < ay ∧ 0 ≤ Lb) := by
 have q4 := mpp hLu hD
 have q5 := mnp hLv hD
 have hby : bx < 0 → 0 < b_y := by
  intro h
  have := mpn hKy h
  exact ng' (c := Kx) hKx (by rw [Int.mul_comm b_y Kx]; omega)
 have hay : ax < 0 → 0 < ay := by
  intro h
  have := mpn hKy h
  exact ng' (c := Kx) hKx (by rw [Int.mul_comm ay Kx]; omega)
 by_cases hl : Lb < 0
 ·have q3 := mpn hdx hl
  have : bx < 0 := by
   by_cases ha : ax < 0
   ·have := mnp ha hLu
    exact ps' (c := Lv) hLv (by omega)
   ·omega
  exact .inl ⟨this, hby this, hl⟩
 ·have q3 := mzz (Int.le_of_lt hdx) (show 0 ≤ Lb by omega)
  have : ax < 0 := by
   by_cases hb : bx < 0
   ·have := mnn hb hLv
    exact ng (c := Lu) hLu (by omega)
   ·omega
  exact .inr ⟨this, hay this, by omega⟩
end core

def InT (s : Int) (u b v q : Pt) : Prop := 0 ≤ s * T u b q ∧ 0 ≤ s * T b v q ∧ 0 ≤ s * T v u q

theorem diag_half {s g : Int} (hs : s = 1 ∨ s = -1) (hg : g = 1 ∨ g = -1) {u b v p x y : Pt} (hD : 0 < s * T u b v) (ha : 0 < s * T b v p) (hb : 0 < s * T u b p) (hd : 0 ≤ s * T v u p)
  (hx : 0 ≤ s * T u b x → 0 ≤ s * T b v x → s * T v u x ≤ s * T v u p)
  (n1 : x ≠ u → y ≠ u → Dis x y u b) (n2 : x ≠ v → y ≠ v → Dis x y b v)
  (hdx : s * T v u p < s * T v u x) (hLb : 0 < g * T x y b) (hLp : g * T x y p < 0) (hk : opp (T b p x) (T b p y)) : False := by
 have e1 := baryS s g x y u b v p
 have e2 := baryS s g x y u b v x
 rw [T_aba] at e2
 have f3 := id4T s u b x y b p
 have f4 := id4T s b v x y b p
 rw [T_abb, T_cyc y b p |>.symm.trans (by rfl)] at f3
 rw [T_aba] at f4
 have z := sum4 x y b p
 have c1 := T_cyc b p x; have c2 := T_cyc b p y
 have c1' := T_cyc2 b p x; have c2' := T_cyc2 b p y
 have d1 : T y b p = T b p y := T_cyc2 b p y
 have d2 : T x b p = T b p x := T_cyc2 b p x
 rw [d1, d2] at z f4
 have f3' := id4T s u b x y b p
 rw [T_abb, d1, d2] at f3'
 have kk : g * T b p x < 0 ∧ 0 < g * T b p y := by
  unfold opp at hk
  rcases hg with rfl | rfl <;> omega
 have r := coreA (D := s * T u b v) (ap := s * T b v p) (bp := s * T u b p) (dp := s * T v u p) (ax := s * T b v x) (bx := s * T u b x) (dx := s * T v u x) (ay := s * T b v y) (b_y := s * T u b y)
  (Lu := g * T x y u) (Lv := g * T x y v) (Lb := g * T x y b) (Lp := g * T x y p) (Kx := g * T b p x) (Ky := g * T b p y) hLb hLp ha hb hd hD hdx (by intro k; have := hx k.1 k.2; omega) e1 (by rw [Int.mul_zero, Int.mul_zero] at e2; exact e2) kk.1 kk.2
  (by clear e1 e2 f3 f4 z; grind) (by clear e1 e2 f3 f3' z; grind)
 rcases r with ⟨k1, k2, k3⟩ | ⟨k1, k2, k3⟩
 ·have hxu : x ≠ u := by rintro rfl; rw [T_aba] at k1; omega
  have hyu : y ≠ u := by rintro rfl; rw [T_aba] at k2; omega
  have D := n1 hxu hyu
  by_cases h0 : T x y u = 0
  ·exact D.1 (on_T (s := s) (u := u) (b := b) h0 (by omega) (by rw [T_aba]; omega) (by rw [T_aba]; omega))
  ·refine D.2.2.2.2 ⟨?_, opp_s hs (.inl ⟨k1, k2⟩)⟩
   unfold opp; rcases hg with rfl | rfl <;> omega
 ·have hxu : x ≠ v := by rintro rfl; rw [T_abb] at k1; omega
  have hyu : y ≠ v := by rintro rfl; rw [T_abb] at k2; omega
  have D := n2 hxu hyu
  by_cases h0 : T x y v = 0
  ·exact D.2.1 (on_T (s := s) (u := b) (b := v) h0 (by omega) (by rw [T_abb]; omega) (by rw [T_abb]; omega))
  ·refine D.2.2.2.2 ⟨?_, opp_s hs (.inl ⟨k1, k2⟩)⟩
   unfold opp; rcases hg with rfl | rfl <;> omega
theorem tri_sum (s : Int) (u b v p : Pt) : s * T u b v = s * T b v p + s * T v u p + s * T u b p := by
 have := sum4 u b v p
 have e := T_swap v u p
 have e2 : T u b v = T b v p + T v u p + T u b p := by omega
 rw [e2, Int.mul_add, Int.mul_add]
theorem On.eq_end {a b p : Pt} {s u v : Int} {x y : Pt} (h : On a b p) (e : s * T x y p = s * T x y b) (n : s * T x y a ≠ s * T x y b) : p = b := by
 have g : ∀ i' j' k', aff i' j' k' p = aff i' j' k' b := by
  intro i' j' k'
  have c := id_col (s * (x.2 - y.2)) (s * (y.1 - x.1)) (s * (x.1 * y.2 - y.1 * x.2)) i' j' k' a b p
  rw [← sT_aff, ← sT_aff, ← sT_aff, h.1, e, Int.zero_mul] at c
  have c2 : (s * T x y b - s * T x y a) * (aff i' j' k' b - aff i' j' k' p) = 0 := by
   have : (s * T x y b - s * T x y a) * (aff i' j' k' b - aff i' j' k' p) = (s * T x y b - s * T x y a) * (aff i' j' k' b - aff i' j' k' a) - (aff i' j' k' p - aff i' j' k' a) * (s * T x y b - s * T x y a) := by grind
   rw [this]; exact c
  rcases Int.mul_eq_zero.mp c2 with h1 | h1 <;> omega
 have gx := g 1 0 0; have gy := g 0 1 0
 rw [aff_x, aff_x] at gx; rw [aff_y, aff_y] at gy
 exact Prod.ext gx gy
theorem On.btT {a b p : Pt} (h : On a b p) (s : Int) (x y : Pt) : Bt (s * T x y a) (s * T x y p) (s * T x y b) := by
 rw [sT_aff, sT_aff, sT_aff]; exact h.bt _ _ _
theorem diag {s : Int} (hs : s = 1 ∨ s = -1) {u b v p x y : Pt} (hD : 0 < s * T u b v) (ha : 0 < s * T b v p) (hb : 0 < s * T u b p) (hd : 0 ≤ s * T v u p) (hxp : x ≠ p) (hyp : y ≠ p)
  (hx : 0 ≤ s * T u b x → 0 ≤ s * T b v x → s * T v u x ≤ s * T v u p) (hy : 0 ≤ s * T u b y → 0 ≤ s * T b v y → s * T v u y ≤ s * T v u p)
  (n1 : x ≠ u → y ≠ u → Dis x y u b) (n2 : x ≠ v → y ≠ v → Dis x y b v) (o1 : ¬ On x y b) (o2 : ¬ On x y p) : Dis b p x y := by
 have ts := tri_sum s u b v p
 have db : s * T v u b = s * T u b v := by rw [T_cyc2 u b v]
 have no : ∀ q, q ≠ p → (0 ≤ s * T u b q → 0 ≤ s * T b v q → s * T v u q ≤ s * T v u p) → ¬ On b p q := by
  intro q hq hh ho
  have b1 := ho.btT s v u
  have b2 := ho.btT s u b
  have b3 := ho.btT s b v
  rw [T_abb] at b2; rw [T_aba] at b3
  unfold Bt at b1 b2 b3
  have hle := hh (by omega) (by omega)
  exact hq (ho.eq_end (s := s) (x := v) (y := u) (u := 0) (v := 0) (by omega) (by omega))
 refine ⟨no x hxp hx, no y hyp hy, o1, o2, fun k => ?_⟩
 obtain ⟨hk, hl⟩ := k
 obtain ⟨g, hg, hLb, hLp⟩ : ∃ g : Int, (g = 1 ∨ g = -1) ∧ 0 < g * T x y b ∧ g * T x y p < 0 := by
  unfold opp at hl
  rcases hl with h | h
  ·exact ⟨-1, .inr rfl, by omega, by omega⟩
  ·exact ⟨1, .inl rfl, by omega, by omega⟩
 have z := sum4 x y b p
 have d1 : T y b p = T b p y := T_cyc2 b p y
 have d2 : T x b p = T b p x := T_cyc2 b p x
 have f := id4T s v u x y b p
 rw [d1, d2] at z f
 have kk : g * T b p x < 0 ∧ 0 < g * T b p y := by
  unfold opp at hk
  rcases hg with rfl | rfl <;> omega
 by_cases h1 : s * T v u p < s * T v u x
 ·exact diag_half hs hg hD ha hb hd hx n1 n2 h1 hLb hLp hk
 by_cases h2 : s * T v u p < s * T v u y
 ·refine diag_half (g := -g) hs (by omega) hD ha hb hd hy (fun a c => (n1 c a).flip) (fun a c => (n2 c a).flip) h2 ?_ ?_ (opp_swap hk)
  ·rw [T_swap x y b, Int.neg_mul_neg]; exact hLb
  ·rw [T_swap x y p, Int.neg_mul_neg]; exact hLp
 have m1 := mzn (Int.le_of_lt kk.2) (show s * T v u x - s * T v u p ≤ 0 by omega)
 have m2 := mnnz (Int.le_of_lt kk.1) (show s * T v u y - s * T v u p ≤ 0 by omega)
 have m3 := mnp hLp (show 0 < s * T v u b - s * T v u p by omega)
 have : g * T b p y * (s * T v u x - s * T v u p) - g * T b p x * (s * T v u y - s * T v u p) + g * T x y p * (s * T v u b - s * T v u p) = 0 := by
  have e : T x y b = T b p y - T b p x + T x y p := by omega
  rw [e] at f
  clear m1 m2 m3 kk hk hl hLb hLp z
  grind
 omega

theorem cut_half {s g : Int} (hs : s = 1 ∨ s = -1) (hg : g = 1 ∨ g = -1) {u b v x y : Pt} (hD : 0 < s * T u b v) (hx : ¬ InT s u b v x)
  (n1 : x ≠ u → y ≠ u → Dis x y u b) (n2 : x ≠ v → y ≠ v → Dis x y b v)
  (hdx : 0 < s * T v u x) (hLu : 0 < g * T x y u) (hLv : g * T x y v < 0) (hk : opp (T u v x) (T u v y)) : False := by
 have e2 := baryS s g x y u b v x
 rw [T_aba, Int.mul_zero, Int.mul_zero] at e2
 have z := sum4 x y u v
 have d1 : T y u v = T u v y := T_cyc2 u v y
 have d2 : T x u v = T u v x := T_cyc2 u v x
 have f3 := id4T s u b x y u v
 have f4 := id4T s b v x y u v
 rw [d1, d2] at z f3 f4
 rw [T_aba] at f3
 rw [T_abb, T_cyc u b v] at f4
 have kk : g * T u v x < 0 ∧ 0 < g * T u v y := by
  unfold opp at hk
  rcases hg with rfl | rfl <;> omega
 have r := coreB (D := s * T u b v) (ax := s * T b v x) (bx := s * T u b x) (dx := s * T v u x) (ay := s * T b v y) (b_y := s * T u b y)
  (Lu := g * T x y u) (Lv := g * T x y v) (Lb := g * T x y b) (Kx := g * T u v x) (Ky := g * T u v y) hLu hLv hD hdx (by intro k; exact hx ⟨k.1, k.2, Int.le_of_lt hdx⟩) (by omega) kk.1 kk.2
  (by clear e2 f4 z; grind) (by clear e2 f3 z; grind)
 rcases r with ⟨k1, k2, k3⟩ | ⟨k1, k2, k3⟩
 ·have hxu : x ≠ u := by rintro rfl; rw [T_aba] at k1; omega
  have hyu : y ≠ u := by rintro rfl; rw [T_aba] at k2; omega
  have D := n1 hxu hyu
  refine D.2.2.2.2 ⟨?_, opp_s hs (.inl ⟨k1, k2⟩)⟩
  unfold opp; rcases hg with rfl | rfl <;> omega
 ·have hxu : x ≠ v := by rintro rfl; rw [T_abb] at k1; omega
  have hyu : y ≠ v := by rintro rfl; rw [T_abb] at k2; omega
  have D := n2 hxu hyu
  by_cases h0 : T x y b = 0
  ·exact D.1 (on_T (s := s) (u := b) (b := v) h0 (by omega) (by rw [T_aba]; omega) (by rw [T_aba]; omega))
  ·refine D.2.2.2.2 ⟨?_, opp_s hs (.inl ⟨k1, k2⟩)⟩
   unfold opp; rcases hg with rfl | rfl <;> omega
theorem cut {s : Int} (hs : s = 1 ∨ s = -1) {u b v x y : Pt} (hD : 0 < s * T u b v) (hx : ¬ InT s u b v x) (hy : ¬ InT s u b v y)
  (n1 : x ≠ u → y ≠ u → Dis x y u b) (n2 : x ≠ v → y ≠ v → Dis x y b v) (o1 : ¬ On x y u) (o2 : ¬ On x y v) : Dis u v x y := by
 have no : ∀ q, ¬ InT s u b v q → ¬ On u v q := by
  intro q hq ho
  have b1 := ho.btT s u b
  have b2 := ho.btT s b v
  rw [T_aba] at b1; rw [T_abb, T_cyc] at b2
  unfold Bt at b1 b2
  refine hq ⟨by omega, by omega, ?_⟩
  rw [T_swap, ho.1]; omega
 refine ⟨no x hx, no y hy, o1, o2, fun k => ?_⟩
 obtain ⟨hk, hl⟩ := k
 obtain ⟨g, hg, hLb, hLp⟩ : ∃ g : Int, (g = 1 ∨ g = -1) ∧ 0 < g * T x y u ∧ g * T x y v < 0 := by
  unfold opp at hl
  rcases hl with h | h
  ·exact ⟨-1, .inr rfl, by omega, by omega⟩
  ·exact ⟨1, .inl rfl, by omega, by omega⟩
 have e1 := T_swap u v x
 have e2 := T_swap u v y
 by_cases h1 : 0 < s * T v u x
 ·exact cut_half hs hg hD hx n1 n2 h1 hLb hLp hk
 ·refine cut_half (g := -g) hs (by omega) hD hy (fun a c => (n1 c a).flip) (fun a c => (n2 c a).flip) ?_ ?_ ?_ (opp_swap hk)
  ·unfold opp at hk; rcases hs with rfl | rfl <;> omega
  ·rw [T_swap x y u, Int.neg_mul_neg]; exact hLb
  ·rw [T_swap x y v, Int.neg_mul_neg]; exact hLp

def cyc : List Pt → List (Pt × Pt)
 | [] => []
 | a :: r => ed ((a :: r) ++ [a])
def Wd (N X : Int) : List Pt → Pt → Int
 | [], _ => 0
 | a :: r, z => pw N X ((a :: r) ++ [a]) z
theorem ed_snoc (A : List Pt) (p q : Pt) : ed (A ++ [p, q]) = ed (A ++ [p]) ++ [(p, q)] := by
 have := ed_split p [q] A; rw [this]; simp [ed]
theorem pw_snoc (N X : Int) (A : List Pt) (p q z : Pt) : pw N X (A ++ [p, q]) z = pw N X (A ++ [p]) z + w N X p q z := by
 have := pw_split N X p [q] z A; rw [this]; simp [pw]
theorem cyc_two (a b : Pt) (A B : List Pt) : cyc ((a :: A) ++ (b :: B)) = ed ((a :: A) ++ [b]) ++ ed ((b :: B) ++ [a]) := by
 have : cyc ((a :: A) ++ (b :: B)) = ed ((a :: A) ++ b :: (B ++ [a])) := by simp [cyc]
 rw [this, ed_split]; simp
theorem Wd_two (N X : Int) (a b : Pt) (A B : List Pt) (z : Pt) : Wd N X ((a :: A) ++ (b :: B)) z = pw N X ((a :: A) ++ [b]) z + pw N X ((b :: B) ++ [a]) z := by
 have : Wd N X ((a :: A) ++ (b :: B)) z = pw N X ((a :: A) ++ b :: (B ++ [a])) z := by simp [Wd]
 rw [this, pw_split]; simp
theorem mem_cyc_rot (A B : List Pt) (e : Pt × Pt) : e ∈ cyc (A ++ B) → e ∈ cyc (B ++ A) := by
 cases A with
 | nil => simp
 | cons a A =>
  cases B with
  | nil => simp
  | cons b B =>
   rw [cyc_two, cyc_two, List.mem_append, List.mem_append]; exact Or.symm
theorem Wd_rot (N X : Int) (A B : List Pt) (z : Pt) : Wd N X (A ++ B) z = Wd N X (B ++ A) z := by
 cases A with
 | nil => simp
 | cons a A =>
  cases B with
  | nil => simp
  | cons b B => rw [Wd_two, Wd_two]; omega
theorem ed_mem : ∀ (l : List Pt) (e : Pt × Pt), e ∈ ed l → e.1 ∈ l ∧ e.2 ∈ l
 | [], _, h => by simp [ed] at h
 | [_], _, h => by simp [ed] at h
 | a :: b :: r, e, h => by
  rw [ed, List.mem_cons] at h
  rcases h with rfl | h
  ·simp
  ·have := ed_mem (b :: r) e h
   exact ⟨List.mem_cons_of_mem _ this.1, List.mem_cons_of_mem _ this.2⟩
theorem ed_snd (a : Pt) (l : List Pt) (e : Pt × Pt) (h : e ∈ ed (a :: l)) : e.2 ∈ l := by
 cases l with
 | nil => simp [ed] at h
 | cons b r =>
  rw [ed, List.mem_cons] at h
  rcases h with rfl | h
  ·simp
  ·exact (ed_mem _ e h).2
theorem ed_fst (z : Pt) : ∀ (l : List Pt) (e : Pt × Pt), e ∈ ed (l ++ [z]) → e.1 ∈ l
 | [], e, h => by simp [ed] at h
 | [a], e, h => by simp [ed] at h; simp [h]
 | a :: b :: r, e, h => by
  rw [List.cons_append, List.cons_append, ed, List.mem_cons] at h
  rcases h with rfl | h
  ·simp
  ·exact List.mem_cons_of_mem _ (ed_fst z (b :: r) e h)
theorem cyc_mem (l : List Pt) (e : Pt × Pt) (h : e ∈ cyc l) : e.1 ∈ l ∧ e.2 ∈ l := by
 cases l with
 | nil => simp [cyc] at h
 | cons a r =>
  rw [cyc] at h
  refine ⟨ed_fst _ _ _ h, ?_⟩
  have := ed_snd a (r ++ [a]) e h
  simp at this ⊢; rcases this with h | h <;> simp [h]
theorem cyc_from (l : List Pt) (x : Pt) (h : x ∈ l) : ∃ y, (x, y) ∈ cyc l := by
 obtain ⟨A, B, rfl⟩ := List.append_of_mem h
 have : ∃ y, (x, y) ∈ cyc ((x :: B) ++ A) := by
  rw [List.cons_append, cyc]
  cases hl : B ++ A with
  | nil => exact ⟨x, by simp [ed]⟩
  | cons y r => exact ⟨y, by simp [ed]⟩
 obtain ⟨y, hy⟩ := this
 exact ⟨y, mem_cyc_rot _ _ _ hy⟩
theorem cyc_path (a z : Pt) (L : List Pt) : cyc (a :: (L ++ [z])) = ed (a :: (L ++ [z])) ++ [(z, a)] := by
 have : cyc (a :: (L ++ [z])) = ed ((a :: L) ++ [z, a]) := by simp [cyc]
 rw [this, ed_snoc]; rfl
theorem Wd_path (N X : Int) (a z : Pt) (L : List Pt) (q : Pt) : Wd N X (a :: (L ++ [z])) q = pw N X (a :: (L ++ [z])) q + w N X z a q := by
 have : Wd N X (a :: (L ++ [z])) q = pw N X ((a :: L) ++ [z, a]) q := by simp [Wd]
 rw [this, pw_snoc]; rfl

structure Sim (l : List Pt) : Prop where
 len : 3 ≤ l.length
 nd : l.Nodup
 na : ∀ e ∈ cyc l, ∀ f ∈ cyc l, e.2 ≠ f.1 → f.2 ≠ e.1 → e ≠ f → Dis e.1 e.2 f.1 f.2
 ad : ∀ e ∈ cyc l, ∀ f ∈ cyc l, e.2 = f.1 → ¬ On f.1 f.2 e.1 ∧ ¬ On e.1 e.2 f.2
theorem Sim.rot {A B : List Pt} (h : Sim (A ++ B)) : Sim (B ++ A) where
 len := by have := h.len; rw [List.length_append] at *; omega
 nd := by
  have := h.nd; rw [List.nodup_append] at *
  exact ⟨this.2.1, this.1, fun a ha b hb e => this.2.2 b hb a ha e.symm⟩
 na e he f hf := h.na e (mem_cyc_rot _ _ _ he) f (mem_cyc_rot _ _ _ hf)
 ad e he f hf := h.ad e (mem_cyc_rot _ _ _ he) f (mem_cyc_rot _ _ _ hf)
theorem Sim.off {l : List Pt} (h : Sim l) {e : Pt × Pt} (he : e ∈ cyc l) {q : Pt} (hq : q ∈ l) (h1 : q ≠ e.1) (h2 : q ≠ e.2) : ¬ On e.1 e.2 q := by
 obtain ⟨y, hy⟩ := cyc_from l q hq
 by_cases hye : y = e.1
 ·exact (h.ad _ hy e he hye).1
 ·exact (h.na _ hy e he hye (fun k => h2 k.symm) (fun k => h1 (by rw [← k]))).2.2.1

theorem Sim.sub {P : List Pt} (hP : Sim P) {a z : Pt} {L : List Pt} (hL : L ≠ []) (hsub : ∀ e ∈ ed (a :: (L ++ [z])), e ∈ cyc P) (nd : (a :: (L ++ [z])).Nodup)
  (hm : ∀ x ∈ a :: (L ++ [z]), x ∈ P)
  (h1 : ∀ f ∈ ed (a :: (L ++ [z])), f.1 ≠ a → f.1 ≠ z → f.2 ≠ a → f.2 ≠ z → Dis z a f.1 f.2) (h2 : ∀ q ∈ L, ¬ On z a q) : Sim (a :: (L ++ [z])) := by
 have hza : z ≠ a := by
  rw [List.nodup_cons] at nd; intro e; apply nd.1; simp [e]
 have haL : a ∉ L := by rw [List.nodup_cons] at nd; intro e; apply nd.1; simp [e]
 have hzL : z ∉ L := by
  rw [List.nodup_cons, List.nodup_append] at nd; intro e; exact nd.2.2.2 z e z (by simp) rfl
 have fst : ∀ f ∈ ed (a :: (L ++ [z])), f.1 ≠ z := by
  intro f hf e
  have := ed_fst z (a :: L) f hf
  rw [e, List.mem_cons] at this
  rcases this with h | h
  ·exact hza h
  ·exact hzL h
 have snd : ∀ f ∈ ed (a :: (L ++ [z])), f.2 ≠ a := by
  intro f hf e
  have := ed_snd a (L ++ [z]) f hf
  rw [e] at this
  simp at this
  rcases this with h | h
  ·exact haL h
  ·exact hza h.symm
 have saz : ∀ f ∈ ed (a :: (L ++ [z])), f.1 = a → f.2 ≠ z := by
  intro f hf e1 e2
  cases L with
  | nil => exact hL rfl
  | cons m L =>
   rw [List.cons_append, ed, List.mem_cons] at hf
   rcases hf with rfl | hf
   ·simp at e2; apply hzL; simp [e2]
   ·have := ed_fst z (m :: L) f hf
    rw [e1] at this; exact haL this
 have hmem : ∀ f ∈ cyc (a :: (L ++ [z])), f ∈ ed (a :: (L ++ [z])) ∨ f = (z, a) := by
  intro f hf; rw [cyc_path, List.mem_append] at hf
  rcases hf with h | h
  ·exact .inl h
  ·exact .inr (by simpa using h)
 refine ⟨?_, nd, ?_, ?_⟩
 ·cases L with
  | nil => exact absurd rfl hL
  | cons m L => simp
 ·intro e he f hf n1 n2 n3
  rcases hmem e he with he | rfl <;> rcases hmem f hf with hf | rfl
  ·exact hP.na e (hsub e he) f (hsub f hf) n1 n2 n3
  ·exact (h1 e he (fun k => n2 k.symm) (fst e he) (snd e he) n1).swap
  ·exact h1 f hf (fun k => n1 k.symm) (fst f hf) (snd f hf) n2
  ·exact absurd rfl n3
 ·intro e he f hf n1
  rcases hmem e he with he | rfl <;> rcases hmem f hf with hf | rfl
  ·exact hP.ad e (hsub e he) f (hsub f hf) n1
  ·-- e leads to z
   have e1 : e.1 ≠ a := fun k => saz e he k n1
   have hm1 := ed_mem _ _ he
   have hL1 : e.1 ∈ L := by
    have := ed_fst z (a :: L) e he
    rw [List.mem_cons] at this; exact this.resolve_left e1
   refine ⟨h2 _ hL1, ?_⟩
   exact hP.off (hsub e he) (hm a (by simp)) (fun k => e1 k.symm) (fun k => hza (n1.symm.trans k.symm))
  ·have n1' : a = f.1 := n1
   have e2 : f.2 ≠ z := saz f hf n1'.symm
   have hL1 : f.2 ∈ L := by
    have := ed_snd a (L ++ [z]) f hf
    simp at this; exact this.resolve_right e2
   refine ⟨?_, h2 _ hL1⟩
   exact hP.off (hsub f hf) (hm z (by simp)) (fun k => hza (by rw [n1', ← k])) (fun k => e2 k.symm)
  ·exact absurd n1.symm hza

def Sp (P : List Pt) (w : Pt) (R : List Pt) : Prop := ∃ A B, P = A ++ w :: B ∧ R = B ++ A
theorem Sp.head (w : Pt) (R : List Pt) : Sp (w :: R) w R := ⟨[], R, rfl, by simp⟩
theorem Sp.of_rot {A B : List Pt} {w : Pt} {R : List Pt} (h : Sp (A ++ B) w R) : Sp (B ++ A) w R := by
 obtain ⟨C, D, h1, h2⟩ := h
 rcases List.append_eq_append_iff.mp h1 with ⟨E, e1, e2⟩ | ⟨E, e1, e2⟩
 ·refine ⟨E, D ++ A, by rw [e2]; simp, by rw [h2, e1]; simp⟩
 ·cases E with
  | nil => refine ⟨[], D ++ C, ?_, by rw [h2]; simp⟩; simp at e1 e2; rw [e1, ← e2]; simp
  | cons x E =>
   simp at e2
   obtain ⟨rfl, e2⟩ := e2
   refine ⟨B ++ C, E, by rw [e1]; simp, by rw [h2, e2]; simp⟩
theorem Sp.sim {P : List Pt} {w : Pt} {R : List Pt} (h : Sp P w R) (hP : Sim P) : Sim (w :: R) := by
 obtain ⟨A, B, rfl, rfl⟩ := h; exact hP.rot
theorem Sp.len {P : List Pt} {w : Pt} {R : List Pt} (h : Sp P w R) : P.length = R.length + 1 := by
 obtain ⟨A, B, rfl, rfl⟩ := h; simp; omega
theorem Sp.mem {P : List Pt} {w : Pt} {R : List Pt} (h : Sp P w R) (x : Pt) : x ∈ P ↔ x = w ∨ x ∈ R := by
 obtain ⟨A, B, rfl, rfl⟩ := h; simp; constructor
 ·rintro (h | h | h) <;> simp [h]
 ·rintro (h | h | h) <;> simp [h]
theorem Sp.wd {P : List Pt} {w : Pt} {R : List Pt} (h : Sp P w R) (N X : Int) (z : Pt) : Wd N X P z = Wd N X (w :: R) z := by
 obtain ⟨A, B, rfl, rfl⟩ := h; exact Wd_rot N X A (w :: B) z
theorem Sp.cyc {P : List Pt} {w : Pt} {R : List Pt} (h : Sp P w R) (e : Pt × Pt) : e ∈ cyc P ↔ e ∈ Geo.cyc (w :: R) := by
 obtain ⟨A, B, rfl, rfl⟩ := h; exact ⟨mem_cyc_rot A (w :: B) e, mem_cyc_rot (w :: B) A e⟩
theorem cons_uniq {w : Pt} : ∀ {A B C D : List Pt}, w ∉ A → w ∉ C → A ++ w :: B = C ++ w :: D → A = C ∧ B = D
 | [], B, [], D, _, _, h => by simpa using h
 | [], B, c :: C, D, _, h2, h => by simp at h; exact absurd (by simp [h.1]) h2
 | a :: A, B, [], D, h1, _, h => by simp at h; exact absurd (by simp [h.1]) h1
 | a :: A, B, c :: C, D, h1, h2, h => by
  simp at h
  have := cons_uniq (fun k => h1 (by simp [k])) (fun k => h2 (by simp [k])) h.2
  exact ⟨by rw [h.1, this.1], this.2⟩
theorem Sp.uniq {P : List Pt} {w : Pt} {R Q : List Pt} (nd : P.Nodup) (h : Sp P w R) (k : Sp P w Q) : R = Q := by
 obtain ⟨A, B, rfl, rfl⟩ := h
 obtain ⟨C, D, e, rfl⟩ := k
 have n1 : w ∉ A := by
  rw [List.nodup_append] at nd; intro h; exact nd.2.2 w h w (by simp) rfl
 have n2 : w ∉ C := by
  rw [e, List.nodup_append] at nd; intro h; exact nd.2.2 w h w (by simp) rfl
 obtain ⟨rfl, rfl⟩ := cons_uniq n1 n2 e; rfl
theorem Sp.ex {P : List Pt} {w : Pt} (h : w ∈ P) : ∃ R, Sp P w R := by
 obtain ⟨A, B, rfl⟩ := List.append_of_mem h; exact ⟨B ++ A, A, B, rfl, rfl⟩
theorem ends2 {R : List Pt} (h : 2 ≤ R.length) : ∃ v M u, R = v :: (M ++ [u]) := by
 cases R with
 | nil => simp at h
 | cons v R =>
  have hR : R ≠ [] := by rintro rfl; simp at h
  exact ⟨v, R.dropLast, R.getLast hR, by rw [List.dropLast_concat_getLast]⟩

theorem tri_kd {N X : Int} (hX : X = 0 ∨ X = 1) {a b c z : Pt} (h : 0 < T a b c) (h1 : ht N b ≤ ht N z) (h2 : ht N b < ht N a) (h3 : ht N b < ht N c) (k : 0 < T b a z + X) : 0 < T b c z + X := by
 have e : T b c z * (ht N a - ht N b) = T b a z * (ht N c - ht N b) + T a b c * (ht N z - ht N b) := by unfold ht aff T; grind
 have m := mzz (Int.le_of_lt h) (show 0 ≤ ht N z - ht N b by omega)
 have m2 := mzz (show 0 ≤ T b a z by omega) (show 0 ≤ ht N c - ht N b by omega)
 rcases hX with rfl | rfl
 ·have m3 := mpp (show 0 < T b a z by omega) (show 0 < ht N c - ht N b by omega)
  have := ps (c := ht N a - ht N b) (x := T b c z) (by omega) (by omega)
  omega
 ·by_cases t : T b c z < 0
  ·have := mnp t (show 0 < ht N a - ht N b by omega); omega
  ·omega
theorem tri_ku {N X : Int} (hX : X = 0 ∨ X = 1) {a b c z : Pt} (h : 0 < T a b c) (h1 : ht N z < ht N a) (h2 : ht N b < ht N a) (h3 : ht N c < ht N a) (k : 0 < T b a z + X) : 0 < T c a z + X := by
 have e : T c a z * (ht N a - ht N b) = T b a z * (ht N a - ht N c) + T a b c * (ht N a - ht N z) := by unfold ht aff T; grind
 have m := mpp h (show 0 < ht N a - ht N z by omega)
 have m2 := mzz (show 0 ≤ T b a z by omega) (show 0 ≤ ht N a - ht N c by omega)
 have := ps (c := ht N a - ht N b) (x := T c a z) (by omega) (by omega)
 omega
theorem w_cases {N X : Int} (hX : X = 0 ∨ X = 1) (a b z : Pt) :
  (ht N a ≤ ht N z ∧ ht N z < ht N b ∧ (w N X a b z = if 0 < T a b z + X then 1 else 0)) ∨
  (ht N b ≤ ht N z ∧ ht N z < ht N a ∧ (w N X a b z = if 0 < T b a z + X then -1 else 0)) ∨
  ((ht N z < ht N a ∧ ht N z < ht N b ∨ ht N a ≤ ht N z ∧ ht N b ≤ ht N z) ∧ w N X a b z = 0) := by
 unfold w
 by_cases h1 : ht N a ≤ ht N z <;> by_cases h2 : ht N z < ht N b
 ·refine .inl ⟨h1, h2, ?_⟩
  rw [if_neg (c := ht N b ≤ ht N z ∧ ht N z < ht N a ∧ 0 < T b a z + X) (by omega)]
  by_cases h3 : 0 < T a b z + X <;> simp [h1, h2, h3]
 ·refine .inr (.inr ⟨.inr ⟨h1, by omega⟩, ?_⟩); rw [if_neg (by omega), if_neg (by omega)]
 ·refine .inr (.inr ⟨.inl ⟨by omega, h2⟩, ?_⟩); rw [if_neg (by omega), if_neg (by omega)]
 ·refine .inr (.inl ⟨by omega, by omega, ?_⟩)
  rw [if_neg (by omega)]
  by_cases h3 : 0 < T b a z + X
  ·rw [if_pos ⟨by omega, by omega, h3⟩, if_pos h3]
  ·rw [if_neg (fun c => h3 c.2.2), if_neg h3]
theorem tri1 {N X : Int} (hX : X = 0 ∨ X = 1) {a b c : Pt} (h : 0 < T a b c) (z : Pt) : 0 ≤ w N X a b z + w N X b c z + w N X c a z ∧ w N X a b z + w N X b c z + w N X c a z ≤ 1 := by
 have hb : 0 < T b c a := by rw [T_cyc]; exact h
 have hc : 0 < T c a b := by rw [T_cyc2]; exact h
 have d1 := fun p q r k => tri_kd (N := N) hX (z := z) h p q r k
 have d2 := fun p q r k => tri_kd (N := N) hX (z := z) hb p q r k
 have d3 := fun p q r k => tri_kd (N := N) hX (z := z) hc p q r k
 have u1 := fun p q r k => tri_ku (N := N) hX (z := z) h p q r k
 have u2 := fun p q r k => tri_ku (N := N) hX (z := z) hb p q r k
 have u3 := fun p q r k => tri_ku (N := N) hX (z := z) hc p q r k
 rcases w_cases (N := N) hX a b z with ⟨p1, p2, e1⟩ | ⟨p1, p2, e1⟩ | ⟨p1, e1⟩ <;>
 rcases w_cases (N := N) hX b c z with ⟨q1, q2, e2⟩ | ⟨q1, q2, e2⟩ | ⟨q1, e2⟩ <;>
 rcases w_cases (N := N) hX c a z with ⟨r1, r2, e3⟩ | ⟨r1, r2, e3⟩ | ⟨r1, e3⟩ <;> (try omega) <;> rw [e1, e2, e3] <;> clear e1 e2 e3
 all_goals (split <;> split <;> (try omega))
 all_goals (rename_i x y; first
  | exact absurd (d1 (by omega) (by omega) (by omega) (by assumption)) (by assumption)
  | exact absurd (d2 (by omega) (by omega) (by omega) (by assumption)) (by assumption)
  | exact absurd (d3 (by omega) (by omega) (by omega) (by assumption)) (by assumption)
  | exact absurd (u1 (by omega) (by omega) (by omega) (by assumption)) (by assumption)
  | exact absurd (u2 (by omega) (by omega) (by omega) (by assumption)) (by assumption)
  | exact absurd (u3 (by omega) (by omega) (by omega) (by assumption)) (by assumption))
theorem Wd_three (N X : Int) (a b c z : Pt) : Wd N X [a, b, c] z = w N X a b z + w N X b c z + w N X c a z := by simp [Wd, pw]; omega
theorem Wd_back3 (N X : Int) (a b c z : Pt) : Wd N X [c, b, a] z = - Wd N X [a, b, c] z := by
 rw [Wd_three, Wd_three, w_swap N X a b z, w_swap N X b c z, w_swap N X c a z]; omega
theorem triW {N X s : Int} (hX : X = 0 ∨ X = 1) (hs : s = 1 ∨ s = -1) {a b c : Pt} (h : 0 < s * T a b c) (z : Pt) : 0 ≤ s * Wd N X [a, b, c] z ∧ s * Wd N X [a, b, c] z ≤ 1 := by
 rcases hs with rfl | rfl
 ·rw [Int.one_mul] at *; rw [Wd_three]; exact tri1 hX h z
 ·have h' : 0 < T c b a := by rw [T_swap3]; omega
  have := tri1 (N := N) hX h' z
  have e := Wd_back3 N X a b c z
  rw [← Wd_three, e] at this; omega
theorem tri_in1 {N : Int} {a b c q : Pt} (h : 0 < T a b c) (i1 : 0 ≤ T a b q) (i2 : 0 ≤ T b c q) (i3 : 0 ≤ T c a q) (ha : ht N q ≠ ht N a) (hb : ht N q ≠ ht N b) (hc : ht N q ≠ ht N c) :
  ∃ X, (X = 0 ∨ X = 1) ∧ w N X a b q + w N X b c q + w N X c a q = 1 := by
 have e : T a b c = T b c q + T c a q + T a b q := by unfold T; grind
 have eh : T b c q * (ht N a - ht N q) + T c a q * (ht N b - ht N q) + T a b q * (ht N c - ht N q) = 0 := by unfold ht aff T; grind
 have z1 : ¬ (T a b q = 0 ∧ T b c q = 0) := by
  rintro ⟨k1, k2⟩; rw [k1, k2, Int.zero_mul, Int.zero_mul] at eh
  have : T c a q ≠ 0 := by omega
  have := Int.mul_ne_zero this (show ht N b - ht N q ≠ 0 by omega); omega
 have z2 : ¬ (T b c q = 0 ∧ T c a q = 0) := by
  rintro ⟨k1, k2⟩; rw [k1, k2, Int.zero_mul, Int.zero_mul] at eh
  have : T a b q ≠ 0 := by omega
  have := Int.mul_ne_zero this (show ht N c - ht N q ≠ 0 by omega); omega
 have z3 : ¬ (T c a q = 0 ∧ T a b q = 0) := by
  rintro ⟨k1, k2⟩; rw [k1, k2, Int.zero_mul, Int.zero_mul] at eh
  have : T b c q ≠ 0 := by omega
  have := Int.mul_ne_zero this (show ht N a - ht N q ≠ 0 by omega); omega
 have lo : ¬ (ht N q < ht N a ∧ ht N q < ht N b ∧ ht N q < ht N c) := by
  rintro ⟨k1, k2, k3⟩
  have m1 := mzz i2 (show 0 ≤ ht N a - ht N q by omega)
  have m2 := mzz i3 (show 0 ≤ ht N b - ht N q by omega)
  have m3 := mzz i1 (show 0 ≤ ht N c - ht N q by omega)
  have : T b c q = 0 ∨ 0 < T b c q := by omega
  rcases this with t | t
  ·have : T c a q = 0 ∨ 0 < T c a q := by omega
   rcases this with t2 | t2
   ·exact z2 ⟨t, t2⟩
   ·have := mpp t2 (show 0 < ht N b - ht N q by omega); omega
  ·have := mpp t (show 0 < ht N a - ht N q by omega); omega
 have hi : ¬ (ht N a < ht N q ∧ ht N b < ht N q ∧ ht N c < ht N q) := by
  rintro ⟨k1, k2, k3⟩
  have m1 := mzn i2 (show ht N a - ht N q ≤ 0 by omega)
  have m2 := mzn i3 (show ht N b - ht N q ≤ 0 by omega)
  have m3 := mzn i1 (show ht N c - ht N q ≤ 0 by omega)
  have : T b c q = 0 ∨ 0 < T b c q := by omega
  rcases this with t | t
  ·have : T c a q = 0 ∨ 0 < T c a q := by omega
   rcases this with t2 | t2
   ·exact z2 ⟨t, t2⟩
   ·have := mpn t2 (show ht N b - ht N q < 0 by omega); omega
  ·have := mpn t (show ht N a - ht N q < 0 by omega); omega
 have s1 := T_swap a b q; have s2 := T_swap b c q; have s3 := T_swap c a q
 have a0 := w_cases (N := N) (.inl rfl) a b q; have b0 := w_cases (N := N) (.inl rfl) b c q; have c0 := w_cases (N := N) (.inl rfl) c a q
 have a1 := w_cases (N := N) (.inr rfl) a b q; have b1 := w_cases (N := N) (.inr rfl) b c q; have c1 := w_cases (N := N) (.inr rfl) c a q
 clear eh e h
 rw [if_neg (c := 0 < T b a q + 0) (by omega), if_pos (c := 0 < T a b q + 1) (by omega)] at *
 rw [if_neg (c := 0 < T c b q + 0) (by omega), if_pos (c := 0 < T b c q + 1) (by omega)] at *
 rw [if_neg (c := 0 < T a c q + 0) (by omega), if_pos (c := 0 < T c a q + 1) (by omega)] at *
 by_cases k : w N 0 a b q + w N 0 b c q + w N 0 c a q = 1
 ·exact ⟨0, .inl rfl, k⟩
 ·refine ⟨1, .inr rfl, ?_⟩
  generalize w N 0 a b q = wa0 at *; generalize w N 0 b c q = wb0 at *; generalize w N 0 c a q = wc0 at *
  generalize w N 1 a b q = wa1 at *; generalize w N 1 b c q = wb1 at *; generalize w N 1 c a q = wc1 at *
  rcases a1 with ⟨p1, p2, e1⟩ | ⟨p1, p2, e1⟩ | ⟨p1, e1⟩ <;> rcases b1 with ⟨q1, q2, e2⟩ | ⟨q1, q2, e2⟩ | ⟨q1, e2⟩ <;> rcases c1 with ⟨r1, r2, e3⟩ | ⟨r1, r2, e3⟩ | ⟨r1, e3⟩ <;> (try (clear a0 b0 c0; omega)) <;>
  rcases a0 with ⟨f1, f2, g1⟩ | ⟨f1, f2, g1⟩ | ⟨f1, g1⟩ <;> (try (clear b0 c0; omega)) <;> rcases b0 with ⟨f3, f4, g2⟩ | ⟨f3, f4, g2⟩ | ⟨f3, g2⟩ <;> (try (clear c0; omega)) <;> rcases c0 with ⟨f5, f6, g3⟩ | ⟨f5, f6, g3⟩ | ⟨f5, g3⟩ <;> (try omega) <;>
  (repeat' split at *) <;> omega
theorem triIn {N s : Int} (hs : s = 1 ∨ s = -1) {u b v q : Pt} (h : 0 < s * T u b v) (i : InT s u b v q) (hu : ht N q ≠ ht N u) (hb : ht N q ≠ ht N b) (hv : ht N q ≠ ht N v) :
  ∃ X, (X = 0 ∨ X = 1) ∧ s * Wd N X [u, b, v] q = 1 := by
 obtain ⟨i1, i2, i3⟩ := i
 rcases hs with rfl | rfl
 ·rw [Int.one_mul] at *
  obtain ⟨X, hX, e⟩ := tri_in1 h i1 i2 i3 hu hb hv
  exact ⟨X, hX, by rw [Wd_three, Int.one_mul]; exact e⟩
 ·have s1 := T_swap u b q; have s2 := T_swap b v q; have s3 := T_swap v u q; have s4 := T_swap3 u b v
  obtain ⟨X, hX, e⟩ := tri_in1 (N := N) (a := v) (b := b) (c := u) (q := q) (by omega) (by omega) (by omega) (by omega) hv hb hu
  refine ⟨X, hX, ?_⟩
  have := Wd_back3 N X u b v q
  rw [Wd_three] at this; omega

def Inj (N : Int) (P : List Pt) : Prop := ∀ x ∈ P, ∀ y ∈ P, ht N x = ht N y → x = y
theorem Inj.ne {N : Int} {P : List Pt} (h : Inj N P) {x y : Pt} (hx : x ∈ P) (hy : y ∈ P) (n : x ≠ y) : ht N x ≠ ht N y := fun e => n (h x hx y hy e)
theorem Inj.mono {N : Int} {P Q : List Pt} (h : Inj N P) (k : ∀ x ∈ Q, x ∈ P) : Inj N Q := fun x hx y hy => h x (k x hx) y (k y hy)
def Ori (N s : Int) (P : List Pt) : Prop := (s = 1 ∨ s = -1) ∧ ∃ b v M u, Sp P b (v :: (M ++ [u])) ∧ (∀ q ∈ v :: (M ++ [u]), ht N b < ht N q) ∧ 0 < s * T u b v

theorem gl (v u : Pt) (M : List Pt) (h : v :: (M ++ [u]) ≠ []) : (v :: (M ++ [u])).getLast h = u := by
 show ((v :: M) ++ [u]).getLast _ = u
 exact List.getLast_concat
theorem gl? (v u : Pt) (M : List Pt) : (v :: (M ++ [u])).getLast? = some u := by
 show ((v :: M) ++ [u]).getLast? = some u
 exact List.getLast?_concat
theorem low_ex (N : Int) : ∀ P : List Pt, P ≠ [] → ∃ b ∈ P, ∀ q ∈ P, ht N b ≤ ht N q
 | [], h => absurd rfl h
 | [a], _ => ⟨a, by simp, by simp⟩
 | a :: c :: r, _ => by
  obtain ⟨b, hb, h⟩ := low_ex N (c :: r) (by simp)
  by_cases k : ht N a ≤ ht N b
  ·refine ⟨a, by simp, fun q hq => ?_⟩
   rw [List.mem_cons] at hq
   rcases hq with rfl | hq
   ·omega
   ·have := h q hq; omega
  ·refine ⟨b, List.mem_cons_of_mem _ hb, fun q hq => ?_⟩
   rw [List.mem_cons] at hq
   rcases hq with rfl | hq
   ·omega
   ·exact h q hq
theorem Sp.nd {P : List Pt} {w : Pt} {R : List Pt} (h : Sp P w R) (nd : P.Nodup) : (w :: R).Nodup := by
 obtain ⟨A, B, rfl, rfl⟩ := h
 have := nd
 rw [List.nodup_append] at this
 have h2 := this.2.1
 rw [← List.cons_append, List.nodup_append]
 exact ⟨h2, this.1, fun a ha b hb e => this.2.2 b hb a ha e.symm⟩
theorem Ori.ex {N : Int} {P : List Pt} (hP : Sim P) (hi : Inj N P) : ∃ s, Ori N s P := by
 obtain ⟨b, hb, hl⟩ := low_ex N P (by rintro rfl; have := hP.len; simp at this)
 obtain ⟨R, hR⟩ := Sp.ex hb
 have hlen := hR.len
 have hP3 := hP.len
 obtain ⟨v, M, u, rfl⟩ := ends2 (R := R) (by omega)
 have nd := hR.nd hP.nd
 rw [List.nodup_cons] at nd
 have low : ∀ q ∈ v :: (M ++ [u]), ht N b < ht N q := by
  intro q hq
  have hqP := (hR.mem q).mpr (.inr hq)
  have := hl q hqP
  have := hi.ne hb hqP (by rintro rfl; exact nd.1 hq)
  omega
 have S1 := hR.sim hP
 have e1 : (u, b) ∈ cyc (b :: v :: (M ++ [u])) := by
  have : b :: v :: (M ++ [u]) = b :: ((v :: M) ++ [u]) := rfl
  rw [this, cyc_path]; simp
 have e2 : (b, v) ∈ cyc (b :: v :: (M ++ [u])) := by
  have : b :: v :: (M ++ [u]) = b :: ((v :: M) ++ [u]) := rfl
  rw [this, cyc_path]; simp [ed]
 have ad := S1.ad _ e1 _ e2 rfl
 have hu := low u (by simp)
 have hv := low v (by simp)
 have ne : T u b v ≠ 0 := by
  intro h0
  by_cases k : ht N u ≤ ht N v
  ·exact ad.1 (on_of (-1) N 0 (by rw [T_cyc]; exact h0) hv (Int.le_of_lt hu) k)
  ·exact ad.2 (on_of' (-1) N 0 h0 hu (Int.le_of_lt hv) (Int.le_of_lt (Int.not_le.mp k)))
 rcases Int.lt_or_gt_of_ne ne with h | h
 ·exact ⟨-1, .inr rfl, b, v, M, u, hR, low, by omega⟩
 ·exact ⟨1, .inl rfl, b, v, M, u, hR, low, by omega⟩
theorem Ori.uniq {N s t : Int} {P : List Pt} (nd : P.Nodup) (h : Ori N s P) (k : Ori N t P) : s = t := by
 obtain ⟨hs, b, v, M, u, h1, h2, h3⟩ := h
 obtain ⟨ht, b', v', M', u', k1, k2, k3⟩ := k
 have hb : b = b' := by
  have m1 := (h1.mem b').mp ((k1.mem b').mpr (.inl rfl))
  have m2 := (k1.mem b).mp ((h1.mem b).mpr (.inl rfl))
  rcases m1 with rfl | m1
  ·rfl
  ·rcases m2 with rfl | m2
   ·rfl
   ·have := h2 _ m1; have := k2 _ m2; omega
 subst hb
 have e := Sp.uniq nd h1 k1
 rw [List.cons.injEq] at e
 obtain ⟨rfl, e⟩ := e
 have e2 := congrArg (·.getLast?) e
 simp at e2
 subst e2
 rcases hs with rfl | rfl <;> rcases ht with rfl | rfl <;> omega
theorem Ori.rot {N s : Int} {A B : List Pt} (h : Ori N s (A ++ B)) : Ori N s (B ++ A) := by
 obtain ⟨hs, b, v, M, u, h1, h2⟩ := h
 exact ⟨hs, b, v, M, u, h1.of_rot, h2⟩

theorem pw_low (N X : Int) (b : Pt) : ∀ l : List Pt, (∀ x ∈ l, ht N b < ht N x) → pw N X l b = 0
 | [], _ => rfl
 | [_], _ => rfl
 | x :: y :: r, h => by
  rw [pw_two, pw_low N X b (y :: r) (fun z hz => h z (List.mem_cons_of_mem _ hz))]
  have h1 := h x (by simp); have h2 := h y (by simp)
  unfold w; rw [if_neg (by omega), if_neg (by omega)]; rfl
theorem low_zero {N X : Int} (hX : X = 0 ∨ X = 1) {a b c p : Pt} {L : List Pt} (hl : ∀ x ∈ c :: (L ++ [p]), ht N b < ht N x) (ha : ht N b < ht N a) (hn : ∀ x ∈ c :: (L ++ [p]), ht N x ≠ ht N a)
  (D : ∀ e ∈ ed (c :: (L ++ [p])), Dis e.1 e.2 b a) (sg : 0 < T b c a ∧ 0 < T b p a ∨ T b c a < 0 ∧ T b p a < 0) : Wd N X (b :: c :: (L ++ [p])) a = 0 := by
 have e : b :: c :: (L ++ [p]) = b :: ((c :: L) ++ [p]) := rfl
 rw [e, Wd_path, List.cons_append, pw_two]
 have st := path_strip hX ha (L ++ [p]) c D (fun x hx => ⟨by have := hl x hx; omega, hn x hx⟩)
 rw [pw_low N X b _ hl] at st
 have hlast : (c :: (L ++ [p])).getLast (List.cons_ne_nil _ _) = p := gl _ _ _ _
 rw [hlast] at st
 have hc := hl c (by simp); have hp := hl p (by simp)
 have nc := hn c (by simp); have np := hn p (by simp)
 have s1 := T_swap2 b c a; have s2 := T_swap2 b p a
 have v1 : w N X b c a + S N b a c = if 0 < T b c a then 1 else 0 := by
  by_cases k : ht N a < ht N c
  ·rw [S_out (by omega)]
   by_cases t : 0 < T b c a
   ·rw [w_one ⟨by omega, k⟩ (by omega), if_pos t]; rfl
   ·rw [w_zero (by omega) (by omega), if_neg t]; rfl
  ·rw [w_out (by omega) (by omega)]
   by_cases t : 0 < T b c a
   ·rw [S_one ⟨hc, by omega⟩ (by omega), if_pos t]; rfl
   ·rw [S_zero (by omega), if_neg t]; rfl
 have v2 : w N X b p a + S N b a p = if 0 < T b p a then 1 else 0 := by
  by_cases k : ht N a < ht N p
  ·rw [S_out (by omega)]
   by_cases t : 0 < T b p a
   ·rw [w_one ⟨by omega, k⟩ (by omega), if_pos t]; rfl
   ·rw [w_zero (by omega) (by omega), if_neg t]; rfl
  ·rw [w_out (by omega) (by omega)]
   by_cases t : 0 < T b p a
   ·rw [S_one ⟨hp, by omega⟩ (by omega), if_pos t]; rfl
   ·rw [S_zero (by omega), if_neg t]; rfl
 rw [w_swap N X b p a]
 rcases sg with ⟨g1, g2⟩ | ⟨g1, g2⟩
 ·rw [if_pos g1] at v1; rw [if_pos g2] at v2; omega
 ·rw [if_neg (by omega)] at v1; rw [if_neg (by omega)] at v2; omega

theorem seg_const {N X : Int} (hX : X = 0 ∨ X = 1) {Q : List Pt} {q r : Pt} (D : ∀ e ∈ cyc Q, Dis e.1 e.2 q r) (hn : ∀ x ∈ Q, ht N x ≠ ht N q ∧ ht N x ≠ ht N r) (hqr : ht N q ≠ ht N r) : Wd N X Q q = Wd N X Q r := by
 cases Q with
 | nil => rfl
 | cons a Q =>
  have hn' : ∀ x ∈ a :: (Q ++ [a]), ht N x ≠ ht N q ∧ ht N x ≠ ht N r := by
   intro x hx; simp at hx; rcases hx with h | h | h <;> exact hn x (by simp [h])
  have hl : (a :: (Q ++ [a])).getLast (List.cons_ne_nil _ _) = a := gl _ _ _ _
  rcases Int.lt_or_gt_of_ne hqr with h | h
  ·have := path_strip hX h (Q ++ [a]) a D hn'
   rw [hl] at this
   show pw N X (a :: (Q ++ [a])) q = pw N X (a :: (Q ++ [a])) r; omega
  ·have := path_strip hX h (Q ++ [a]) a (fun e he => (D e he).flip2) (fun x hx => ⟨(hn' x hx).2, (hn' x hx).1⟩)
   rw [hl] at this
   show pw N X (a :: (Q ++ [a])) q = pw N X (a :: (Q ++ [a])) r; omega
theorem chain_head {N X : Int} (hX : X = 0 ∨ X = 1) {Q : List Pt} : ∀ (L : List Pt) (h : Pt), (∀ f ∈ ed (h :: L), ∀ e ∈ cyc Q, Dis e.1 e.2 f.1 f.2) → (∀ x ∈ Q, ∀ y ∈ h :: L, ht N x ≠ ht N y) → Inj N (h :: L) → (h :: L).Nodup →
  ∀ y ∈ h :: L, Wd N X Q y = Wd N X Q h
 | [], h, _, _, _, _, y, hy => by simp at hy; rw [hy]
 | k :: L, h, D, hn, hi, nd, y, hy => by
  rw [List.mem_cons] at hy
  rcases hy with rfl | hy
  ·rfl
  ·have ih := chain_head hX L k (fun f hf => D f (by rw [ed]; exact List.mem_cons_of_mem _ hf)) (fun x hx z hz => hn x hx z (List.mem_cons_of_mem _ hz)) (hi.mono (fun x hx => List.mem_cons_of_mem _ hx)) (by rw [List.nodup_cons] at nd; exact nd.2) y hy
   rw [ih]
   have hhk : h ≠ k := by rw [List.nodup_cons] at nd; intro e; apply nd.1; simp [e]
   exact (seg_const hX (D (h, k) (by rw [ed]; simp)) (fun x hx => ⟨hn x hx h (by simp), hn x hx k (by simp)⟩) (hi.ne (by simp) (by simp) hhk)).symm
theorem chain_const {N X : Int} (hX : X = 0 ∨ X = 1) {Q L : List Pt} (D : ∀ f ∈ ed L, ∀ e ∈ cyc Q, Dis e.1 e.2 f.1 f.2) (hn : ∀ x ∈ Q, ∀ y ∈ L, ht N x ≠ ht N y) (hi : Inj N L) (nd : L.Nodup) {y z : Pt} (hy : y ∈ L) (hz : z ∈ L) : Wd N X Q y = Wd N X Q z := by
 cases L with
 | nil => simp at hy
 | cons h L => rw [chain_head hX L h D hn hi nd y hy, chain_head hX L h D hn hi nd z hz]

theorem Wd_diag (N X : Int) (b p : Pt) (A B : List Pt) (z : Pt) : Wd N X (b :: (A ++ p :: B)) z = Wd N X (b :: (A ++ [p])) z + Wd N X (p :: (B ++ [b])) z := by
 have h1 : Wd N X (b :: (A ++ p :: B)) z = pw N X ((b :: A) ++ p :: (B ++ [b])) z := by simp [Wd]
 rw [h1, pw_split, Wd_path, Wd_path, w_swap N X b p z]; simp; omega
theorem Wd_ear (N X : Int) (a v u : Pt) (M : List Pt) (z : Pt) : Wd N X (a :: v :: (M ++ [u])) z = Wd N X [u, a, v] z + Wd N X (v :: (M ++ [u])) z := by
 have : a :: v :: (M ++ [u]) = a :: ((v :: M) ++ [u]) := rfl
 rw [this, Wd_path, Wd_path, Wd_three, List.cons_append, pw_two, w_swap N X u v z]; omega
theorem Wd_two0 (N X : Int) (a b z : Pt) : Wd N X [a, b] z = 0 := by
 simp only [Wd, pw, List.cons_append, List.nil_append]; rw [w_swap N X a b z]; omega

def Ear (s : Int) (a : Pt) (R : List Pt) : Prop := ∃ v u, R.head? = some v ∧ R.getLast? = some u ∧ 0 < s * T u a v ∧ ∀ q ∈ R, q ≠ u → q ≠ v → ¬ InT s u a v q
theorem Ear.of {s : Int} {a v u : Pt} {M : List Pt} (h : 0 < s * T u a v) (k : ∀ q ∈ M, ¬ InT s u a v q) : Ear s a (v :: (M ++ [u])) :=
 ⟨v, u, rfl, gl? _ _ _, h, fun q hq n1 n2 => by simp at hq; rcases hq with rfl | hq | rfl; exact absurd rfl n2; exact k q hq; exact absurd rfl n1⟩
theorem Ear.to {s : Int} {a v u : Pt} {M : List Pt} (nd : (v :: (M ++ [u])).Nodup) (h : Ear s a (v :: (M ++ [u]))) : 0 < s * T u a v ∧ ∀ q ∈ M, ¬ InT s u a v q := by
 obtain ⟨v', u', h1, h2, h3, h4⟩ := h
 rw [gl?] at h2; simp at h1 h2; subst h1; subst h2
 rw [List.nodup_cons, List.nodup_append] at nd
 exact ⟨h3, fun q hq => h4 q (by simp [hq]) (fun e => nd.2.2.2 q hq u (by simp) e) (fun e => nd.1 (by simp [← e, hq]))⟩
theorem on_InT {s : Int} {u b v q : Pt} (hD : 0 < s * T u b v) (ho : On u v q) : InT s u b v q := by
 have b1 := ho.btT s u b
 have b2 := ho.btT s b v
 rw [T_aba] at b1; rw [T_abb, T_cyc] at b2
 unfold Bt at b1 b2
 refine ⟨by omega, by omega, ?_⟩
 rw [T_swap, ho.1]; omega
theorem low_notin {N s : Int} {u a v b : Pt} (hD : 0 < s * T u a v) (hu : ht N b < ht N u) (ha : ht N b < ht N a) (hv : ht N b < ht N v) : ¬ InT s u a v b := by
 rintro ⟨h1, h2, h3⟩
 have e : s * T u a v = s * T a v b + s * T v u b + s * T u a b := tri_sum s u a v b
 have eh : (s * T a v b) * (ht N u - ht N b) + (s * T v u b) * (ht N a - ht N b) + (s * T u a b) * (ht N v - ht N b) = 0 := by unfold ht aff T; grind
 have m1 := mzz h2 (show 0 ≤ ht N u - ht N b by omega)
 have m2 := mzz h3 (show 0 ≤ ht N a - ht N b by omega)
 have m3 := mzz h1 (show 0 ≤ ht N v - ht N b by omega)
 have : 0 < s * T a v b ∨ 0 < s * T v u b ∨ 0 < s * T u a b := by omega
 rcases this with t | t | t
 ·have := mpp t (show 0 < ht N u - ht N b by omega); omega
 ·have := mpp t (show 0 < ht N a - ht N b by omega); omega
 ·have := mpp t (show 0 < ht N v - ht N b by omega); omega
theorem cyc_ends (a v u : Pt) (M : List Pt) : cyc (a :: v :: (M ++ [u])) = (a, v) :: (ed (v :: (M ++ [u])) ++ [(u, a)]) := by
 have : a :: v :: (M ++ [u]) = a :: ((v :: M) ++ [u]) := rfl
 rw [this, cyc_path, List.cons_append, ed]; rfl
theorem Ear.sim {s : Int} (hs : s = 1 ∨ s = -1) {a v u : Pt} {M : List Pt} (hP : Sim (a :: v :: (M ++ [u]))) (hM : M ≠ []) (h : Ear s a (v :: (M ++ [u]))) : Sim (v :: (M ++ [u])) := by
 have nd := hP.nd
 have nd1 := List.nodup_cons.mp nd
 have nd2 := List.nodup_cons.mp nd1.2
 have nd3 := List.nodup_append.mp nd2.2
 obtain ⟨hD, hE⟩ := h.to nd1.2
 have ce := cyc_ends a v u M
 have sub : ∀ e ∈ ed (v :: (M ++ [u])), e ∈ cyc (a :: v :: (M ++ [u])) := fun e he => by rw [ce]; simp [he]
 have ua : (u, a) ∈ cyc (a :: v :: (M ++ [u])) := by rw [ce]; simp
 have av : (a, v) ∈ cyc (a :: v :: (M ++ [u])) := by rw [ce]; simp
 refine hP.sub hM sub nd1.2 (fun x hx => List.mem_cons_of_mem _ hx) ?_ ?_
 ·intro f hf n1 n2 n3 n4
  have m := ed_mem _ f hf
  have mf1 : f.1 ∈ M := by have := m.1; simp at this; rcases this with h | h | h; exact absurd h n1; exact h; exact absurd h n2
  have mf2 : f.2 ∈ M := by have := m.2; simp at this; rcases this with h | h | h; exact absurd h n3; exact h; exact absurd h n4
  have fa1 : f.1 ≠ a := fun e => nd1.1 (e ▸ m.1)
  have fa2 : f.2 ≠ a := fun e => nd1.1 (e ▸ m.2)
  refine cut hs hD (hE _ mf1) (hE _ mf2) (fun _ _ => ?_) (fun _ _ => ?_) ?_ ?_
  ·exact hP.na f (sub f hf) (u, a) ua n4 (fun e => fa1 e.symm) (fun e => n2 (by rw [e]))
  ·exact hP.na f (sub f hf) (a, v) av fa2 (fun e => n1 e.symm) (fun e => fa1 (by rw [e]))
  ·exact hP.off (sub f hf) (by simp) (fun e => n2 e.symm) (fun e => n4 e.symm)
  ·exact hP.off (sub f hf) (by simp) (fun e => n1 e.symm) (fun e => n3 e.symm)
 ·intro q hq ho
  exact hE q hq (on_InT hD ho)

theorem adj1 {s : Int} (hs : s = 1 ∨ s = -1) {u b v m : Pt} (h1 : 0 < s * T u b v) (h2 : 0 < s * T b v m) (h3 : ¬ InT s b v m u) (D : Dis u b v m) : 0 < s * T u b m := by
  by_cases k : 0 < s * T u b m
  · exact k
  exfalso
  have e1 : s * T b v u = s * T u b v := by rw [T_cyc]
  have e2 : s * T m b u = - (s * T u b m) := by rw [T_swap3 u b m, Int.mul_neg]
  have hlt : s * T v m u < 0 := by
    by_cases t : 0 ≤ s * T v m u
    · exact absurd ⟨by omega, t, by omega⟩ h3
    · omega
  have e3 : s * T v m b = s * T b v m := by rw [T_cyc]
  by_cases z : s * T u b m = 0
  · have z' : T u b m = 0 := by rcases hs with rfl | rfl <;> omega
    exact D.2.1 (on_T (s := s) (u := v) (b := m) z' (by omega) (by rw [T_abb]; omega) (by rw [T_abb]; omega))
  · exact D.2.2.2.2 ⟨opp_s hs (.inr ⟨h1, by omega⟩), opp_s hs (.inl ⟨hlt, by omega⟩)⟩
theorem adj2 {s : Int} (hs : s = 1 ∨ s = -1) {u b v m : Pt} (h1 : 0 < s * T u b v) (h2 : 0 < s * T m u b) (h3 : ¬ InT s m u b v) (D : Dis b v m u) : 0 < s * T m b v := by
  by_cases k : 0 < s * T m b v
  · exact k
  exfalso
  have e2 : s * T b m v = - (s * T m b v) := by rw [T_swap m b v, Int.mul_neg]
  have hlt : s * T m u v < 0 := by
    by_cases t : 0 ≤ s * T m u v
    · exact absurd ⟨t, by omega, by omega⟩ h3
    · omega
  have e3 : s * T b v u = s * T u b v := by rw [T_cyc]
  have e4 : s * T b v m = s * T m b v := by rw [T_cyc]
  by_cases z : s * T m b v = 0
  · have z' : T b v m = 0 := by rw [T_cyc]; rcases hs with rfl | rfl <;> omega
    refine D.1 (On.swap (on_T (s := s) (u := m) (b := u) ?_ ?_ ?_ ?_))
    · rw [T_swap, z']; rfl
    · omega
    · rw [T_aba]; omega
    · rw [T_aba]; omega
  · exact D.2.2.2.2 ⟨opp_s hs (.inl ⟨by omega, by omega⟩), opp_s hs (.inr ⟨h2, hlt⟩)⟩
theorem tri4 {N s : Int} (hs : s = 1 ∨ s = -1) {u b v q : Pt} (h1 : 0 < s * T u b v) (h3 : ¬ InT s u b v q) (D1 : Dis q u b v) (D2 : Dis v q u b) (hu : ht N b < ht N u) (hv : ht N b < ht N v) (hq : ht N b < ht N q) (ne : T v q u ≠ 0) : 0 < s * T v q u := by
  by_cases k : 0 < s * T v q u
  · exact k
  exfalso
  have e0 : s * T v u q = - (s * T v q u) := by rw [T_swap2 v q u, Int.mul_neg]
  have hd : 0 < s * T v u q := by rcases hs with rfl | rfl <;> omega
  have ts := tri_sum s u b v q
  have eh : (s * T u b v) * (ht N q - ht N b) = (s * T b v q) * (ht N u - ht N b) + (s * T u b q) * (ht N v - ht N b) := by unfold ht aff T; grind
  have m0 := mpp h1 (show 0 < ht N q - ht N b by omega)
  have n1 : ¬ (s * T b v q ≤ 0 ∧ s * T u b q ≤ 0) := by
    rintro ⟨x, y⟩
    have := mnz x (show 0 ≤ ht N u - ht N b by omega)
    have := mnz y (show 0 ≤ ht N v - ht N b by omega)
    omega
  have n2 : ¬ (0 ≤ s * T b v q ∧ 0 ≤ s * T u b q) := fun x => h3 ⟨x.2, x.1, Int.le_of_lt hd⟩
  have f1 : s * T q u b = s * T u b q := by rw [T_cyc2 u b q]
  have f2 : s * T q u v = - (s * T v u q) := by rw [T_swap3 v u q, Int.mul_neg]
  have f3 : s * T b v u = s * T u b v := by rw [T_cyc]
  have f4 : s * T v q b = s * T b v q := by rw [T_cyc]
  by_cases t : s * T b v q < 0
  · exact D1.2.2.2.2 ⟨opp_s hs (.inr ⟨by omega, by omega⟩), opp_s hs (.inl ⟨by omega, by omega⟩)⟩
  · exact D2.2.2.2.2 ⟨opp_s hs (.inl ⟨by omega, by omega⟩), opp_s hs (.inr ⟨by omega, by omega⟩)⟩
theorem far_ex (s : Int) (u b v : Pt) : ∀ M : List Pt, (∃ q ∈ M, InT s u b v q) → ∃ p ∈ M, InT s u b v p ∧ ∀ q ∈ M, InT s u b v q → s * T v u q ≤ s * T v u p
  | [], h => by obtain ⟨q, hq, _⟩ := h; simp at hq
  | m :: M, h => by
    by_cases k : ∃ q ∈ M, InT s u b v q
    · obtain ⟨p, hp, hi, hm⟩ := far_ex s u b v M k
      by_cases c : InT s u b v m ∧ s * T v u p ≤ s * T v u m
      · refine ⟨m, by simp, c.1, fun q hq hiq => ?_⟩
        rw [List.mem_cons] at hq
        rcases hq with rfl | hq
        · omega
        · have := hm q hq hiq; omega
      · refine ⟨p, List.mem_cons_of_mem _ hp, hi, fun q hq hiq => ?_⟩
        rw [List.mem_cons] at hq
        rcases hq with rfl | hq
        · by_cases d : s * T v u p ≤ s * T v u q
          · exact absurd ⟨hiq, d⟩ c
          · omega
        · exact hm q hq hiq
    · obtain ⟨q, hq, hiq⟩ := h
      rw [List.mem_cons] at hq
      rcases hq with rfl | hq
      · exact ⟨q, by simp, hiq, fun z hz hiz => by
          rw [List.mem_cons] at hz
          rcases hz with rfl | hz
          · omega
          · exact absurd ⟨z, hz, hiz⟩ k⟩
      · exact absurd ⟨q, hq, hiq⟩ k
theorem tri_out1 {N X : Int} (hX : X = 0 ∨ X = 1) {a b c : Pt} (h : 0 < T a b c) (z : Pt) (k : 1 ≤ w N X a b z + w N X b c z + w N X c a z) : 0 ≤ T a b z ∧ 0 ≤ T b c z ∧ 0 ≤ T c a z := by
  have eh : T b c z * (ht N a - ht N z) + T c a z * (ht N b - ht N z) + T a b z * (ht N c - ht N z) = 0 := by unfold ht aff T; grind
  have e : T a b c = T b c z + T c a z + T a b z := by unfold T; grind
  have s1 := T_swap a b z; have s2 := T_swap b c z; have s3 := T_swap c a z
  have third : ∀ {x y t p q r : Int}, 0 ≤ x → 0 ≤ y → 0 < x + y + t → (0 < p ∧ 0 < q ∧ r ≤ 0 ∨ p ≤ 0 ∧ q ≤ 0 ∧ 0 < r) → x * p + y * q + t * r = 0 → 0 ≤ t := by
    intro x y t p q r hx hy hs ho he
    by_cases n : 0 ≤ t
    · exact n
    exfalso
    rcases ho with ⟨h1, h2, h3⟩ | ⟨h1, h2, h3⟩
    · have m1 := mzz hx (Int.le_of_lt h1); have m2 := mzz hy (Int.le_of_lt h2); have m3 := mnnz (show t ≤ 0 by omega) h3
      have : 0 < x ∨ 0 < y := by omega
      rcases this with g | g
      · have := mpp g h1; omega
      · have := mpp g h2; omega
    · have m1 := mzn hx h1; have m2 := mzn hy h2; have m3 := mnp (show t < 0 by omega) h3; omega
  have t1 : 0 ≤ T a b z → 0 ≤ T b c z → (0 < ht N c - ht N z ∧ 0 < ht N a - ht N z ∧ ht N b - ht N z ≤ 0 ∨ ht N c - ht N z ≤ 0 ∧ ht N a - ht N z ≤ 0 ∧ 0 < ht N b - ht N z) → 0 ≤ T c a z :=
    fun x y o => third x y (by omega) o (by omega)
  have t2 : 0 ≤ T b c z → 0 ≤ T c a z → (0 < ht N a - ht N z ∧ 0 < ht N b - ht N z ∧ ht N c - ht N z ≤ 0 ∨ ht N a - ht N z ≤ 0 ∧ ht N b - ht N z ≤ 0 ∧ 0 < ht N c - ht N z) → 0 ≤ T a b z :=
    fun x y o => third x y (by omega) o (by omega)
  have t3 : 0 ≤ T c a z → 0 ≤ T a b z → (0 < ht N b - ht N z ∧ 0 < ht N c - ht N z ∧ ht N a - ht N z ≤ 0 ∨ ht N b - ht N z ≤ 0 ∧ ht N c - ht N z ≤ 0 ∧ 0 < ht N a - ht N z) → 0 ≤ T b c z :=
    fun x y o => third x y (by omega) o (by omega)
  clear eh third
  rcases w_cases (N := N) hX a b z with ⟨p1, p2, e1⟩ | ⟨p1, p2, e1⟩ | ⟨p1, e1⟩ <;>
  rcases w_cases (N := N) hX b c z with ⟨q1, q2, e2⟩ | ⟨q1, q2, e2⟩ | ⟨q1, e2⟩ <;>
  rcases w_cases (N := N) hX c a z with ⟨r1, r2, e3⟩ | ⟨r1, r2, e3⟩ | ⟨r1, e3⟩ <;> (try (exfalso; clear t1 t2 t3; omega)) <;> rw [e1, e2, e3] at k <;> clear e1 e2 e3
  all_goals (split at k <;> split at k <;> (try (exfalso; clear t1 t2 t3; omega)))
  all_goals (first
    | (have g1 : 0 ≤ T a b z := by omega
       have g2 : 0 ≤ T b c z := by omega
       exact ⟨g1, g2, t1 g1 g2 (by omega)⟩)
    | (have g1 : 0 ≤ T b c z := by omega
       have g2 : 0 ≤ T c a z := by omega
       exact ⟨t2 g1 g2 (by omega), g1, g2⟩)
    | (have g1 : 0 ≤ T c a z := by omega
       have g2 : 0 ≤ T a b z := by omega
       exact ⟨g2, t3 g1 g2 (by omega), g1⟩))
theorem tri_out {N X s : Int} (hX : X = 0 ∨ X = 1) (hs : s = 1 ∨ s = -1) {u b v : Pt} (h : 0 < s * T u b v) (z : Pt) (k : 1 ≤ s * Wd N X [u, b, v] z) : InT s u b v z := by
  rcases hs with rfl | rfl
  · rw [Wd_three] at k; rw [Int.one_mul] at *
    have := tri_out1 hX h z k
    exact ⟨by omega, by omega, by omega⟩
  · have s1 := T_swap u b z; have s2 := T_swap b v z; have s3 := T_swap v u z; have s4 := T_swap3 u b v
    have e := Wd_back3 N X u b v z
    rw [Wd_three] at e
    have := tri_out1 (N := N) hX (a := v) (b := b) (c := u) (by omega) z (by omega)
    exact ⟨by omega, by omega, by omega⟩
theorem tri_zero {N X s : Int} (hX : X = 0 ∨ X = 1) (hs : s = 1 ∨ s = -1) {u b v : Pt} (h : 0 < s * T u b v) {z : Pt} (k : ¬ InT s u b v z) : Wd N X [u, b, v] z = 0 := by
  have := triW (N := N) hX hs h z
  by_cases c : 1 ≤ s * Wd N X [u, b, v] z
  · exact absurd (tri_out hX hs h z c) k
  · rcases hs with rfl | rfl <;> omega
theorem Sp.back {P : List Pt} {b w : Pt} {Q R : List Pt} (h : Sp P b Q) (k : Sp (b :: Q) w R) : Sp P w R := by
  obtain ⟨A, B, rfl, rfl⟩ := h; exact Sp.of_rot (A := b :: B) (B := A) k
theorem Wd_low {N X : Int} {b : Pt} {R : List Pt} (h : ∀ x ∈ R, ht N b < ht N x) : Wd N X R b = 0 := by
  cases R with
  | nil => rfl
  | cons a r => exact pw_low N X b _ (fun x hx => h x (by simp at hx ⊢; rcases hx with h | h | h <;> simp [h]))
theorem Wd_ear' {N X : Int} {a v u : Pt} {R : List Pt} (h : 2 ≤ R.length) (h1 : R.head? = some v) (h2 : R.getLast? = some u) (z : Pt) : Wd N X (a :: R) z = Wd N X [u, a, v] z + Wd N X R z := by
  obtain ⟨v', M, u', rfl⟩ := ends2 h
  rw [gl?] at h2; simp at h1 h2; subst h1; subst h2
  exact Wd_ear N X a _ _ M z

theorem case2 {N s : Int} (hs : s = 1 ∨ s = -1) {b p : Pt} {A B : List Pt} (nd : (b :: (A ++ p :: B)).Nodup) (hi : Inj N (b :: (A ++ p :: B)))
    (hB : ∀ X, X = 0 ∨ X = 1 → ∀ q ∈ B, Wd N X (b :: (A ++ [p])) q = 0) (hA : ∀ X, X = 0 ∨ X = 1 → ∀ q ∈ A, Wd N X (p :: (B ++ [b])) q = 0)
    {a : Pt} {R1 : List Pt} (h1 : Sp (b :: (A ++ [p])) a R1) (n1 : a ≠ p) (n2 : a ≠ b) (hA0 : A ≠ []) (he : Ear s a R1) (hw : ∀ X, X = 0 ∨ X = 1 → Wd N X R1 a = 0)
    (hR : ∀ X, X = 0 ∨ X = 1 → ∀ z, 0 ≤ s * Wd N X R1 z) :
    ∃ R, Sp (b :: (A ++ p :: B)) a R ∧ a ∈ A ∧ Ear s a R ∧ ∀ X, X = 0 ∨ X = 1 → Wd N X R a = 0 := by
  have aA : a ∈ A := by
    have := (h1.mem a).mpr (.inl rfl)
    simp at this; rcases this with h | h | h
    · exact absurd h n2
    · exact h
    · exact absurd h n1
  have nd1 : (b :: (A ++ [p])).Nodup := by
    refine List.Nodup.sublist ?_ nd
    exact List.Sublist.cons_cons _ (List.Sublist.append_left (List.Sublist.cons_cons _ (List.nil_sublist _)) _)
  obtain ⟨C, D, rfl⟩ := List.append_of_mem aA
  have hR1 : R1 = (D ++ [p]) ++ (b :: C) := Sp.uniq nd1 h1 ⟨b :: C, D ++ [p], by simp, rfl⟩
  refine ⟨(D ++ p :: B) ++ (b :: C), ⟨b :: C, D ++ p :: B, by simp, rfl⟩, aA, ?_, ?_⟩
  · obtain ⟨v1, u1, e1, e2, hp, hq⟩ := he
    have lenR : 2 ≤ R1.length := by rw [hR1]; simp; omega
    have v1m : v1 ∈ R1 := List.mem_of_head? e1
    have u1m : u1 ∈ R1 := List.mem_of_getLast? e2
    refine ⟨v1, u1, ?_, ?_, hp, ?_⟩
    · rw [hR1] at e1; cases D <;> simpa using e1
    · rw [hR1, List.getLast?_append] at e2; rw [List.getLast?_append]
      have : (b :: C).getLast? ≠ none := by simp
      cases hc : (b :: C).getLast? with
      | none => exact absurd hc this
      | some y => rw [hc] at e2; simpa using e2
    · intro q hqm q1 q2 hin
      by_cases qB : q ∈ B
      · have sub : ∀ x ∈ R1, x ∈ b :: (C ++ a :: D ++ p :: B) := by
          intro x hx; rw [hR1] at hx; simp at hx ⊢; rcases hx with h | h | h | h <;> simp [h]
        have qP : q ∈ b :: (C ++ a :: D ++ p :: B) := by simp [qB]
        have qa : q ≠ a := by
          rintro rfl
          rw [List.nodup_cons, List.nodup_append] at nd
          exact nd.2.2.2 q aA q (by simp [qB]) rfl
        obtain ⟨X, hX, hw1⟩ := triIn (N := N) hs hp hin (hi.ne qP (sub _ u1m) q1) (hi.ne qP (by simp) qa) (hi.ne qP (sub _ v1m) q2)
        have z := hB X hX q qB
        rw [h1.wd N X q, Wd_ear' lenR e1 e2] at z
        have := hR X hX q
        have : s * (Wd N X [u1, a, v1] q + Wd N X R1 q) = 0 := by rw [z, Int.mul_zero]
        rw [Int.mul_add] at this; omega
      · refine hq q ?_ q1 q2 hin
        rw [hR1]; simp at hqm ⊢
        rcases hqm with h | h | h | h | h
        · simp [h]
        · simp [h]
        · exact absurd h qB
        · simp [h]
        · simp [h]
  · intro X hX
    have r1 := Wd_rot N X (D ++ p :: B) (b :: C) a
    have r2 := Wd_rot N X (D ++ [p]) (b :: C) a
    have e1 : (b :: C) ++ (D ++ p :: B) = b :: ((C ++ D) ++ p :: B) := by simp
    have e2 : (b :: C) ++ (D ++ [p]) = b :: ((C ++ D) ++ [p]) := by simp
    rw [e1, Wd_diag] at r1
    rw [e2, ← hR1, hw X hX] at r2
    rw [r1, ← r2, hA X hX a aA]; rfl
theorem keep_other {N s : Int} (hs : s = 1 ∨ s = -1) {b v u a : Pt} {M R : List Pt} (hP : Sim (b :: v :: (M ++ [u]))) (hM : M ≠ []) (low : ∀ q ∈ v :: (M ++ [u]), ht N b < ht N q) (hD : 0 < s * T u b v)
    (hR : Sp (b :: v :: (M ++ [u])) a R) (hab : a ≠ b) (he : Ear s a R) : Ori N s R := by
  have aR : a ∈ v :: (M ++ [u]) := by
    have := (hR.mem a).mpr (.inl rfl)
    rw [List.mem_cons] at this; exact this.resolve_left hab
  have ndR := (List.nodup_cons.mp hP.nd).2
  have nb := (List.nodup_cons.mp hP.nd).1
  have nv := (List.nodup_cons.mp ndR).1
  have nu := (List.nodup_append.mp (List.nodup_cons.mp ndR).2).2.2
  have ce := cyc_ends b v u M
  obtain ⟨C, D, e⟩ := List.append_of_mem aR
  have hRR : R = D ++ b :: C := Sp.uniq hP.nd hR ⟨b :: C, D, by rw [e]; rfl, rfl⟩
  subst hRR
  refine ⟨hs, ?_⟩
  cases C with
  | nil =>
    simp at e
    obtain ⟨rfl, rfl⟩ := e
    cases M with
    | nil => exact absurd rfl hM
    | cons m M =>
      have he' : Ear s v (m :: ((M ++ [u]) ++ [b])) := by simpa using he
      have ndx : (m :: ((M ++ [u]) ++ [b])).Nodup := by
        have := (List.nodup_cons.mp ndR).2
        have h2 : ((m :: (M ++ [u])) ++ [b]).Nodup := by
          rw [List.nodup_append]
          refine ⟨this, by simp, fun x hx y hy e => ?_⟩
          simp at hy; subst hy; subst e
          exact nb (List.mem_cons_of_mem _ hx)
        simpa using h2
      obtain ⟨q1, q2⟩ := he'.to ndx
      have mu : m ≠ u := nu m (by simp) u (by simp)
      have D1 := hP.na (u, b) (by rw [ce]; simp) (v, m) (by rw [ce]; simp [ed]) (fun k => nb (by rw [show b = v from k]; simp)) mu (fun k => nv (by have := congrArg Prod.fst k; simp at this; rw [← this]; simp))
      refine ⟨b, m, M, u, ⟨m :: (M ++ [u]), [], by simp, by simp⟩, fun q hq => low q (List.mem_cons_of_mem _ hq), adj1 hs hD q1 (q2 u (by simp)) D1⟩
  | cons c C =>
    simp at e
    obtain ⟨rfl, e⟩ := e
    by_cases hDn : D = []
    · subst hDn
      have e' : M ++ [u] = C ++ [a] := e
      obtain ⟨rfl, e2⟩ := List.append_inj' e' rfl
      simp at e2; subst e2
      obtain ⟨M', m, rfl⟩ : ∃ M' m, M = M' ++ [m] := ⟨M.dropLast, M.getLast hM, by rw [List.dropLast_concat_getLast]⟩
      have he' : Ear s u (b :: ((v :: M') ++ [m])) := by simpa using he
      have ndx : (b :: ((v :: M') ++ [m])).Nodup := by
        have h0 : (b :: ((v :: (M' ++ [m])) ++ [u])).Nodup := by simpa using hP.nd
        rw [List.nodup_cons] at h0 ⊢
        refine ⟨fun k => h0.1 (by simp at k ⊢; rcases k with k | k | k <;> simp [k]), ?_⟩
        have := (List.nodup_append.mp h0.2).1; simpa using this
      obtain ⟨q1, q2⟩ := he'.to ndx
      have mv : v ≠ m := fun k => nv (by rw [k]; simp)
      have mem2 : (m, u) ∈ cyc (b :: v :: (M' ++ [m] ++ [u])) := by
        have h0 : v :: (M' ++ [m] ++ [u]) = (v :: M') ++ [m, u] := by simp
        rw [ce, h0, ed_snoc]; simp
      have D1 := hP.na (b, v) (by rw [ce]; simp) (m, u) mem2 mv (fun k => nb (by rw [show b = u from k.symm]; simp)) (fun k => nb (by rw [show b = m from congrArg Prod.fst k]; simp))
      refine ⟨b, v, M', m, ⟨[], v :: (M' ++ [m]), by simp, by simp⟩, fun q hq => low q (by simp at hq ⊢; rcases hq with k | k | k <;> simp [k]), adj2 hs hD q1 (q2 v (by simp)) D1⟩
    · obtain ⟨D', d, rfl⟩ : ∃ D' d, D = D' ++ [d] := ⟨D.dropLast, D.getLast hDn, by rw [List.dropLast_concat_getLast]⟩
      have e' : M ++ [u] = (C ++ a :: D') ++ [d] := by rw [e]; simp
      obtain ⟨rfl, e2⟩ := List.append_inj' e' rfl
      simp at e2; subst e2
      refine ⟨b, v, C ++ D', u, ⟨D' ++ [u], v :: C, by simp, by simp⟩, fun q hq => low q (by simp at hq ⊢; rcases hq with k | k | k | k <;> simp [k]), hD⟩

theorem cyc_diag (b p : Pt) (A B : List Pt) : cyc (b :: (A ++ p :: B)) = ed (b :: (A ++ [p])) ++ ed (p :: (B ++ [b])) := by
 have : cyc (b :: (A ++ p :: B)) = ed ((b :: A) ++ p :: (B ++ [b])) := by simp [cyc]
 rw [this, ed_split]; rfl
theorem ed_cons_sub (a : Pt) (l : List Pt) (e : Pt × Pt) (h : e ∈ ed l) : e ∈ ed (a :: l) := by
 cases l with
 | nil => simp [ed] at h
 | cons b r => rw [ed]; exact List.mem_cons_of_mem _ h
theorem ed_snoc_sub (z : Pt) : ∀ (l : List Pt) (e : Pt × Pt), e ∈ ed l → e ∈ ed (l ++ [z])
 | [], _, h => by simp [ed] at h
 | [_], _, h => by simp [ed] at h
 | a :: b :: r, e, h => by
  rw [ed, List.mem_cons] at h
  rw [List.cons_append, List.cons_append, ed, List.mem_cons]
  rcases h with h | h
  ·exact .inl h
  ·exact .inr (ed_snoc_sub z (b :: r) e h)
theorem diag_on {s : Int} {u b v p q : Pt} (ha : 0 < s * T b v p) (hb : 0 < s * T u b p) (hq : q ≠ p)
  (hh : 0 ≤ s * T u b q → 0 ≤ s * T b v q → s * T v u q ≤ s * T v u p) : ¬ On b p q := by
 have ts := tri_sum s u b v p
 have db : s * T v u b = s * T u b v := by rw [T_cyc2 u b v]
 intro ho
 have b1 := ho.btT s v u
 have b2 := ho.btT s u b
 have b3 := ho.btT s b v
 rw [T_abb] at b2; rw [T_aba] at b3
 unfold Bt at b1 b2 b3
 have hle := hh (by omega) (by omega)
 exact hq (ho.eq_end (s := s) (x := v) (y := u) (u := 0) (v := 0) (by omega) (by omega))
theorem parts_nd {b p : Pt} {A B : List Pt} (nd : (b :: (A ++ p :: B)).Nodup) : b ∉ A ∧ b ≠ p ∧ b ∉ B ∧ p ∉ A ∧ p ∉ B ∧ (∀ x ∈ A, ∀ y ∈ B, x ≠ y) ∧ A.Nodup ∧ B.Nodup := by
 rw [List.nodup_cons, List.nodup_append, List.nodup_cons] at nd
 obtain ⟨h1, h2, ⟨h3, h4⟩, h5⟩ := nd
 simp at h1
 exact ⟨h1.1, h1.2.1, h1.2.2, fun k => h5 p k p (by simp) rfl, h3, fun x hx y hy => h5 x hx y (by simp [hy]), h2, h4⟩

theorem diag_parts {N s : Int} (hs : s = 1 ∨ s = -1) {b v u : Pt} {M : List Pt} (hP : Sim (b :: v :: (M ++ [u]))) (hi : Inj N (b :: v :: (M ++ [u]))) (low : ∀ q ∈ v :: (M ++ [u]), ht N b < ht N q) (hD : 0 < s * T u b v)
  (hin : ∃ q ∈ M, InT s u b v q) :
  ∃ p M1 M2, M = M1 ++ p :: M2 ∧ Sim (b :: ((v :: M1) ++ [p])) ∧ Ori N s (b :: ((v :: M1) ++ [p])) ∧ Sim (p :: ((M2 ++ [u]) ++ [b])) ∧ Ori N s (p :: ((M2 ++ [u]) ++ [b])) ∧
   (∀ X, X = 0 ∨ X = 1 → ∀ q ∈ M2 ++ [u], Wd N X (b :: ((v :: M1) ++ [p])) q = 0) ∧ (∀ X, X = 0 ∨ X = 1 → ∀ q ∈ v :: M1, Wd N X (p :: ((M2 ++ [u]) ++ [b])) q = 0) := by
 obtain ⟨p, hpM, hpi, hpm⟩ := far_ex s u b v M hin
 obtain ⟨M1, M2, rfl⟩ := List.append_of_mem hpM
 have ePL : b :: v :: (M1 ++ p :: M2 ++ [u]) = b :: ((v :: M1) ++ p :: (M2 ++ [u])) := by simp
 rw [ePL] at hP hi
 obtain ⟨hbA, hbp, hbB, hpA, hpB, hAB, ndA, ndB⟩ := parts_nd hP.nd
 have hcyc := cyc_diag b p (v :: M1) (M2 ++ [u])
 have ce := cyc_ends b v u (M1 ++ p :: M2)
 rw [ePL] at ce
 have m_ub : (u, b) ∈ cyc (b :: ((v :: M1) ++ p :: (M2 ++ [u]))) := by rw [ce]; simp
 have m_bv : (b, v) ∈ cyc (b :: ((v :: M1) ++ p :: (M2 ++ [u]))) := by rw [ce]; simp
 have hvp : v ≠ p := fun e => hpA (by simp [e])
 have hup : u ≠ p := fun e => hpB (by simp [e])
 have huv : u ≠ v := fun e => hAB v (by simp) u (by simp) e.symm
 have hub : u ≠ b := fun e => hbB (by simp [← e])
 have hvb : v ≠ b := fun e => hbA (by simp [← e])
 have ts := tri_sum s u b v p
 obtain ⟨i1, i2, i3⟩ := hpi
 have aff1 : s * T b v u = s * T u b v := by rw [T_cyc]
 have ha : 0 < s * T b v p := by
  by_cases k : s * T b v p = 0
  ·exfalso
   have z : T b v p = 0 := by rcases hs with rfl | rfl <;> omega
   exact hP.off m_bv (by simp) hbp.symm hvp.symm (on_T (s := s) (u := u) (b := b) (x := b) (y := v) z (by rw [T_abb]; omega) (by rw [T_abb]; omega) (by omega))
  ·omega
 have hb : 0 < s * T u b p := by
  by_cases k : s * T u b p = 0
  ·exfalso
   have z : T u b p = 0 := by rcases hs with rfl | rfl <;> omega
   refine hP.off m_ub (by simp) hup.symm hbp.symm (On.swap (on_T (s := s) (u := b) (b := v) (x := b) (y := u) ?_ ?_ ?_ ?_))
   ·rw [T_swap, z]; rfl
   ·rw [T_aba]; omega
   ·rw [T_aba]; omega
   ·omega
  ·omega
 have hd : 0 ≤ s * T v u p := i3
 have far : ∀ x ∈ b :: ((v :: M1) ++ p :: (M2 ++ [u])), x ≠ b → 0 ≤ s * T u b x → 0 ≤ s * T b v x → s * T v u x ≤ s * T v u p := by
  intro x hx nxb k1 k2
  by_cases c : 0 ≤ s * T v u x
  ·by_cases xv : x = v
   ·subst xv; rw [T_aba]; omega
   ·by_cases xu : x = u
    ·subst xu; rw [T_abb]; omega
    ·refine hpm x ?_ ⟨k1, k2, c⟩
     simp at hx ⊢
     rcases hx with h | h | h | h | h | h
     ·exact absurd h nxb
     ·exact absurd h xv
     ·simp [h]
     ·simp [h]
     ·simp [h]
     ·exact absurd h xu
  ·omega
 have hdis : ∀ f ∈ cyc (b :: ((v :: M1) ++ p :: (M2 ++ [u]))), f.1 ≠ b → f.1 ≠ p → f.2 ≠ b → f.2 ≠ p → Dis b p f.1 f.2 := by
  intro f hf n1 n2 n3 n4
  have m := cyc_mem _ f hf
  refine diag hs hD ha hb hd n2 n4 (far _ m.1 n1) (far _ m.2 n3) (fun _ k => ?_) (fun k _ => ?_) ?_ ?_
  ·exact hP.na f hf (u, b) m_ub k (fun e => n1 e.symm) (fun e => n3 (by rw [e]))
  ·exact hP.na f hf (b, v) m_bv n3 (fun e => k e.symm) (fun e => n1 (by rw [e]))
  ·exact hP.off hf (by simp) (fun e => n1 e.symm) (fun e => n3 e.symm)
  ·exact hP.off hf (by simp) (fun e => n2 e.symm) (fun e => n4 e.symm)
 have hon : ∀ q ∈ b :: ((v :: M1) ++ p :: (M2 ++ [u])), q ≠ b → q ≠ p → ¬ On b p q := fun q hq n1 n2 => diag_on ha hb n2 (far q hq n1)
 have sub1 : ∀ e ∈ ed (b :: ((v :: M1) ++ [p])), e ∈ cyc (b :: ((v :: M1) ++ p :: (M2 ++ [u]))) := fun e he => by rw [hcyc]; simp only [List.mem_append]; exact .inl he
 have sub2 : ∀ e ∈ ed (p :: ((M2 ++ [u]) ++ [b])), e ∈ cyc (b :: ((v :: M1) ++ p :: (M2 ++ [u]))) := fun e he => by rw [hcyc]; simp only [List.mem_append]; exact .inr he
 have nd1 : (b :: ((v :: M1) ++ [p])).Nodup := by
  rw [List.nodup_cons, List.nodup_append]
  exact ⟨fun k => by rw [List.mem_append] at k; rcases k with k | k; exact hbA k; simp at k; exact hbp k, ndA, by simp, fun x hx y hy e => by simp at hy; subst hy; subst e; exact hpA hx⟩
 have nd2 : (p :: ((M2 ++ [u]) ++ [b])).Nodup := by
  rw [List.nodup_cons, List.nodup_append]
  exact ⟨fun k => by rw [List.mem_append] at k; rcases k with k | k; exact hpB k; simp at k; exact hbp k.symm, ndB, by simp, fun x hx y hy e => by simp at hy; subst hy; subst e; exact hbB hx⟩
 have mem1 : ∀ x ∈ b :: ((v :: M1) ++ [p]), x ∈ b :: ((v :: M1) ++ p :: (M2 ++ [u])) := by
  intro x hx; simp at hx ⊢; rcases hx with h | h | h | h <;> simp [h]
 have mem2 : ∀ x ∈ p :: ((M2 ++ [u]) ++ [b]), x ∈ b :: ((v :: M1) ++ p :: (M2 ++ [u])) := by
  intro x hx; simp at hx ⊢; rcases hx with h | h | h | h <;> simp [h]
 have lowP : ∀ x ∈ b :: ((v :: M1) ++ p :: (M2 ++ [u])), x ≠ b → ht N b < ht N x := by
  intro x hx n
  refine low x ?_
  simp at hx ⊢; rcases hx with h | h | h | h | h | h
  ·exact absurd h n
  all_goals simp [h]
 refine ⟨p, M1, M2, rfl, ?_, ?_, ?_, ?_, ?_, ?_⟩
 ·refine hP.sub (by simp) sub1 nd1 mem1 (fun f hf n1 n2 n3 n4 => (hdis f (sub1 f hf) n1 n2 n3 n4).flip) (fun q hq ho => ?_)
  exact hon q (by simp at hq ⊢; rcases hq with h | h <;> simp [h]) (fun e => hbA (e ▸ hq)) (fun e => hpA (e ▸ hq)) ho.swap
 ·refine ⟨hs, b, v, M1, p, ⟨[], v :: (M1 ++ [p]), by simp, by simp⟩, fun q hq => ?_, by rw [← T_cyc]; exact ha⟩
  refine lowP q (mem1 q (List.mem_cons_of_mem _ (by simpa using hq))) (fun e => ?_)
  subst e; exact (List.nodup_cons.mp nd1).1 (by simpa using hq)
 ·refine hP.sub (by simp) sub2 nd2 mem2 (fun f hf n1 n2 n3 n4 => hdis f (sub2 f hf) n2 n1 n4 n3) (fun q hq ho => ?_)
  exact hon q (by simp at hq ⊢; rcases hq with h | h <;> simp [h]) (fun e => hbB (e ▸ hq)) (fun e => hpB (e ▸ hq)) ho
 ·refine ⟨hs, b, p, M2, u, ⟨p :: (M2 ++ [u]), [], by simp, by simp⟩, fun q hq => ?_, hb⟩
  refine lowP q (mem2 q ?_) (fun e => ?_)
  ·simp at hq ⊢; rcases hq with h | h | h <;> simp [h]
  ·subst e; simp at hq
   rcases hq with h | h | h
   ·exact hbp h
   ·exact hbB (by simp [h])
   ·exact hub h.symm
 ·intro X hX q hq
  have hu : Wd N X (b :: v :: (M1 ++ [p])) u = 0 := by
   refine low_zero hX (fun x hx => lowP x (mem1 x (List.mem_cons_of_mem _ (by simpa using hx))) (fun e => ?_)) (lowP u (by simp) hub) (fun x hx => hi.ne (mem1 x (List.mem_cons_of_mem _ (by simpa using hx))) (by simp) ?_) (fun e he => ?_) (by
    have e1 : s * T b p u = s * T u b p := by rw [T_cyc]
    rcases hs with rfl | rfl <;> omega)
   ·subst e; exact (List.nodup_cons.mp nd1).1 (by simpa using hx)
   ·rintro rfl; simp at hx; rcases hx with h | h | h
    ·exact huv h
    ·exact hAB x (by simp [h]) x (by simp) rfl
    ·exact hup h
   ·have hec : e ∈ ed (b :: ((v :: M1) ++ [p])) := ed_cons_sub b (v :: (M1 ++ [p])) e he
    have me := ed_mem _ e he
    have e2u : e.2 ≠ u := by
     intro k; have := me.2; rw [k] at this; simp at this; rcases this with h | h | h
     ·exact huv h
     ·exact hAB u (by simp [h]) u (by simp) rfl
     ·exact hup h
    have e1u : e.1 ≠ u := by
     intro k; have := me.1; rw [k] at this; simp at this; rcases this with h | h | h
     ·exact huv h
     ·exact hAB u (by simp [h]) u (by simp) rfl
     ·exact hup h
    have e1b : b ≠ e.1 := by
     intro k; have := me.1; rw [← k] at this
     exact (List.nodup_cons.mp nd1).1 (by simpa using this)
    exact (hP.na e (sub1 e hec) (u, b) m_ub e2u e1b (fun k => e1u (by rw [k]))).flip2
  rw [show b :: ((v :: M1) ++ [p]) = b :: v :: (M1 ++ [p]) from rfl, ← hu]
  refine chain_const hX (L := M2 ++ [u]) (fun f hf e he => ?_) (fun x hx y hy => ?_) (hi.mono (fun x hx => by simp at hx ⊢; rcases hx with h | h <;> simp [h])) ndB hq (by simp)
  ·have hf2 : f ∈ ed (p :: ((M2 ++ [u]) ++ [b])) := ed_cons_sub p _ f (ed_snoc_sub b _ f hf)
   have mf := ed_mem _ f hf
   have fB1 : ∀ x, x ∈ b :: ((v :: M1) ++ [p]) → x ≠ f.1 ∧ x ≠ f.2 := by
    intro x hx
    have : ∀ y ∈ M2 ++ [u], x ≠ y := by
     intro y hy e; subst e
     simp only [List.mem_cons, List.mem_append] at hx
     rcases hx with h | (h | h) | h
     ·exact hbB (h ▸ hy)
     ·exact hAB x (by simp [h]) x hy rfl
     ·exact hAB x (by simp [h]) x hy rfl
     ·simp at h; exact hpB (h ▸ hy)
    exact ⟨this _ mf.1, this _ mf.2⟩
   rw [show b :: v :: (M1 ++ [p]) = b :: ((v :: M1) ++ [p]) from rfl, cyc_path, List.mem_append] at he
   rcases he with he | he
   ·have me := ed_mem _ e he
    exact hP.na e (sub1 e he) f (sub2 f hf2) (fB1 _ me.2).1 (fun k => (fB1 _ me.1).2 k.symm) (fun k => (fB1 _ me.1).1 (by rw [k]))
   ·simp at he; subst he
    have q1 := fB1 b (by simp); have q2 := fB1 p (by simp)
    exact (hdis f (sub2 f hf2) q1.1.symm q2.1.symm q1.2.symm q2.2.symm).flip
  ·refine hi.ne (mem1 x hx) (by simp at hy ⊢; rcases hy with h | h <;> simp [h]) ?_
   rintro rfl
   simp only [List.mem_cons, List.mem_append] at hx
   rcases hx with h | h | h | h
   ·exact hbB (h ▸ hy)
   ·exact hAB x (by simp [h]) x hy rfl
   ·exact hAB x (by simp [h]) x hy rfl
   ·simp at h; exact hpB (h ▸ hy)
 ·intro X hX q hq
  have hv : Wd N X (b :: p :: (M2 ++ [u])) v = 0 := by
   refine low_zero hX (fun x hx => lowP x (mem2 x (by simp at hx ⊢; rcases hx with h | h | h <;> simp [h])) (fun e => ?_)) (lowP v (by simp) hvb) (fun x hx => hi.ne (mem2 x (by simp at hx ⊢; rcases hx with h | h | h <;> simp [h])) (by simp) ?_) (fun e he => ?_) (by
    have e1 : s * T b p v = - (s * T b v p) := by rw [T_swap2 b v p, Int.mul_neg]
    have e2 : s * T b u v = - (s * T b v u) := by rw [T_swap2 b v u, Int.mul_neg]
    rcases hs with rfl | rfl <;> omega)
   ·subst e; simp at hx; rcases hx with h | h | h
    ·exact hbp h
    ·exact hbB (by simp [h])
    ·exact hub h.symm
   ·rintro rfl; simp at hx; rcases hx with h | h | h
    ·exact hvp h
    ·exact hAB x (by simp) x (by simp [h]) rfl
    ·exact huv h.symm
   ·have hec : e ∈ ed (p :: ((M2 ++ [u]) ++ [b])) := by
     have := ed_snoc_sub b _ e he; simpa using this
    have me := ed_mem _ e he
    have e2b : e.2 ≠ b := by
     intro k; have := me.2; rw [k] at this; simp at this; rcases this with h | h | h
     ·exact hbp h
     ·exact hbB (by simp [h])
     ·exact hub h.symm
    have e1b : e.1 ≠ b := by
     intro k; have := me.1; rw [k] at this; simp at this; rcases this with h | h | h
     ·exact hbp h
     ·exact hbB (by simp [h])
     ·exact hub h.symm
    have e1v : v ≠ e.1 := by
     intro k; have := me.1; rw [← k] at this; simp at this; rcases this with h | h | h
     ·exact hvp h
     ·exact hAB v (by simp) v (by simp [h]) rfl
     ·exact huv h.symm
    exact hP.na e (sub2 e hec) (b, v) m_bv e2b e1v (fun k => e1b (by rw [k]))
  have hrot : ∀ z, Wd N X (p :: ((M2 ++ [u]) ++ [b])) z = Wd N X (b :: p :: (M2 ++ [u])) z := fun z => by
   have := Wd_rot N X (p :: (M2 ++ [u])) [b] z; simpa using this
  rw [hrot, ← hv, ← hrot, ← hrot]
  refine chain_const hX (L := v :: M1) (fun f hf e he => ?_) (fun x hx y hy => ?_) (hi.mono (fun x hx => by simp at hx ⊢; rcases hx with h | h <;> simp [h])) ndA hq (by simp)
  ·have hf2 : f ∈ ed (b :: ((v :: M1) ++ [p])) := ed_cons_sub b _ f (ed_snoc_sub p _ f hf)
   have mf := ed_mem _ f hf
   have fA1 : ∀ x, x ∈ p :: ((M2 ++ [u]) ++ [b]) → x ≠ f.1 ∧ x ≠ f.2 := by
    intro x hx
    have : ∀ y ∈ v :: M1, x ≠ y := by
     intro y hy e; subst e
     rw [List.mem_cons, List.mem_append] at hx
     rcases hx with h | h | h
     ·exact hpA (h ▸ hy)
     ·exact hAB x hy x h rfl
     ·simp at h; exact hbA (h ▸ hy)
    exact ⟨this _ mf.1, this _ mf.2⟩
   rw [cyc_path, List.mem_append] at he
   rcases he with he | he
   ·have me := ed_mem _ e he
    exact hP.na e (sub2 e he) f (sub1 f hf2) (fA1 _ me.2).1 (fun k => (fA1 _ me.1).2 k.symm) (fun k => (fA1 _ me.1).1 (by rw [k]))
   ·simp at he; subst he
    have q1 := fA1 b (by simp); have q2 := fA1 p (by simp)
    exact hdis f (sub1 f hf2) q1.1.symm q2.1.symm q1.2.symm q2.2.symm
  ·refine hi.ne (mem2 x hx) (by simp at hy ⊢; rcases hy with h | h <;> simp [h]) ?_
   rintro rfl
   rw [List.mem_cons, List.mem_append] at hx
   rcases hx with h | h | h
   ·exact hpA (h ▸ hy)
   ·exact hAB x hy x h rfl
   ·simp at h; exact hbA (h ▸ hy)

theorem Ear.sim' {s : Int} (hs : s = 1 ∨ s = -1) {a : Pt} {R : List Pt} (hP : Sim (a :: R)) (hl : 4 ≤ (a :: R).length) (h : Ear s a R) : Sim R := by
 simp at hl
 obtain ⟨v, M, u, rfl⟩ := ends2 (R := R) (by omega)
 refine h.sim hs hP ?_
 rintro rfl; simp at hl
def Main (N s : Int) (P : List Pt) : Prop :=
 (4 ≤ P.length → ∀ a R, Sp P a R → Ear s a R → Ori N s R) ∧
 (∀ X, X = 0 ∨ X = 1 → ∀ z, 0 ≤ s * Wd N X P z) ∧
 (∀ e ∈ cyc P, ∃ a R, Sp P a R ∧ a ≠ e.1 ∧ a ≠ e.2 ∧ Ear s a R ∧ ∀ X, X = 0 ∨ X = 1 → Wd N X R a = 0)

theorem ear_pos {N s : Int} (hs : s = 1 ∨ s = -1) {P : List Pt} (hP : Sim P) (hi : Inj N P) {n : Nat} (hn : P.length ≤ n) (ih : ∀ Q : List Pt, Q.length < n → Sim Q → Inj N Q → ∀ t, Ori N t Q → Main N t Q)
  (hK : 4 ≤ P.length → ∀ a R, Sp P a R → Ear s a R → Ori N s R) {a : Pt} {R : List Pt} (h : Sp P a R) (he : Ear s a R) : ∀ X, X = 0 ∨ X = 1 → ∀ z, 0 ≤ s * Wd N X R z := by
 intro X hX z
 have hlen := h.len
 have hP3 := hP.len
 have hS := h.sim hP
 by_cases h4 : 4 ≤ P.length
 ·have hSR := he.sim' hs hS (by simp; omega)
  exact (ih R (by omega) hSR (hi.mono (fun x hx => (h.mem x).mpr (.inr hx))) s (hK h4 a R h he)).2.1 X hX z
 ·obtain ⟨v, M, u, rfl⟩ := ends2 (R := R) (by omega)
  simp at hlen
  have : M = [] := by cases M with
   | nil => rfl
   | cons m M => simp at hlen; omega
  subst this
  rw [List.nil_append, Wd_two0]; omega
theorem Sp.ear_wd {N X s : Int} {P : List Pt} {a : Pt} {R : List Pt} (h : Sp P a R) (hl : 2 ≤ R.length) (he : Ear s a R) (z : Pt) : ∃ u v, 0 < s * T u a v ∧ Wd N X P z = Wd N X [u, a, v] z + Wd N X R z := by
 obtain ⟨v, u, e1, e2, hp, _⟩ := he
 exact ⟨u, v, hp, by rw [h.wd, Wd_ear' hl e1 e2]⟩

theorem main (N : Int) : ∀ n : Nat, ∀ P : List Pt, P.length = n → Sim P → Inj N P → ∀ s, Ori N s P → Main N s P := by
 intro n
 induction n using Nat.strongRecOn with
 | ind n ih0 =>
 intro P hn hP hi s ho
 have ih : ∀ Q : List Pt, Q.length < n → Sim Q → Inj N Q → ∀ t, Ori N t Q → Main N t Q := fun Q hq => ih0 Q.length hq Q rfl
 obtain ⟨hs, b, v, M, u, hb, low, hD⟩ := ho
 have hP0 := hb.sim hP
 have hi0 : Inj N (b :: v :: (M ++ [u])) := hi.mono (fun x hx => (hb.mem x).mpr (by simpa using hx))
 have hlen := hb.len
 have hlen3 := hP.len
 have nd0 := hP0.nd
 have ndR := (List.nodup_cons.mp nd0).2
 have nb := (List.nodup_cons.mp nd0).1
 have ce := cyc_ends b v u M
 have mP0 : ∀ x, x ∈ v :: (M ++ [u]) → x ∈ b :: v :: (M ++ [u]) := fun x hx => List.mem_cons_of_mem _ hx
 have hiR : Inj N (v :: (M ++ [u])) := hi0.mono mP0
 have hMn : 4 ≤ P.length → M ≠ [] := by rintro h rfl; simp at hlen; omega
 have hK0 : 4 ≤ P.length → Ear s b (v :: (M ++ [u])) → Ori N s (v :: (M ++ [u])) := by
  intro h4 he
  have hM := hMn h4
  have hSR := he.sim hs hP0 hM
  obtain ⟨t, hot⟩ := Ori.ex hSR hiR
  obtain ⟨q1, q2⟩ := he.to ndR
  suffices hst : t = s by rw [← hst]; exact hot
  by_cases h5 : P.length = 4
  ·-- four corners
   obtain ⟨q, rfl⟩ : ∃ q, M = [q] := by
    cases M with
    | nil => exact absurd rfl hM
    | cons q M => cases M with
     | nil => exact ⟨q, rfl⟩
     | cons r M => simp at hlen; omega
   have D1 : Dis q u b v := hP0.na (q, u) (by rw [ce]; simp [ed]) (b, v) (by rw [ce]; simp) (fun e => nb (by rw [show b = u from e.symm]; simp)) (fun e => by
    have e' : v = q := e
    subst e'; simp at ndR) (fun e => nb (by rw [show b = q from (congrArg Prod.fst e).symm]; simp))
   have D2 : Dis v q u b := hP0.na (v, q) (by rw [ce]; simp [ed]) (u, b) (by rw [ce]; simp) (fun e => by
    have e' : q = u := e
    subst e'; simp at ndR) (fun e => nb (by rw [show b = v from e]; simp)) (fun e => nb (by rw [show b = q from (congrArg Prod.snd e).symm]; simp))
   obtain ⟨ht, c, v', M', u', k1, k2, k3⟩ := hot
   have kl := k1.len
   simp at kl
   have kM : M' = [] := by cases M' with
    | nil => rfl
    | cons m M' => simp at kl
   subst kM
   have key : T v q u = T u' c v' := by
    have three : ∀ {x1 x2 x3 c v' u' : Pt}, Sp [x1, x2, x3] c [v', u'] → T x1 x2 x3 = T u' c v' := by
     intro x1 x2 x3 c v' u' h
     obtain ⟨A, B, e1, e2⟩ := h
     cases A with
     | nil => simp at e1 e2; obtain ⟨rfl, rfl⟩ := e1; simp at e2; obtain ⟨rfl, rfl⟩ := e2; exact (T_cyc2 _ _ _).symm
     | cons a1 A =>
      cases A with
      | nil => simp at e1 e2; obtain ⟨rfl, rfl, rfl⟩ := e1; simp at e2; obtain ⟨rfl, rfl⟩ := e2; rfl
      | cons a2 A =>
       cases A with
       | nil => simp at e1 e2; obtain ⟨rfl, rfl, rfl, rfl⟩ := e1; simp at e2; obtain ⟨rfl, rfl⟩ := e2; exact (T_cyc _ _ _).symm
       | cons a3 A => simp at e1
    exact three k1
   have ne : T v q u ≠ 0 := by rw [key]; rcases ht with rfl | rfl <;> omega
   have := tri4 hs hD (q2 q (by simp)) D1 D2 (low u (by simp)) (low v (by simp)) (low q (by simp)) ne
   rw [key] at this
   rcases hs with rfl | rfl <;> rcases ht with rfl | rfl <;> omega
  ·-- five or more: another ear first
   have hlR : (v :: (M ++ [u])).length = P.length - 1 := by omega
   obtain ⟨a, R', s1, n1, n2, he', _⟩ := (ih _ (by omega) hSR hiR t hot).2.2 (u, v) (by rw [cyc_path]; simp)
   have aM : a ∈ M := by
    have := (s1.mem a).mpr (.inl rfl)
    simp at this; rcases this with h | h | h
    ·exact absurd h n2
    ·exact h
    ·exact absurd h n1
   obtain ⟨C, D, rfl⟩ := List.append_of_mem aM
   have hR' : R' = (D ++ [u]) ++ (v :: C) := Sp.uniq ndR s1 ⟨v :: C, D ++ [u], by simp, rfl⟩
   subst hR'
   have ht := hot.1
   have nba : b ≠ a := fun e => nb (by rw [e]; simp)
   have s2 : Sp (b :: v :: (C ++ a :: D ++ [u])) a ((D ++ [u]) ++ (b :: v :: C)) := ⟨b :: v :: C, D ++ [u], by simp, rfl⟩
   have he2 : Ear t a ((D ++ [u]) ++ (b :: v :: C)) := by
    obtain ⟨v1, u1, e1, e2, hp, hq⟩ := he'
    have v1m : v1 ∈ (D ++ [u]) ++ (v :: C) := List.mem_of_head? e1
    have u1m : u1 ∈ (D ++ [u]) ++ (v :: C) := List.mem_of_getLast? e2
    have sub : ∀ x ∈ (D ++ [u]) ++ (v :: C), x ∈ v :: (C ++ a :: D ++ [u]) := by
     intro x hx; simp at hx ⊢; rcases hx with h | h | h | h <;> simp [h]
    refine ⟨v1, u1, ?_, ?_, hp, ?_⟩
    ·cases D <;> simpa using e1
    ·rw [List.getLast?_append] at e2 ⊢
     rw [show b :: v :: C = [b] ++ (v :: C) from rfl, List.getLast?_append]
     cases hc : (v :: C).getLast? with
     | none => simp at hc
     | some y => rw [hc] at e2; simpa using e2
    ·intro q hqm k1 k2 hin
     by_cases qb : q = b
     ·subst qb
      exact low_notin hp (low _ (sub _ u1m)) (low a (by simp)) (low _ (sub _ v1m)) hin
     ·refine hq q ?_ k1 k2 hin
      simp at hqm ⊢; rcases hqm with h | h | h | h | h
      ·simp [h]
      ·simp [h]
      ·exact absurd h qb
      ·simp [h]
      ·simp [h]
   have S2 := he2.sim' ht (s2.sim hP0) (by simp at hlen hlR ⊢; omega)
   have o2 : Ori N s ((D ++ [u]) ++ (b :: v :: C)) := by
    refine ⟨hs, b, v, C ++ D, u, ⟨D ++ [u], v :: C, rfl, by simp⟩, fun q hq => low q (by simp at hq ⊢; rcases hq with h | h | h | h <;> simp [h]), hD⟩
   have i2 : Inj N ((D ++ [u]) ++ (b :: v :: C)) := hi0.mono (fun x hx => by simp at hx ⊢; rcases hx with h | h | h | h | h <;> simp [h])
   have hl2 : ((D ++ [u]) ++ (b :: v :: C)).length = P.length - 1 := by simp at hlen ⊢; omega
   have s3 : Sp ((D ++ [u]) ++ (b :: v :: C)) b ((v :: C) ++ (D ++ [u])) := ⟨D ++ [u], v :: C, rfl, rfl⟩
   have e3 : Ear s b ((v :: C) ++ (D ++ [u])) := by
    have : (v :: C) ++ (D ++ [u]) = v :: ((C ++ D) ++ [u]) := by simp
    rw [this]
    exact Ear.of hD (fun q hq => q2 q (by simp at hq ⊢; rcases hq with h | h <;> simp [h]))
   have o3 := (ih _ (by omega) S2 i2 s o2).1 (by omega) b _ s3 e3
   have o4 := (ih _ (by omega) hSR hiR t hot).1 (by omega) a _ s1 he'
   have nd3 : ((v :: C) ++ (D ++ [u])).Nodup := by
    refine List.Nodup.sublist ?_ ndR
    have : v :: (C ++ a :: D ++ [u]) = (v :: C) ++ ([a] ++ (D ++ [u])) := by simp
    rw [this]
    exact List.Sublist.append_left (List.sublist_append_right _ _) _
   exact Ori.uniq nd3 o4.rot o3
 have hK : 4 ≤ P.length → ∀ a R, Sp P a R → Ear s a R → Ori N s R := by
  intro h4 a R h he
  have h' : Sp (b :: v :: (M ++ [u])) a R := by
   obtain ⟨A, B, e1, e2⟩ := hb
   have : b :: v :: (M ++ [u]) = (b :: B) ++ A := by rw [List.cons_append, ← e2]
   rw [this]; rw [e1] at h; exact h.of_rot
  by_cases hab : a = b
  ·subst hab
   have := Sp.uniq nd0 h' (Sp.head a _)
   subst this; exact hK0 h4 he
  ·exact keep_other hs hP0 (hMn h4) low hD h' hab he
 have hE : ∀ e ∈ cyc P, ∃ a R, Sp P a R ∧ a ≠ e.1 ∧ a ≠ e.2 ∧ Ear s a R ∧ ∀ X, X = 0 ∨ X = 1 → Wd N X R a = 0 := by
  intro e he
  have he0 := (hb.cyc e).mp he
  suffices h : ∃ a R, Sp (b :: v :: (M ++ [u])) a R ∧ a ≠ e.1 ∧ a ≠ e.2 ∧ Ear s a R ∧ ∀ X, X = 0 ∨ X = 1 → Wd N X R a = 0 by
   obtain ⟨a, R, h1, h2⟩ := h
   exact ⟨a, R, hb.back h1, h2⟩
  by_cases hM : M = []
  ·subst hM
   simp at ndR nb
   by_cases c1 : b ≠ e.1 ∧ b ≠ e.2
   ·exact ⟨b, _, Sp.head b _, c1.1, c1.2, Ear.of (M := []) hD (by simp), fun X _ => Wd_two0 N X _ _ _⟩
   by_cases c2 : v ≠ e.1 ∧ v ≠ e.2
   ·refine ⟨v, [u, b], ⟨[b], [u], rfl, rfl⟩, c2.1, c2.2, Ear.of (M := []) (by rw [T_cyc]; exact hD) (by simp), fun X _ => Wd_two0 N X _ _ _⟩
   by_cases c3 : u ≠ e.1 ∧ u ≠ e.2
   ·refine ⟨u, [b, v], ⟨[b, v], [], rfl, rfl⟩, c3.1, c3.2, Ear.of (M := []) (by rw [T_cyc2]; exact hD) (by simp), fun X _ => Wd_two0 N X _ _ _⟩
   exfalso
   have d1 : b = e.1 ∨ b = e.2 := by
    by_cases k : b = e.1
    ·exact .inl k
    ·by_cases k2 : b = e.2
     ·exact .inr k2
     ·exact absurd ⟨k, k2⟩ c1
   have d2 : v = e.1 ∨ v = e.2 := by
    by_cases k : v = e.1
    ·exact .inl k
    ·by_cases k2 : v = e.2
     ·exact .inr k2
     ·exact absurd ⟨k, k2⟩ c2
   have d3 : u = e.1 ∨ u = e.2 := by
    by_cases k : u = e.1
    ·exact .inl k
    ·by_cases k2 : u = e.2
     ·exact .inr k2
     ·exact absurd ⟨k, k2⟩ c3
   rcases d1 with d1 | d1 <;> rcases d2 with d2 | d2 <;> rcases d3 with d3 | d3
   ·exact nb.1 (d1.trans d2.symm)
   ·exact nb.1 (d1.trans d2.symm)
   ·exact nb.2 (d1.trans d3.symm)
   ·exact ndR (d2.trans d3.symm)
   ·exact ndR (d2.trans d3.symm)
   ·exact nb.2 (d1.trans d3.symm)
   ·exact nb.1 (d1.trans d2.symm)
   ·exact nb.1 (d1.trans d2.symm)
  ·have h4 : 4 ≤ P.length := by
    cases M with
    | nil => exact absurd rfl hM
    | cons m M => simp at hlen; omega
   by_cases hin : ∃ q ∈ M, InT s u b v q
   ·obtain ⟨p, M1, M2, rfl, S1, o1, S2, o2, hB, hA⟩ := diag_parts hs hP0 hi0 low hD hin
    have ePL : b :: v :: (M1 ++ p :: M2 ++ [u]) = b :: ((v :: M1) ++ p :: (M2 ++ [u])) := by simp
    rw [ePL] at he0 nd0 hi0 ⊢
    obtain ⟨hbA, hbp, hbB, hpA, hpB, hAB, ndA, ndB⟩ := parts_nd nd0
    have i1 : Inj N (b :: ((v :: M1) ++ [p])) := hi0.mono (fun x hx => by simp at hx ⊢; rcases hx with h | h | h | h <;> simp [h])
    have i2 : Inj N (p :: ((M2 ++ [u]) ++ [b])) := hi0.mono (fun x hx => by simp at hx ⊢; rcases hx with h | h | h | h <;> simp [h])
    have l1 : (b :: ((v :: M1) ++ [p])).length < n := by simp at hlen ⊢; omega
    have l2 : (p :: ((M2 ++ [u]) ++ [b])).length < n := by simp at hlen ⊢; omega
    have m1 := ih _ l1 S1 i1 s o1
    have m2 := ih _ l2 S2 i2 s o2
    rw [cyc_diag, List.mem_append] at he0
    rcases he0 with he0 | he0
    ·obtain ⟨a, R1, k1, k2, k3, k4, k5⟩ := m2.2.2 (b, p) (by rw [cyc_path]; simp)
     have pos := ear_pos hs S2 i2 (Nat.le_of_lt l2) ih m2.1 k1 k4
     have hrotP : p :: ((M2 ++ [u]) ++ b :: (v :: M1)) = (p :: (M2 ++ [u])) ++ (b :: (v :: M1)) := rfl
     have nd' : (p :: ((M2 ++ [u]) ++ b :: (v :: M1))).Nodup := by
      have h0 : ((b :: v :: M1) ++ (p :: (M2 ++ [u]))).Nodup := nd0
      rw [List.nodup_append] at h0
      rw [hrotP, List.nodup_append]
      exact ⟨h0.2.1, h0.1, fun x hx y hy e => h0.2.2 y hy x hx e.symm⟩
     have i' : Inj N (p :: ((M2 ++ [u]) ++ b :: (v :: M1))) := hi0.mono (fun x hx => by simp at hx ⊢; rcases hx with h | h | h | h | h | h <;> simp [h])
     obtain ⟨R, j1, j2, j3, j4⟩ := case2 hs nd' i' hA hB k1 k2 k3 (by simp) k4 k5 pos
     have me := ed_mem _ e he0
     have off : ∀ x ∈ b :: ((v :: M1) ++ [p]), a ≠ x := by
      rintro x hx rfl
      rw [List.mem_cons, List.mem_append] at hx
      rcases hx with h | h | h
      ·exact hbB (h ▸ j2)
      ·exact hAB a h a j2 rfl
      ·simp at h; exact hpB (h ▸ j2)
     exact ⟨a, R, Sp.of_rot (A := p :: (M2 ++ [u])) (B := b :: (v :: M1)) j1, off _ me.1, off _ me.2, j3, j4⟩
    ·obtain ⟨a, R1, k1, k2, k3, k4, k5⟩ := m1.2.2 (p, b) (by rw [cyc_path]; simp)
     have pos := ear_pos hs S1 i1 (Nat.le_of_lt l1) ih m1.1 k1 k4
     obtain ⟨R, j1, j2, j3, j4⟩ := case2 hs nd0 hi0 hB hA k1 k2 k3 (by simp) k4 k5 pos
     have me := ed_mem _ e he0
     have off : ∀ x ∈ p :: ((M2 ++ [u]) ++ [b]), a ≠ x := by
      rintro x hx rfl
      rw [List.mem_cons, List.mem_append] at hx
      rcases hx with h | h | h
      ·exact hpA (h ▸ j2)
      ·exact hAB a j2 a h rfl
      ·simp at h; exact hbA (h ▸ j2)
     exact ⟨a, R, j1, off _ me.1, off _ me.2, j3, j4⟩
   ·have emp : ∀ q ∈ M, ¬ InT s u b v q := fun q hq h => hin ⟨q, hq, h⟩
    have heb : Ear s b (v :: (M ++ [u])) := Ear.of hD emp
    by_cases c1 : b ≠ e.1 ∧ b ≠ e.2
    ·exact ⟨b, _, Sp.head b _, c1.1, c1.2, heb, fun X _ => Wd_low low⟩
    ·-- an ear of the rest
     have hSR := heb.sim hs hP0 hM
     have oR := hK0 h4 heb
     obtain ⟨a, R', s1, n1, n2, he', hw'⟩ := (ih _ (by omega) hSR hiR s oR).2.2 (u, v) (by rw [cyc_path]; simp)
     have aM : a ∈ M := by
      have := (s1.mem a).mpr (.inl rfl)
      simp at this; rcases this with h | h | h
      ·exact absurd h n2
      ·exact h
      ·exact absurd h n1
     have ab : a ≠ b := fun e => nb (by rw [← e]; simp [aM])
     have off : a ≠ e.1 ∧ a ≠ e.2 := by
      rw [ce, List.mem_cons, List.mem_append] at he0
      rcases he0 with rfl | h | h
      ·exact ⟨ab, n2⟩
      ·exfalso
       have me := ed_mem _ e h
       exact c1 ⟨fun k => nb (by rw [k]; exact me.1), fun k => nb (by rw [k]; exact me.2)⟩
      ·simp at h; subst h; exact ⟨n1, ab⟩
     have hnin := emp a aM
     obtain ⟨C, D, rfl⟩ := List.append_of_mem aM
     have hR' : R' = (D ++ [u]) ++ (v :: C) := Sp.uniq ndR s1 ⟨v :: C, D ++ [u], by simp, rfl⟩
     subst hR'
     refine ⟨a, (D ++ [u]) ++ (b :: v :: C), ⟨b :: v :: C, D ++ [u], by simp, rfl⟩, off.1, off.2, ?_, ?_⟩
     ·obtain ⟨v1, u1, e1, e2, hp, hq⟩ := he'
      have v1m : v1 ∈ (D ++ [u]) ++ (v :: C) := List.mem_of_head? e1
      have u1m : u1 ∈ (D ++ [u]) ++ (v :: C) := List.mem_of_getLast? e2
      have sub : ∀ x ∈ (D ++ [u]) ++ (v :: C), x ∈ v :: (C ++ a :: D ++ [u]) := by
       intro x hx; simp at hx ⊢; rcases hx with h | h | h | h <;> simp [h]
      refine ⟨v1, u1, ?_, ?_, hp, ?_⟩
      ·cases D <;> simpa using e1
      ·rw [List.getLast?_append] at e2 ⊢
       rw [show b :: v :: C = [b] ++ (v :: C) from rfl, List.getLast?_append]
       cases hc : (v :: C).getLast? with
       | none => simp at hc
       | some y => rw [hc] at e2; simpa using e2
      ·intro q hqm k1 k2 hin2
       by_cases qb : q = b
       ·subst qb
        exact low_notin hp (low _ (sub _ u1m)) (low a (by simp)) (low _ (sub _ v1m)) hin2
       ·refine hq q ?_ k1 k2 hin2
        simp at hqm ⊢; rcases hqm with h | h | h | h | h
        ·simp [h]
        ·simp [h]
        ·exact absurd h qb
        ·simp [h]
        ·simp [h]
     ·intro X hX
      have r1 := Wd_rot N X (D ++ [u]) (b :: v :: C) a
      have r2 := Wd_rot N X (D ++ [u]) (v :: C) a
      have e1 : (b :: v :: C) ++ (D ++ [u]) = b :: v :: ((C ++ D) ++ [u]) := by simp
      have e2 : (v :: C) ++ (D ++ [u]) = v :: ((C ++ D) ++ [u]) := by simp
      rw [e1, Wd_ear] at r1
      rw [e2, hw' X hX] at r2
      rw [r1, ← r2, tri_zero hX hs hD hnin]; rfl
 refine ⟨hK, ?_, hE⟩
 intro X hX z
 obtain ⟨a, R, h1, _, _, h4, _⟩ := hE (u, b) ((hb.cyc _).mpr (by rw [ce]; simp))
 have pos := ear_pos hs hP hi (by omega) ih hK h1 h4 X hX z
 have hl2 := h1.len
 obtain ⟨u1, v1, hp, e⟩ := h1.ear_wd (N := N) (X := X) (by omega) h4 z
 have := (triW (N := N) hX hs hp z).1
 rw [e, Int.mul_add]; omega

def c2d (a b : Pt) : Int := a.1 * b.2 - b.1 * a.2
def pa : List Pt → Int
 | a :: b :: r => c2d a b + pa (b :: r)
 | _ => 0
def Ar : List Pt → Int
 | [] => 0
 | a :: r => pa ((a :: r) ++ [a])
theorem pa_two (a b : Pt) (r : List Pt) : pa (a :: b :: r) = c2d a b + pa (b :: r) := rfl
theorem pa_split (p : Pt) (B : List Pt) : ∀ A, pa (A ++ p :: B) = pa (A ++ [p]) + pa (p :: B)
 | [] => by simp [pa]
 | [a] => by simp [pa]
 | a :: b :: r => by
  have := pa_split p B (b :: r)
  simp only [List.cons_append] at this ⊢
  rw [pa_two, pa_two, this]; omega
theorem Ar_two (a b : Pt) (A B : List Pt) : Ar ((a :: A) ++ (b :: B)) = pa ((a :: A) ++ [b]) + pa ((b :: B) ++ [a]) := by
 have : Ar ((a :: A) ++ (b :: B)) = pa ((a :: A) ++ b :: (B ++ [a])) := by simp [Ar]
 rw [this, pa_split]; simp
theorem Ar_rot (A B : List Pt) : Ar (A ++ B) = Ar (B ++ A) := by
 cases A with
 | nil => simp
 | cons a A =>
  cases B with
  | nil => simp
  | cons b B => rw [Ar_two, Ar_two]; omega
theorem c2d_swap (a b : Pt) : c2d b a = - c2d a b := by unfold c2d; omega
theorem Ar_path (a z : Pt) (L : List Pt) : Ar (a :: (L ++ [z])) = pa (a :: (L ++ [z])) + c2d z a := by
 have : Ar (a :: (L ++ [z])) = pa ((a :: L) ++ z :: [a]) := by simp [Ar]
 rw [this, pa_split]; simp [pa]
theorem T_c2d (u a v : Pt) : T u a v = c2d u a + c2d a v + c2d v u := by unfold T c2d; grind
theorem Ar_ear (a v u : Pt) (M : List Pt) : Ar (a :: v :: (M ++ [u])) = T u a v + Ar (v :: (M ++ [u])) := by
 have : a :: v :: (M ++ [u]) = a :: ((v :: M) ++ [u]) := rfl
 rw [this, Ar_path, Ar_path, T_c2d, List.cons_append, pa_two, c2d_swap u v]; omega
theorem Ar_two0 (a b : Pt) : Ar [a, b] = 0 := by
 simp only [Ar, pa, List.cons_append, List.nil_append]; rw [c2d_swap a b]; omega
theorem Ar_ear' {a v u : Pt} {R : List Pt} (h : 2 ≤ R.length) (h1 : R.head? = some v) (h2 : R.getLast? = some u) : Ar (a :: R) = T u a v + Ar R := by
 obtain ⟨v', M, u', rfl⟩ := ends2 h
 rw [gl?] at h2; simp at h1 h2; subst h1; subst h2
 exact Ar_ear a _ _ M
theorem two_of {R : List Pt} (h : R.length = 2) : ∃ v u, R = [v, u] := by
 match R, h with
 | [v, u], _ => exact ⟨v, u, rfl⟩

theorem main' {N s : Int} {P : List Pt} (hP : Sim P) (hi : Inj N P) (ho : Ori N s P) : Main N s P := main N P.length P rfl hP hi s ho
theorem area_pos (N : Int) : ∀ n : Nat, ∀ P : List Pt, P.length = n → Sim P → Inj N P → ∀ s, Ori N s P → 0 < s * Ar P := by
 intro n
 induction n using Nat.strongRecOn with
 | ind n ih =>
 intro P hn hP hi s ho
 obtain ⟨hK, _, hE⟩ := main' hP hi ho
 have h3 := hP.len
 obtain ⟨x, hx⟩ : ∃ x, x ∈ P := by cases P with
  | nil => simp at h3
  | cons x r => exact ⟨x, by simp⟩
 obtain ⟨y, hy⟩ := cyc_from P x hx
 obtain ⟨a, R, h1, _, _, he, _⟩ := hE _ hy
 have hl := h1.len
 obtain ⟨v, u, e1, e2, hp, hq⟩ := he
 have hl2 : 2 ≤ R.length := by omega
 have eA : Ar P = T u a v + Ar R := by
  obtain ⟨A, B, rfl, rfl⟩ := h1
  rw [Ar_rot A (a :: B)]
  exact Ar_ear' hl2 e1 e2
 by_cases h4 : 4 ≤ P.length
 ·have hSR := Ear.sim' ho.1 (h1.sim hP) (by simp; omega) ⟨v, u, e1, e2, hp, hq⟩
  have := ih R.length (by omega) R rfl hSR (hi.mono (fun x hx => (h1.mem x).mpr (.inr hx))) s (hK h4 a R h1 ⟨v, u, e1, e2, hp, hq⟩)
  rw [eA, Int.mul_add]; omega
 ·obtain ⟨v', u', rfl⟩ := two_of (R := R) (by omega)
  rw [eA, Ar_two0]; simpa using hp

inductive ES (s : Int) : List Pt → List (Pt × Pt × Pt) → Prop
 | last (v u : Pt) : ES s [v, u] []
 | cut (A : List Pt) (a : Pt) (B : List Pt) (v u : Pt) (ts : List (Pt × Pt × Pt)) : (B ++ A).head? = some v → (B ++ A).getLast? = some u → 0 < s * T u a v →
   (∀ q ∈ B ++ A, q ≠ u → q ≠ v → ¬ InT s u a v q) → 2 ≤ (B ++ A).length → ES s (A ++ B) ts → ES s (A ++ a :: B) ((u, a, v) :: ts)
theorem ES.len {s : Int} {P : List Pt} {ts : List (Pt × Pt × Pt)} (h : ES s P ts) : P.length = ts.length + 2 := by
 induction h with
 | last => rfl
 | cut A a B v u ts _ _ _ _ _ _ ih => simp at ih ⊢; omega
def sumT : List (Pt × Pt × Pt) → Int
 | [] => 0
 | t :: ts => T t.1 t.2.1 t.2.2 + sumT ts
theorem ES.area {s : Int} {P : List Pt} {ts : List (Pt × Pt × Pt)} (h : ES s P ts) : sumT ts = Ar P := by
 induction h with
 | last v u => rw [Ar_two0]; rfl
 | cut A a B v u ts h1 h2 _ _ h5 _ ih =>
  rw [Ar_rot A (a :: B)]
  show _ = Ar (a :: (B ++ A))
  rw [Ar_ear' h5 h1 h2, sumT, ih, Ar_rot A B]
def sumW (N X : Int) (z : Pt) : List (Pt × Pt × Pt) → Int
 | [] => 0
 | t :: ts => Wd N X [t.1, t.2.1, t.2.2] z + sumW N X z ts
theorem ES.wd {s : Int} {P : List Pt} {ts : List (Pt × Pt × Pt)} (h : ES s P ts) (N X : Int) (z : Pt) : sumW N X z ts = Wd N X P z := by
 induction h with
 | last v u => rw [Wd_two0]; rfl
 | cut A a B v u ts h1 h2 _ _ h5 _ ih =>
  rw [Wd_rot N X A (a :: B)]
  show _ = Wd N X (a :: (B ++ A)) z
  rw [Wd_ear' h5 h1 h2, sumW, ih, Wd_rot N X A B]
theorem ES.pos {s : Int} {P : List Pt} {ts : List (Pt × Pt × Pt)} (h : ES s P ts) : ∀ t ∈ ts, 0 < s * T t.1 t.2.1 t.2.2 := by
 induction h with
 | last v u => simp
 | cut A a B v u ts h1 h2 h3 _ h5 _ ih =>
  intro t ht
  rw [List.mem_cons] at ht
  rcases ht with rfl | ht
  ·exact h3
  ·exact ih t ht
theorem ES.mem {s : Int} {P : List Pt} {ts : List (Pt × Pt × Pt)} (h : ES s P ts) : ∀ t ∈ ts, t.1 ∈ P ∧ t.2.1 ∈ P ∧ t.2.2 ∈ P := by
 induction h with
 | last v u => simp
 | cut A a B v u ts h1 h2 h3 _ h5 _ ih =>
  intro t ht
  rw [List.mem_cons] at ht
  rcases ht with rfl | ht
  ·have m1 := List.mem_of_head? h1
   have m2 := List.mem_of_getLast? h2
   simp at m1 m2 ⊢
   exact ⟨by rcases m2 with h | h <;> simp [h], by rcases m1 with h | h <;> simp [h]⟩
  ·have := ih t ht
   simp at this ⊢
   obtain ⟨a1, a2, a3⟩ := this
   exact ⟨by rcases a1 with h | h <;> simp [h], by rcases a2 with h | h <;> simp [h], by rcases a3 with h | h <;> simp [h]⟩
def isd (x y : Pt) (t : Pt × Pt × Pt) : Int := (if x = t.1 ∧ y = t.2.1 then 1 else 0) + (if x = t.2.1 ∧ y = t.2.2 then 1 else 0) + (if x = t.2.2 ∧ y = t.1 then 1 else 0)
def sd (x y : Pt) : List (Pt × Pt × Pt) → Int
 | [] => 0
 | t :: ts => isd x y t + sd x y ts
theorem sd_out {s : Int} {P : List Pt} {ts : List (Pt × Pt × Pt)} (h : ES s P ts) {x y : Pt} (k : x ∉ P ∨ y ∉ P) : sd x y ts = 0 := by
 have hm := h.mem
 clear h
 induction ts with
 | nil => rfl
 | cons t ts ih =>
  have m := hm t (by simp)
  rw [sd, ih (fun t ht => hm t (List.mem_cons_of_mem _ ht))]
  unfold isd
  rw [if_neg (fun c => by rcases k with k | k; exact k (c.1 ▸ m.1); exact k (c.2 ▸ m.2.1)), if_neg (fun c => by rcases k with k | k; exact k (c.1 ▸ m.2.1); exact k (c.2 ▸ m.2.2)), if_neg (fun c => by rcases k with k | k; exact k (c.1 ▸ m.2.2); exact k (c.2 ▸ m.1))]; rfl
theorem ES.sides {s : Int} {P : List Pt} {ts : List (Pt × Pt × Pt)} (h : ES s P ts) (nd : P.Nodup) (h3 : 3 ≤ P.length) :
  (∀ e ∈ cyc P, sd e.1 e.2 ts = 1 ∧ sd e.2 e.1 ts = 0) ∧ (∀ x y, (x, y) ∉ cyc P → (y, x) ∉ cyc P → sd x y ts = sd y x ts) := by
 induction h with
 | last v u => simp at h3
 | cut A a B v u ts h1 h2 hp hq h5 hes ih =>
  have hrot : ∀ e, e ∈ cyc (A ++ a :: B) ↔ e ∈ cyc (a :: (B ++ A)) := fun e => ⟨mem_cyc_rot A (a :: B) e, mem_cyc_rot (a :: B) A e⟩
  have ndr : (a :: (B ++ A)).Nodup := by
   have := nd
   rw [List.nodup_append] at this
   rw [← List.cons_append, List.nodup_append]
   exact ⟨this.2.1, this.1, fun x hx y hy e => this.2.2 y hy x hx e.symm⟩
  have na := (List.nodup_cons.mp ndr).1
  have ndR := (List.nodup_cons.mp ndr).2
  have na' : a ∉ A ++ B := fun k => na (by simp at k ⊢; exact k.symm)
  have out1 : ∀ y, sd a y ts = 0 := fun y => sd_out hes (.inl na')
  have out2 : ∀ y, sd y a ts = 0 := fun y => sd_out hes (.inr na')
  obtain ⟨v', M, u', hR⟩ := ends2 h5
  rw [hR] at h1 h2 ndR ndr na
  rw [gl?] at h2; simp at h1 h2; subst h1; subst h2
  have ce := cyc_ends a v' u' M
  have nv := (List.nodup_cons.mp ndR).1
  have nuv : u' ≠ v' := fun e => nv (by rw [← e]; simp)
  have nau : a ≠ u' := fun e => na (by rw [e]; simp)
  have nav : a ≠ v' := fun e => na (by rw [e]; simp)
  have isd_a : ∀ y, isd a y (u', a, v') = if y = v' then 1 else 0 := by
   intro y; unfold isd
   rw [if_neg (fun c => nau c.1), if_neg (c := a = v' ∧ y = u') (fun c => nav c.1)]
   by_cases k : y = v' <;> simp [k]
  have isd_a2 : ∀ y, isd y a (u', a, v') = if y = u' then 1 else 0 := by
   intro y; unfold isd
   rw [if_neg (c := y = a ∧ a = v') (fun c => nav c.2), if_neg (c := y = v' ∧ a = u') (fun c => nau c.2)]
   by_cases k : y = u' <;> simp [k]
  have isd_o : ∀ x y, x ≠ a → y ≠ a → isd x y (u', a, v') = if x = v' ∧ y = u' then 1 else 0 := by
   intro x y n1 n2; unfold isd
   rw [if_neg (fun c => n2 c.2), if_neg (c := x = a ∧ y = v') (fun c => n1 c.1)]; simp
  by_cases hM : M = []
  ·-- the last triangle
   subst hM
   have hts : ts = [] := by
    have l1 := hes.len
    have l2 : (B ++ A).length = 2 := by rw [hR]; rfl
    have : ts.length = 0 := by simp at l1 l2; omega
    exact List.length_eq_zero_iff.mp this
   subst hts
   have e0 : cyc (a :: v' :: ([] ++ [u'])) = [(a, v'), (v', u'), (u', a)] := by rw [ce]; rfl
   constructor
   ·intro e he
    rw [hrot, hR, e0] at he
    simp at he
    rcases he with rfl | rfl | rfl
    ·simp only [sd]; rw [isd_a, isd_a2, if_pos rfl, if_neg nuv.symm]; exact ⟨rfl, rfl⟩
    ·simp only [sd]; rw [isd_o _ _ nav.symm nau.symm, isd_o _ _ nau.symm nav.symm, if_pos ⟨rfl, rfl⟩, if_neg (fun c => nuv c.1)]; exact ⟨rfl, rfl⟩
    ·simp only [sd]; rw [isd_a, isd_a2, if_pos rfl, if_neg nuv]; exact ⟨rfl, rfl⟩
   ·intro x y k1 k2
    rw [hrot, hR, e0] at k1 k2
    simp at k1 k2
    simp only [sd]
    by_cases xa : x = a
    ·subst xa; rw [isd_a, isd_a2, if_neg (fun c => (k1.1 rfl) c), if_neg (fun c => (k2.2.2 c) rfl)]
    ·by_cases ya : y = a
     ·subst ya; rw [isd_a, isd_a2, if_neg (fun c => (k1.2.2 c) rfl), if_neg (fun c => (k2.1 rfl) c)]
     ·rw [isd_o _ _ xa ya, isd_o _ _ ya xa, if_neg (fun c => k1.2.1 c.1 c.2), if_neg (fun c => k2.2.1 c.1 c.2)]
  ·have hrot2 : ∀ e, e ∈ cyc (A ++ B) ↔ e ∈ cyc (B ++ A) := fun e => ⟨mem_cyc_rot A B e, mem_cyc_rot B A e⟩
   have nd2 : (A ++ B).Nodup := by
    have h0 : (B ++ A).Nodup := by rw [hR]; exact ndR
    rw [List.nodup_append] at h0 ⊢
    exact ⟨h0.2.1, h0.1, fun x hx y hy e => h0.2.2 y hy x hx e.symm⟩
   have len2 : 3 ≤ (A ++ B).length := by
    have : (B ++ A).length = M.length + 2 := by rw [hR]; simp
    have hM1 : 1 ≤ M.length := by cases M with
     | nil => exact absurd rfl hM
     | cons m M => simp
    simp at this ⊢; omega
   obtain ⟨i1, i2⟩ := ih nd2 len2
   have cR : cyc (B ++ A) = ed (v' :: (M ++ [u'])) ++ [(u', v')] := by rw [hR, cyc_path]
   have f1 : ∀ e ∈ ed (v' :: (M ++ [u'])), e.1 ≠ u' := by
    intro e he k
    have := ed_fst u' (v' :: M) e he
    rw [k, List.mem_cons] at this
    rcases this with h | h
    ·exact nuv h
    ·exact (List.nodup_append.mp (List.nodup_cons.mp ndR).2).2.2 u' h u' (by simp) rfl
   have f2 : (v', u') ∉ ed (v' :: (M ++ [u'])) := by
    intro he
    cases M with
    | nil => exact hM rfl
    | cons m M =>
     rw [List.cons_append, ed, List.mem_cons] at he
     rcases he with he | he
     ·have k : u' = m := congrArg Prod.snd he
      exact (List.nodup_append.mp (List.nodup_cons.mp ndR).2).2.2 m (by simp) u' (by simp) k.symm
     ·exact nv (by have := (ed_mem _ _ he).1; simpa using this)
   constructor
   ·intro e he
    rw [hrot, hR, ce] at he
    simp only [List.mem_cons, List.mem_append, List.not_mem_nil, or_false] at he
    rcases he with rfl | he | rfl
    ·simp only [sd]; rw [isd_a, isd_a2, out1, out2, if_pos rfl, if_neg nuv.symm]; exact ⟨rfl, rfl⟩
    ·have me := ed_mem _ e he
     have e1a : e.1 ≠ a := fun k => na (k ▸ me.1)
     have e2a : e.2 ≠ a := fun k => na (k ▸ me.2)
     have := i1 e ((hrot2 e).mpr (by rw [cR]; simp [he]))
     simp only [sd]
     rw [isd_o _ _ e1a e2a, isd_o _ _ e2a e1a, if_neg (fun c => f2 (by have q : e = (v', u') := Prod.ext c.1 c.2; rw [← q]; exact he)), if_neg (fun c => f1 e he c.2), this.1, this.2]; exact ⟨rfl, rfl⟩
    ·simp only [sd]; rw [isd_a, isd_a2, out1, out2, if_pos rfl, if_neg nuv]; exact ⟨rfl, rfl⟩
   ·intro x y k1 k2
    rw [hrot, hR, ce] at k1 k2
    simp only [List.mem_cons, List.mem_append, List.not_mem_nil, or_false, not_or] at k1 k2
    simp only [sd]
    by_cases xa : x = a
    ·subst xa
     rw [isd_a, isd_a2, out1, out2, if_neg (fun c => k1.1 (by rw [c])), if_neg (fun c => k2.2.2 (by rw [c]))]
    ·by_cases ya : y = a
     ·subst ya
      rw [isd_a, isd_a2, out1, out2, if_neg (fun c => k1.2.2 (by rw [c])), if_neg (fun c => k2.1 (by rw [c]))]
     ·rw [isd_o _ _ xa ya, isd_o _ _ ya xa]
      by_cases c1 : x = v' ∧ y = u'
      ·obtain ⟨rfl, rfl⟩ := c1
       have := i1 (y, x) ((hrot2 _).mpr (by rw [cR]; simp))
       rw [if_pos (c := x = x ∧ y = y) ⟨rfl, rfl⟩, if_neg (c := y = x ∧ x = y) (fun c => nuv c.1), this.1, this.2]; rfl
      ·by_cases c2 : y = v' ∧ x = u'
       ·obtain ⟨rfl, rfl⟩ := c2
        have := i1 (x, y) ((hrot2 _).mpr (by rw [cR]; simp))
        rw [if_pos (c := y = y ∧ x = x) ⟨rfl, rfl⟩, if_neg (c := x = y ∧ y = x) (fun c => nuv c.1), this.1, this.2]; rfl
       ·rw [if_neg c1, if_neg c2, i2 x y (fun k => ?_) (fun k => ?_)]
        ·rw [hrot2, cR, List.mem_append] at k
         rcases k with k | k
         ·exact k1.2.1 k
         ·simp at k; exact c2 ⟨k.2, k.1⟩
        ·rw [hrot2, cR, List.mem_append] at k
         rcases k with k | k
         ·exact k2.2.1 k
         ·simp at k; exact c1 ⟨k.2, k.1⟩
end Go.Proofs.Ythaklbjcjoolcaa.Geo
