/- Proved here: what functions that the law reaches compute, and plain laws of that. No conditions but those that the theorems state. -/
import Derived.Laws.EntriesVeiled
import Derived.Test.YtppelnlocfcgfaaB1
import Derived.Shelf.SlSortCmp.NoneTotal
import Derived.Sort.Walk0
import Derived.Shelf.Strings.BuilderK
import Derived.Shelf.Strings.BuilderF
import Derived.Shelf.Strings.MapGrows
import Derived.Outline
import Derived.Deep.DeepMust
set_option linter.unusedVariables false
set_option linter.unusedSimpArgs false
namespace Go.Proofs.Ytppelnlocfcgfaa.P
open Go.RowKit Go.Proofs.YtppelnlocfcgfaaW.PrintWords Go.Proofs.YtppelnlocfcgfaaW.PrintLast Go.Proofs.YtppelnlocfcgfaaW.PrintMore
open Go.Proofs.Fnd
set_option linter.unusedVariables false
set_option linter.unusedSimpArgs false

/-- the first k ranks are the bytes -/
def IsBytes (s : List UInt8) (k : Nat) (r : List Int) : Prop := r.length = s.length ∧ ∀ j, (h : j < k) → (hs : j < s.length) → Fnd.el r j = ((s[j]).toNat : Int)
theorem isBytes_zero (s : List UInt8) : IsBytes s 0 (List.replicate s.length 0) := ⟨by simp, fun j h => by omega⟩
theorem isBytes_step {s : List UInt8} {k : Nat} {r : List Int} (h : IsBytes s k r) (hk : k < s.length) : IsBytes s (k + 1) (r.set k ((s[k]).toNat : Int)) := by
  refine ⟨by simp [h.1], fun j hj hs => ?_⟩
  by_cases e : j = k
  · subst e; simp [Fnd.el, h.1, hk]
  · rw [← h.2 j (by omega) hs]
    unfold Fnd.el
    rw [List.getD_eq_getElem?_getD, List.getElem?_set_ne (by omega), List.getD_eq_getElem?_getD]
theorem isBytes_done {s : List UInt8} {r : List Int} (h : IsBytes s s.length r) : r = s.map fun b => (b.toNat : Int) := by
  apply List.ext_getElem (by simp [h.1])
  intro j h1 h2
  have := h.2 j (by rw [h.1] at h1; exact h1) (by rw [h.1] at h1; exact h1)
  simp only [Fnd.el, List.getD_eq_getElem?_getD, List.getElem?_eq_getElem h1, Option.getD_some] at this
  simp [this]
/-- the first k places' ranks are written down -/
def IsLvl (s : List UInt8) (w : Nat) (o : Nat → Nat) (k : Nat) (nx : List Int) : Prop := nx.length = s.length ∧ ∀ p, p < k → el nx (o p) = (lvl s w o p : Int)
theorem isLvl_zero (s : List UInt8) (w : Nat) (o : Nat → Nat) : IsLvl s w o 1 (List.replicate s.length 0) := ⟨by simp, fun p hp => by
  obtain rfl : p = 0 := by omega
  simp only [lvl, el, List.getD_eq_getElem?_getD, List.getElem?_replicate]
  split <;> rfl⟩
theorem isLvl_step {s : List UInt8} {w : Nat} {o : Nat → Nat} {k : Nat} {nx : List Int} (h : IsLvl s w o k nx) (hs : Sorted s w o) (hk : k < s.length) : IsLvl s w o (k + 1) (nx.set (o k) (lvl s w o k : Int)) := by
  refine ⟨by simp [h.1], fun p hp => ?_⟩
  by_cases e : p = k
  · subst e
    unfold el
    rw [List.getD_eq_getElem?_getD, List.getElem?_set_self (by rw [h.1]; exact hs.lt p hk)]; rfl
  · rw [← h.2 p (by omega)]
    unfold el
    rw [List.getD_eq_getElem?_getD, List.getElem?_set_ne (fun e2 => e (hs.inj p k (by omega) hk e2.symm)), List.getD_eq_getElem?_getD]
theorem ints_perm {l : List Int} {n : Nat} (h : l.Perm ((List.range n).map Int.ofNat)) : ∃ xs : List Nat, l = xs.map Int.ofNat ∧ xs.Perm (List.range n) := by
  have hm : ∀ x ∈ l, 0 ≤ x := fun x hx => by
    obtain ⟨i, _, rfl⟩ := List.mem_map.1 (h.mem_iff.1 hx)
    exact Int.natCast_nonneg i
  refine ⟨l.map Int.toNat, ?_, ?_⟩
  · rw [List.map_map]
    apply List.ext_getElem (by simp)
    intro i h1 h2
    have := hm l[i] (List.getElem_mem _)
    simp; omega
  · refine (h.map Int.toNat).trans ?_
    rw [List.map_map]
    have : (Int.toNat ∘ Int.ofNat) = id := by funext x; simp
    rw [this, List.map_id]
set_option maxHeartbeats 4000000 in
set_option maxRecDepth 100000 in
theorem suffixes_calls1 (a0 : ByteArray) (hs : a0.size ≤ 4096) (hpos : 0 < a0.size) (w : World) :
    Calls Try.prog 54 #[.string a0] w fun e w' => ∃ (v0_ : Value) (r : List Int), e = .returned (v0_) ∧ Kd.R (Kd.int .i64) 3 w' w.heap.size (fun _ => True) v0_ r ∧ Below w.heap.size w w' ∧ ∃ l, r = l.map Int.ofNat ∧ IsOrd a0.data.toList l := by
  have HSZ := Aside0.mk (show a0.data.toList.length = a0.size from data_length a0)
  have HN0 := Aside0.mk (show (w.alloc (Obj.cells #[.int .i64 (a0.size : Int)] 3)).heap[w.heap.size]? = some (.cells #[.int .i64 (a0.size : Int)] 3 (0, 0)) from heap_alloc_new _ _)
  have HB0 := Aside0.mk ((Below.refl w.heap.size w).alloc (Nat.le_refl _) (Obj.cells #[.int .i64 (a0.size : Int)] 3))
  have hz1 : 0 ≤ ((a0.size : Nat) : Int) := by omega
  have hz2 : ((a0.size : Nat) : Int).toNat * 8 ≤ 281474976710656 := by omega
  go_enter Try.func54, Try.ntmps54
  go_wp2_with (first | (go_at_call 65; go_must (with_reducible refine (find_sortBytes_calls a0 hs _).mono ?_); rintro e w1 ⟨v1, r1, rfl, ho1, hb1, hperm1⟩; have HO1 := Aside0.mk (Kd.R_lower (Kd.R_mono (Kd.R_bound ho1) (ok' := fun k => k < w1.heap.size ∧ w.heap.size < k) (fun k hk => ⟨hk.2.2.1, by have h1 := hk.2.1; simp at h1; omega⟩)) HB0.out.size); have HP1 := Aside0.mk hperm1; have HN1 := Aside0.mk (blk_below HN0.out hb1); have HLT := Aside0.mk (blk_lt HN1.out); have HB1 := Aside0.mk (below_step HB0.out hb1); have hcn := blk_cell HN1.out 0; clear ho1 hb1 hperm1 HN0 HB0) | ((with_reducible refine gate_dst (N := 19) rfl ?_); go_must (refine Kd.R_make (Kd.int .i64) _ 3 rfl (N := 19) rfl 22 _ _ rfl (a0.size : Int) rfl rfl Try.underlying22 (.int .i64 0) 8 info3 rfl (by decide) (by omega) 0 (ok := fun k => w1.heap.size ≤ k) (okp := fun k => w1.heap.size ≤ k) rfl (fun _ hk => hk) (Nat.le_refl _) hz1 hz2 (Below.refl _ _) (Nat.le_refl _) ?_); intro v2 w2 ho2 hb2 hg2_ hnew2_; obtain ⟨A2, c2, hv2⟩ := Kd.R_slice ho2; rw [List.length_replicate, Int.toNat_natCast] at hv2; subst hv2; simp only [Int.toNat_natCast] at ho2; have HO2 := Aside0.mk (Kd.R_lower ho2 HB1.out.size); have HO1' := Aside0.mk (Kd.R_below HO1.out hb2); have HN2 := Aside0.mk (blk_below HN1.out hb2); have HB2 := Aside0.mk (below_step HB1.out hb2); have HG23 := Aside0.mk (hb2.size); clear ho2 hb2 hg2_ hnew2_ HO1 HN1 HB1 hcn; have hcn2 : ∀ o, (w2.alloc o).cell? ⟨w.heap.size, 0, none⟩ = some (.int .i64 (a0.size : Int)) := fun o => blk_cell (blk_alloc HN2.out o) 0))
  clear hcn2
  have HN3 := Aside0.mk (blk_alloc HN2.out (Obj.cells #[Value.slice A2 a0.size c2] 22))
  have HR3 := Aside0.mk (heap_alloc_new w2 (Obj.cells #[Value.slice A2 a0.size c2] 22))
  have HO13 := Aside0.mk (Kd.R_alloc HO1'.out (Obj.cells #[Value.slice A2 a0.size c2] 22))
  have HO23 := Aside0.mk (Kd.R_alloc HO2.out (Obj.cells #[Value.slice A2 a0.size c2] 22))
  have HB3 := Aside0.mk (below_alloc HB2.out (Obj.cells #[Value.slice A2 a0.size c2] 22))
  have HG3 := Aside0.mk HB2.out.size
  have HU3 : Aside0 (IsBytes a0.data.toList 0 (List.replicate a0.size 0)) := ⟨by rw [← HSZ.out]; exact isBytes_zero _⟩
  clear HN2 HO1' HO2 HB2
  go_loopw [21] (fun v21 wr => ∃ (k : Nat) (rk : List Int), k ≤ a0.size ∧ v21 = .int .i64 k ∧ Aside0 (IsBytes a0.data.toList k rk) ∧ Aside0 (wr.heap[w.heap.size]? = some (.cells #[.int .i64 (a0.size : Int)] 3 (0, 0))) ∧ Aside0 (wr.heap[w2.heap.size]? = some (.cells #[Value.slice A2 a0.size c2] 22 (0, 0))) ∧ Aside0 (Kd.R (Kd.int .i64) 3 wr w.heap.size (fun k => k < w1.heap.size ∧ w.heap.size < k) v1 r1) ∧ Aside0 (Kd.R (Kd.int .i64) 3 wr w.heap.size (fun k => w1.heap.size ≤ k) (.slice A2 a0.size c2) rk) ∧ Aside0 (Below w.heap.size w wr)) (fun v21 _ => a0.size - (intOf v21).toNat)
  case atStart => exact ⟨0, _, by omega, rfl, HU3, HN3, HR3, HO13, HO23, HB3⟩
  case round =>
    obtain ⟨k, rk, hk, rfl, HU, HN, HR, HO1, HO2, HB⟩ := hrel
    clear HN3 HR3 HO13 HO23 HB3 HU3
    by_cases hlt : k < a0.size
    · have hks : k < a0.data.toList.length := by rw [HSZ.out]; exact hlt
      have hrl : rk.length = a0.size := by rw [HU.out.1]; exact HSZ.out
      obtain ⟨g, cp, hv2, hg1, hg2, cl, hgc⟩ := Kd.R_form HO2.out (by omega)
      injection hv2 with e1 e2 e3
      subst e1
      obtain ⟨hx, hf⟩ := Kd.R_celln 0 HO2.out (k : Int) (by omega) (by omega)
      have HP := Kd.R_putg HO2.out (k : Int) (a0[k].toNat : Int)
      simp only [Int.toNat_natCast] at hx hf HP
      have hc8 : ((a0[k].toNat : Nat) : Int) ≤ 255 := by have := a0[k].toNat_lt; omega
      have hne : w2.heap.size ≠ g := blk_ne HR.out hgc (by decide)
      have hnn : w.heap.size ≠ g := by
        have h1 : w1.heap.size ≤ g := HO2.out.1 g rfl
        have h2 := HLT.out
        omega
      have HGL : Aside0 (∀ k, k < w1.heap.size → k ≠ g) := ⟨fun q hq e => by
        have h1 : w1.heap.size ≤ g := HO2.out.1 g rfl
        omega⟩
      have hcr := blk_cell HR.out 0
      clear hrl e2 e3
      have HN' := Aside0.mk (blk_far HN.out (p := ⟨g, k, none⟩) hnn (.int .i64 (a0[k].toNat : Int)))
      have HR' := Aside0.mk (blk_far HR.out (p := ⟨g, k, none⟩) hne (.int .i64 (a0[k].toNat : Int)))
      have HO1' := Aside0.mk (Kd.R_far HO1.out (p := ⟨g, k, none⟩) (fun q hq => HGL.out q hq.1) (.int .i64 (a0[k].toNat : Int)))
      have HO2' := Aside0.mk HP.1
      have HB' := Aside0.mk (below_set HB.out hg1 : Below w.heap.size w (wr.setCell ⟨g, k, none⟩ (.int .i64 (a0[k].toNat : Int))))
      have HU' : Aside0 (IsBytes a0.data.toList (k + 1) (rk.set k (a0[k].toNat : Int))) := ⟨isBytes_step HU.out hks⟩
      clear HP HU HN HR HO1 HO2 HB hgc
      go_wp2
      go_region
      all_goals (try go_wp2)
      all_goals go_roundw
      case rel => exact ⟨k + 1, _, by omega, by go_num, HU', HN', HR', HO1', HO2', ⟨below_drew HB'.out⟩⟩
      case measure => simp [intOf]; omega
    · obtain rfl : k = a0.size := by omega
      have HRK : Aside0 (RankOK a0.data.toList 1 rk) := ⟨by
        have h := HU.out
        rw [← HSZ.out] at h
        rw [isBytes_done h]
        exact rank_bytes _⟩
      -- the order's row: a block of its own
      have hrl : r1.length = a0.size := by rw [HP1.out.length_eq, List.length_map, List.length_range]; exact HSZ.out
      obtain ⟨g, cap, hv1, hg1, hg2, cl, hgc⟩ := Kd.R_form HO1.out (by omega)
      rw [hrl] at hv1
      subst hv1
      have hgw1 : g < w1.heap.size ∧ w.heap.size < g := HO1.out.1 g rfl
      obtain ⟨xs, hxs, hxp⟩ := ints_perm HP1.out
      subst hxs
      have HXP : Aside0 (xs.Perm (List.range a0.size)) := ⟨by rw [← HSZ.out]; exact hxp⟩
      have hrkl : rk.length = a0.size := by rw [HU.out.1]; exact HSZ.out
      have HO1' := Aside0.mk (R_ok HO1.out (ok' := fun k => k = g) (fun k hk => by simpa [Value.ownBlock] using hk.symm))
      have HO2' := Aside0.mk (Kd.R_mono HO2.out (ok' := fun k => k ≠ g) (fun k hk => by have := hgw1.1; omega))
      rw [← hrkl] at HR HO2'
      clear hrl hxp HO1 HO2 hgc HU hrkl HP1
      obtain ⟨w3, hw3⟩ : ∃ w3 : World, w3 = wr := ⟨_, rfl⟩
      subst hw3
      -- the worlds at the head of the great loop
      have HWW := Aside0.mk (heap_alloc_new w3 (Obj.cells #[Value.int IntKind.i64 1] 3))
      have HNW := Aside0.mk (blk_alloc HN.out (Obj.cells #[Value.int IntKind.i64 1] 3))
      have HRW := Aside0.mk (blk_alloc HR.out (Obj.cells #[Value.int IntKind.i64 1] 3))
      have HOW1 := Aside0.mk (Kd.R_alloc HO1'.out (Obj.cells #[Value.int IntKind.i64 1] 3))
      have HOW2 := Aside0.mk (Kd.R_alloc HO2'.out (Obj.cells #[Value.int IntKind.i64 1] 3))
      have HBW := Aside0.mk (below_alloc HB.out (Obj.cells #[Value.int IntKind.i64 1] 3))
      have hgne : w3.heap.size ≠ g := by omega
      have hgn : w.heap.size ≠ g := by omega
      have hgr : w2.heap.size ≠ g := by have := HG23.out; omega
      have HGW := Aside0.mk (HB.out.size)
      clear HN HR HO1' HO2' HB
      have hmf : ∀ (fn : Fn) (first cap : Array Value) (w : World), (Instr.makeFunc fn first cap).run Try.prog w = .ok (.func fn first cap) w := fun _ _ _ _ => rfl
      go_wp2
      go_loopg [7] 8192 (fun kq v7 wq => ∃ (width gw : Nat) (rk : List Int) (A : Option Addr) (c : Nat) (xs : List Nat), v7 = .pointer (some ⟨gw, 0, none⟩) ∧ kq + width = 8193 ∧ 0 < width ∧ width ≤ 4096 ∧ gw ≠ g ∧ w.heap.size ≤ gw ∧ Aside0 (RankOK a0.data.toList width rk) ∧ Aside0 (xs.Perm (List.range a0.size)) ∧ Aside0 (wq.heap[gw]? = some (.cells #[.int .i64 (width : Int)] 3 (0, 0))) ∧ Aside0 (wq.heap[w.heap.size]? = some (.cells #[.int .i64 (a0.size : Int)] 3 (0, 0))) ∧ Aside0 (wq.heap[w2.heap.size]? = some (.cells #[Value.slice A rk.length c] 22 (0, 0))) ∧ Aside0 (Kd.R (Kd.int .i64) 3 wq w.heap.size (fun k => k = g) (.slice (some ⟨g, 0, none⟩) a0.size cap) (xs.map Int.ofNat)) ∧ Aside0 (Kd.R (Kd.int .i64) 3 wq w.heap.size (fun k => k ≠ g) (.slice A rk.length c) rk) ∧ Aside0 (Below w.heap.size w wq))
      case atStart => exact ⟨1, w3.heap.size, rk, A2, c2, xs, rfl, rfl, by omega, by omega, hgne, HGW.out, HRK, HXP, HWW, HNW, HRW, HOW1, HOW2, HBW⟩
      case round =>
        obtain ⟨width, gw, rk, A, c, xs, rfl, hgk, hw0, hw1, hgwg, hgwb, HRK, HXP, HW, HN, HR, HO1, HO2, HB⟩ := hrel
        have hgs : g < wr.heap.size := own_lt (Kd.own_of_R HO1.out) g rfl
        have HNA := Aside0.mk (blk_alloc HN.out (Obj.cells #[.func (.func 66) #[] #[.pointer (some ⟨gw, 0, none⟩), .pointer (some ⟨w.heap.size, 0, none⟩), .pointer (some ⟨w2.heap.size, 0, none⟩)]] 91))
        have HRA := Aside0.mk (blk_alloc HR.out (Obj.cells #[.func (.func 66) #[] #[.pointer (some ⟨gw, 0, none⟩), .pointer (some ⟨w.heap.size, 0, none⟩), .pointer (some ⟨w2.heap.size, 0, none⟩)]] 91))
        have HWA := Aside0.mk (blk_alloc HW.out (Obj.cells #[.func (.func 66) #[] #[.pointer (some ⟨gw, 0, none⟩), .pointer (some ⟨w.heap.size, 0, none⟩), .pointer (some ⟨w2.heap.size, 0, none⟩)]] 91))
        have HFA := Aside0.mk (heap_alloc_new wr (Obj.cells #[.func (.func 66) #[] #[.pointer (some ⟨gw, 0, none⟩), .pointer (some ⟨w.heap.size, 0, none⟩), .pointer (some ⟨w2.heap.size, 0, none⟩)]] 91))
        have HO1A := Aside0.mk (Kd.R_alloc HO1.out (Obj.cells #[.func (.func 66) #[] #[.pointer (some ⟨gw, 0, none⟩), .pointer (some ⟨w.heap.size, 0, none⟩), .pointer (some ⟨w2.heap.size, 0, none⟩)]] 91))
        have HO2A := Aside0.mk (Kd.R_alloc HO2.out (Obj.cells #[.func (.func 66) #[] #[.pointer (some ⟨gw, 0, none⟩), .pointer (some ⟨w.heap.size, 0, none⟩), .pointer (some ⟨w2.heap.size, 0, none⟩)]] 91))
        have HBA := Aside0.mk (below_alloc HB.out (Obj.cells #[.func (.func 66) #[] #[.pointer (some ⟨gw, 0, none⟩), .pointer (some ⟨w.heap.size, 0, none⟩), .pointer (some ⟨w2.heap.size, 0, none⟩)]] 91))
        have HBX : Aside0 (Boxes (wr.alloc (Obj.cells #[.func (.func 66) #[] #[.pointer (some ⟨gw, 0, none⟩), .pointer (some ⟨w.heap.size, 0, none⟩), .pointer (some ⟨w2.heap.size, 0, none⟩)]] 91)) w.heap.size w2.heap.size gw a0.size width rk A c) := ⟨blk_cell HNA.out 0, blk_cell HRA.out 0, blk_cell HWA.out 0, (Kd.R_reads' HO2A.out).2.2⟩
        have HSC := Aside0.mk (sort_calls' a0.data.toList a0.size w.heap.size w2.heap.size gw wr.heap.size g width rk A c cap w.heap.size w.heap.size (fun k => k = g) xs _ hpos HSZ.out hs hw0 (by omega) HRK.out HBX.out (blk_cell HFA.out 0) HO2A.out hgn hgr hgwg (by omega) HO1A.out HXP.out)
        have hge : wr.heap.size ≠ g := by omega
        clear HN HR HW HO1 HO2 HB HWW HNW HRW HOW1 HOW2 HBW HBX
        go_wp2_with (first | (go_at_call 67; go_must (refine HSC.out.mono ?_); rintro e w4 ⟨rfl, ys, o, hyo, hyp, hyR, hyg, hys⟩; have HYO := Aside0.mk hyo; have HN4 := Aside0.mk (blk_grown HNA.out hyg (by simpa using hgn)); have HR4 := Aside0.mk (blk_grown HRA.out hyg (by simpa using hgr)); have HW4 := Aside0.mk (blk_grown HWA.out hyg (by simpa using hgwg)); have HF4 := Aside0.mk (blk_grown HFA.out hyg (by simpa using hge)); have HY4 := Aside0.mk hyR; have HYP := Aside0.mk hyp; have HYS := Aside0.mk hys; have HK4 := Aside0.mk (Kd.R_mono (Kd.R_bound (Kd.R_grown HO2A.out hyg (fun k hk e => hk (by simpa using e)))) (ok' := fun k => k ≠ g ∧ k < w4.heap.size) (fun k hk => ⟨hk.1, hk.2.2.1⟩)); have HB4 := Aside0.mk (pw_below_grown HBA.out (some g) HBA.out.size hyg (fun k e => by cases e; exact hg1)); have hgs4 : g < w4.heap.size := own_lt (Kd.own_of_R hyR) g rfl; have hcn4 := blk_cell HN4.out 0; have hgw4 := blk_lt HW4.out; clear HNA HRA HWA HFA HO1A HO2A HBA HSC hyo hyp hyR hyg hys) | ((with_reducible refine gate_dst (N := 39) rfl ?_); go_must (refine Kd.R_make (Kd.int .i64) _ 3 rfl (N := 39) rfl 22 _ _ rfl (a0.size : Int) rfl rfl Try.underlying22 (.int .i64 0) 8 info3 rfl (by decide) (by omega) 0 (ok := fun k => w4.heap.size ≤ k) (okp := fun k => w4.heap.size ≤ k) rfl (fun _ hk => hk) (Nat.le_refl _) hz1 hz2 (Below.refl _ _) (Nat.le_refl _) ?_); intro v5 w5 ho5 hb5 hg5_ hnew5_; obtain ⟨A5, c5, hv5⟩ := Kd.R_slice ho5; rw [List.length_replicate, Int.toNat_natCast] at hv5; subst hv5; simp only [Int.toNat_natCast] at ho5; have HX5 := Aside0.mk (Kd.R_lower ho5 HB4.out.size); have HN5 := Aside0.mk (blk_below HN4.out hb5); have HR5 := Aside0.mk (blk_below HR4.out hb5); have HW5 := Aside0.mk (blk_below HW4.out hb5); have HF5 := Aside0.mk (blk_below HF4.out hb5); have HY5 := Aside0.mk (Kd.R_below HY4.out hb5); have HK5 := Aside0.mk (Kd.R_below HK4.out hb5); have HB5 := Aside0.mk (below_step HB4.out hb5); have hcn5 := blk_cell HN5.out 0; clear ho5 hb5 hg5_ hnew5_ HN4 HR4 HW4 HF4 HY4 HK4 HB4 hcn4))
        clear hcn5
        have hnx0 : Aside0 (IsLvl a0.data.toList (width + width) o 1 (List.replicate a0.size 0)) := ⟨by rw [← HSZ.out]; exact isLvl_zero _ _ _⟩
        obtain ⟨w6, hw6⟩ : ∃ w6 : World, w6 = wr := ⟨_, rfl⟩
        subst hw6
        go_loopw [10, 11] (fun v10 v11 wx => ∃ (j : Nat) (nx : List Int), j + 1 ≤ a0.size ∧ v11 = .int .i64 ((j : Int) + 1) ∧ v10 = .int .i64 ((lvl a0.data.toList (width + width) o j : Nat) : Int) ∧ Aside0 (IsLvl a0.data.toList (width + width) o (j + 1) nx) ∧ Aside0 (wx.heap[w.heap.size]? = some (.cells #[.int .i64 (a0.size : Int)] 3 (0, 0))) ∧ Aside0 (wx.heap[w2.heap.size]? = some (.cells #[Value.slice A rk.length c] 22 (0, 0))) ∧ Aside0 (wx.heap[gw]? = some (.cells #[.int .i64 (width : Int)] 3 (0, 0))) ∧ Aside0 (wx.heap[w6.heap.size]? = some (.cells #[.func (.func 66) #[] #[.pointer (some ⟨gw, 0, none⟩), .pointer (some ⟨w.heap.size, 0, none⟩), .pointer (some ⟨w2.heap.size, 0, none⟩)]] 91 (0, 0))) ∧ Aside0 (Kd.R (Kd.int .i64) 3 wx w.heap.size (fun k => k = g) (.slice (some ⟨g, 0, none⟩) a0.size cap) (ys.map Int.ofNat)) ∧ Aside0 (Kd.R (Kd.int .i64) 3 wx w.heap.size (fun k => k ≠ g ∧ k < w4.heap.size) (.slice A rk.length c) rk) ∧ Aside0 (Kd.R (Kd.int .i64) 3 wx w.heap.size (fun k => w4.heap.size ≤ k) (.slice A5 a0.size c5) nx) ∧ Aside0 (Below w.heap.size w wx)) (fun _ v11 _ => a0.size - (intOf v11).toNat)
        case atStart => exact ⟨0, _, hpos, rfl, rfl, hnx0, HN5, HR5, HW5, HF5, HY5, HK5, HX5, HB5⟩
        case round =>
          obtain ⟨j, nx, hj, rfl, rfl, HL, HN, HR, HW, HF, HY, HK, HX, HB⟩ := hrel
          clear hnx0 HN5 HR5 HW5 HF5 HY5 HK5 HX5 HB5
          by_cases hlt : j + 1 < a0.size
          · have hcn := blk_cell HN.out 0
            have hcr := blk_cell HR.out 0
            have hcf := blk_cell HF.out 0
            have HBX : Aside0 (Boxes wr w.heap.size w2.heap.size gw a0.size width rk A c) := ⟨hcn, hcr, blk_cell HW.out 0, (Kd.R_reads' HK.out).2.2⟩
            have hyl : (ys.map Int.ofNat).length = a0.size := by rw [List.length_map, HYP.out.length_eq, List.length_range]
            have hoI : ∀ p, rdOf 0 (ys.map Int.ofNat) (p : Nat) = ((o p : Nat) : Int) := fun p => by
              rw [HYO.out]
              simp only [rdOf, Int.toNat_natCast, List.getD_eq_getElem?_getD, List.getElem?_map]
              cases ys[p]? <;> rfl
            obtain ⟨hca, _⟩ := Kd.R_celln 0 HY.out (j : Int) (by omega) (by omega)
            obtain ⟨hcb, _⟩ := Kd.R_celln 0 HY.out ((j + 1 : Nat) : Int) (by omega) (by omega)
            rw [hoI, Int.toNat_natCast] at hca hcb
            have HRL := Aside0.mk (show rk.length = a0.size by rw [HRK.out.len]; exact HSZ.out)
            have hoa : o j < a0.size := by have := HYS.out.lt j (by rw [HSZ.out]; omega); rw [HSZ.out] at this; exact this
            have hob : o (j + 1) < a0.size := by have := HYS.out.lt (j + 1) (by rw [HSZ.out]; omega); rw [HSZ.out] at this; exact this
            clear hyl hoI
            -- the ranks at the two places
            obtain ⟨ad, hA, hxa⟩ := Kd.at_int (Kd.R_reads' HK.out).2.2 (o j : Int) (by omega) (by rw [HRL.out]; omega)
            obtain ⟨ad', hA', hxb⟩ := Kd.at_int (Kd.R_reads' HK.out).2.2 (o (j + 1) : Int) (by omega) (by rw [HRL.out]; omega)
            subst hA
            cases hA'
            rw [rd_el, Int.toNat_natCast] at hxa hxb
            have hia : ((o j : Nat) : Int) < ((rk.length : Nat) : Int) := by rw [HRL.out]; omega
            have hib : ((o (j + 1) : Nat) : Int) < ((rk.length : Nat) : Int) := by rw [HRL.out]; omega
            have hia' : o j < rk.length := by rw [HRL.out]; omega
            have hib' : o (j + 1) < rk.length := by rw [HRL.out]; omega
            -- the place of the new rank
            obtain ⟨g5, c5', hv5, hg51, hg52, cl5, hgc5⟩ := Kd.R_form HX.out (by rw [HL.out.1, HSZ.out]; omega)
            injection hv5 with e1 e2 e3
            subst e1
            obtain ⟨hx5, hf5⟩ := Kd.R_celln 0 HX.out ((o (j + 1) : Nat) : Int) (by omega) (by omega)
            have HP5 := Kd.R_putg HX.out ((o (j + 1) : Nat) : Int) ((lvl a0.data.toList (width + width) o (j + 1) : Nat) : Int)
            simp only [Int.toNat_natCast] at hx5 hf5 HP5
            have hg5w : w4.heap.size ≤ g5 := HX.out.1 g5 rfl
            have HL' : Aside0 (IsLvl a0.data.toList (width + width) o (j + 1 + 1) (nx.set (o (j + 1)) ((lvl a0.data.toList (width + width) o (j + 1) : Nat) : Int))) := ⟨isLvl_step HL.out HYS.out (by rw [HSZ.out]; exact hlt)⟩
            have HCE := Aside0.mk (cmp_eq HRK.out hw0 (i := o j) (j := o (j + 1)) (by rw [HSZ.out]; exact hoa) (by rw [HSZ.out]; exact hob))
            have HBC := Aside0.mk (fun (i : Nat) (hi : i < a0.size) W hB => behind_calls i w.heap.size w2.heap.size gw a0.size width rk (some ad) c W hB HRL.out hs hi (by omega) (fun q hq => ⟨HRK.out.lo q (by rw [HSZ.out]; exact hq), HRK.out.hi q (by rw [HSZ.out]; exact hq)⟩))
            have HV := Aside0.mk (lvl_le a0.data.toList (width + width) o j)
            have hv0 : 0 ≤ ((lvl a0.data.toList (width + width) o j : Nat) : Int) := by omega
            have hv1 : ((lvl a0.data.toList (width + width) o j : Nat) : Int) ≤ 4096 := by have := HV.out; omega
            -- where the new world stands
            have hnew : ∀ (V : Value), Aside0 ((wr.setCell ⟨g5, o (j + 1), none⟩ V).heap[w.heap.size]? = some (.cells #[.int .i64 (a0.size : Int)] 3 (0, 0)) ∧ (wr.setCell ⟨g5, o (j + 1), none⟩ V).heap[w2.heap.size]? = some (.cells #[Value.slice (some ad) rk.length c] 22 (0, 0)) ∧ (wr.setCell ⟨g5, o (j + 1), none⟩ V).heap[gw]? = some (.cells #[.int .i64 (width : Int)] 3 (0, 0)) ∧ (wr.setCell ⟨g5, o (j + 1), none⟩ V).heap[w6.heap.size]? = some (.cells #[.func (.func 66) #[] #[.pointer (some ⟨gw, 0, none⟩), .pointer (some ⟨w.heap.size, 0, none⟩), .pointer (some ⟨w2.heap.size, 0, none⟩)]] 91 (0, 0)) ∧ Kd.R (Kd.int .i64) 3 (wr.setCell ⟨g5, o (j + 1), none⟩ V) w.heap.size (fun k => k = g) (.slice (some ⟨g, 0, none⟩) a0.size cap) (ys.map Int.ofNat) ∧ Kd.R (Kd.int .i64) 3 (wr.setCell ⟨g5, o (j + 1), none⟩ V) w.heap.size (fun k => k ≠ g ∧ k < w4.heap.size) (.slice (some ad) rk.length c) rk ∧ Below w.heap.size w (wr.setCell ⟨g5, o (j + 1), none⟩ V)) := fun V => ⟨blk_far HN.out (p := ⟨g5, o (j + 1), none⟩) (by show w.heap.size ≠ g5; omega) V, blk_far HR.out (p := ⟨g5, o (j + 1), none⟩) (blk_ne HR.out hgc5 (by decide)) V, blk_far HW.out (p := ⟨g5, o (j + 1), none⟩) (by show gw ≠ g5; omega) V, blk_far HF.out (p := ⟨g5, o (j + 1), none⟩) (blk_ne HF.out hgc5 (by decide)) V, Kd.R_far HY.out (p := ⟨g5, o (j + 1), none⟩) (fun q hq => by show q ≠ g5; have h1 : q = g := hq; omega) V, Kd.R_far HK.out (p := ⟨g5, o (j + 1), none⟩) (fun q hq => by show q ≠ g5; have h1 : q < w4.heap.size := hq.2; omega) V, below_set HB.out hg51⟩
            have HNEW := Aside0.mk hnew
            clear hnew HN HR HW HF HY HK HX HB HL hgc5 e2 e3 HV
            by_cases hq : el rk (o j) = el rk (o (j + 1))
            · have hq1 : (el rk (o j) == el rk (o (j + 1))) = true := by simp [hq]
              have hq2 : (el rk (o j) != el rk (o (j + 1))) = false := by simp [hq]
              have hb1 := bh_range a0.size width rk (o j) (fun q hq => ⟨HRK.out.lo q (by rw [HSZ.out]; exact hq), HRK.out.hi q (by rw [HSZ.out]; exact hq)⟩)
              have hb2 := bh_range a0.size width rk (o (j + 1)) (fun q hq => ⟨HRK.out.lo q (by rw [HSZ.out]; exact hq), HRK.out.hi q (by rw [HSZ.out]; exact hq)⟩)
              have HBX2 := Aside0.mk (fun n => HBX.out.drewN n)
              by_cases hz : bh a0.size width rk (o j) = bh a0.size width rk (o (j + 1))
              · have hup : Aside0 (lvl a0.data.toList (width + width) o (j + 1) = lvl a0.data.toList (width + width) o j) := ⟨lvl_same (HCE.out.1 ⟨hq, by rw [HSZ.out]; exact hz⟩)⟩
                have hz1 : (bh a0.size width rk (o j) == bh a0.size width rk (o (j + 1))) = true := by simp [hz]
                have hz2 : (bh a0.size width rk (o j) != bh a0.size width rk (o (j + 1))) = false := by simp [hz]
                rw [hup.out] at HP5 HL'
                clear hq hz HBX
                generalize el rk (o j) = xa at *
                generalize el rk (o (j + 1)) = xb at *
                generalize lvl a0.data.toList (width + width) o j = lv at *
                go_wp2
                go_quiet (fail)
                go_wp2
                go_quiet ((go_at_call 66; exact quiet_add_same (HBC.out _ (by assumption) _ (HBX2.out _))))
                go_wp2
                go_roundw
                case rel => exact ⟨j + 1, _, by omega, by go_num, by rw [hup.out], HL', ⟨(HNEW.out _).out.1⟩, ⟨(HNEW.out _).out.2.1⟩, ⟨(HNEW.out _).out.2.2.1⟩, ⟨(HNEW.out _).out.2.2.2.1⟩, ⟨(HNEW.out _).out.2.2.2.2.1⟩, ⟨(HNEW.out _).out.2.2.2.2.2.1⟩, ⟨HP5.1⟩, ⟨pw_below_drewN (HNEW.out _).out.2.2.2.2.2.2 _⟩⟩
                case measure => simp [intOf]; omega
              · have hup : Aside0 (lvl a0.data.toList (width + width) o (j + 1) = lvl a0.data.toList (width + width) o j + 1) := ⟨lvl_up (fun e => hz (by have := (HCE.out.2 e).2; rw [HSZ.out] at this; exact this))⟩
                have hz1 : (bh a0.size width rk (o j) == bh a0.size width rk (o (j + 1))) = false := by simp [hz]
                have hz2 : (bh a0.size width rk (o j) != bh a0.size width rk (o (j + 1))) = true := by simp [hz]
                rw [hup.out, Int.natCast_add, Int.natCast_one] at HP5 HL'
                clear hq hz HBX
                generalize el rk (o j) = xa at *
                generalize el rk (o (j + 1)) = xb at *
                generalize lvl a0.data.toList (width + width) o j = lv at *
                go_wp2
                go_quiet (fail)
                go_wp2
                go_quiet ((go_at_call 66; exact quiet_add_same (HBC.out _ (by assumption) _ (HBX2.out _))))
                go_wp2
                go_roundw
                case rel => exact ⟨j + 1, _, by omega, by go_num, by rw [hup.out, Int.natCast_add, Int.natCast_one], HL', ⟨(HNEW.out _).out.1⟩, ⟨(HNEW.out _).out.2.1⟩, ⟨(HNEW.out _).out.2.2.1⟩, ⟨(HNEW.out _).out.2.2.2.1⟩, ⟨(HNEW.out _).out.2.2.2.2.1⟩, ⟨(HNEW.out _).out.2.2.2.2.2.1⟩, ⟨HP5.1⟩, ⟨pw_below_drewN (HNEW.out _).out.2.2.2.2.2.2 _⟩⟩
                case measure => simp [intOf]; omega
            · have hup : Aside0 (lvl a0.data.toList (width + width) o (j + 1) = lvl a0.data.toList (width + width) o j + 1) := ⟨lvl_up (fun e => hq (HCE.out.2 e).1)⟩
              have hq1 : (el rk (o j) == el rk (o (j + 1))) = false := by simp [hq]
              have hq2 : (el rk (o j) != el rk (o (j + 1))) = true := by simp [hq]
              rw [hup.out, Int.natCast_add, Int.natCast_one] at HP5 HL'
              clear hq HBX
              generalize el rk (o j) = xa at *
              generalize el rk (o (j + 1)) = xb at *
              generalize lvl a0.data.toList (width + width) o j = lv at *
              go_wp2
              go_quiet (fail)
              go_wp2
              go_quiet (fail)
              go_wp2
              go_roundw
              case rel => exact ⟨j + 1, _, by omega, by go_num, by rw [hup.out, Int.natCast_add, Int.natCast_one], HL', ⟨(HNEW.out _).out.1⟩, ⟨(HNEW.out _).out.2.1⟩, ⟨(HNEW.out _).out.2.2.1⟩, ⟨(HNEW.out _).out.2.2.2.1⟩, ⟨(HNEW.out _).out.2.2.2.2.1⟩, ⟨(HNEW.out _).out.2.2.2.2.2.1⟩, ⟨HP5.1⟩, ⟨pw_below_drewN (HNEW.out _).out.2.2.2.2.2.2 _⟩⟩
              case measure => simp [intOf]; omega
          · have hje : j + 1 = a0.size := by omega
            have HJE := Aside0.mk hje
            have hcn := blk_cell HN.out 0
            have hcr := blk_cell HR.out 0
            have hfr := blk_frozen HR.out 0
            have hcw := blk_cell HW.out 0
            have HRK2 : Aside0 (RankOK a0.data.toList (width + width) nx) := ⟨HYS.out.ranks HL.out.1 (by rw [HSZ.out]; exact hs) (fun p hp => HL.out.2 p (by rw [HSZ.out] at hp; omega))⟩
            have hnl : nx.length = a0.size := by rw [HL.out.1, HSZ.out]
            have HNL := Aside0.mk hnl
            have HV := Aside0.mk (lvl_le a0.data.toList (width + width) o j)
            have hv0 : 0 ≤ ((lvl a0.data.toList (width + width) o j : Nat) : Int) := by omega
            have hv1 : ((lvl a0.data.toList (width + width) o j : Nat) : Int) ≤ 4096 := by have := HV.out; omega
            have hgR : w2.heap.size < wr.heap.size := blk_lt HR.out
            have HN' := Aside0.mk (blk_far HN.out (p := ⟨w2.heap.size, 0, none⟩) (blk_ne HN.out HR.out (by decide)) (.slice A5 a0.size c5))
            have HW' := Aside0.mk (blk_far HW.out (p := ⟨w2.heap.size, 0, none⟩) (blk_ne HW.out HR.out (by decide)) (.slice A5 a0.size c5))
            have HR' : Aside0 ((wr.setCell ⟨w2.heap.size, 0, none⟩ (.slice A5 a0.size c5)).heap[w2.heap.size]? = some (.cells #[Value.slice A5 a0.size c5] 22 (0, 0))) := ⟨blk_set HR.out 0 (.slice A5 a0.size c5)⟩
            have HY' := Aside0.mk (Kd.R_set HY.out HR.out (by intro q hq; simp [Kd.int, Kd.scalar] at hq; omega) 0 (.slice A5 a0.size c5))
            have HX' := Aside0.mk (Kd.R_set HX.out HR.out (by intro q hq; simp [Kd.int, Kd.scalar] at hq; omega) 0 (.slice A5 a0.size c5))
            have HB' : Aside0 (Below w.heap.size w (wr.setCell ⟨w2.heap.size, 0, none⟩ (.slice A5 a0.size c5))) := ⟨below_set HB.out HG3.out⟩
            have hnc : (wr.setCell ⟨w2.heap.size, 0, none⟩ (.slice A5 a0.size c5)).cell? ⟨w.heap.size, 0, none⟩ = some (.int .i64 (a0.size : Int)) := blk_cell HN'.out 0
            have hwc : (wr.setCell ⟨w2.heap.size, 0, none⟩ (.slice A5 a0.size c5)).cell? ⟨gw, 0, none⟩ = some (.int .i64 (width : Int)) := blk_cell HW'.out 0
            clear HN HR HW HF HY HK HX HB hje hnl
            by_cases hd : a0.size ≤ lvl a0.data.toList (width + width) o j + 1
            · have HO : Aside0 (IsOrd a0.data.toList ys) := ⟨by
                have h1 := HYS.out.done (by rw [HSZ.out, show a0.size - 1 = j by have := HJE.out; omega]; exact hd)
                have h2 : (List.range a0.data.toList.length).map o = ys := by
                  have hyl : ys.length = a0.size := by rw [HYP.out.length_eq, List.length_range]
                  apply List.ext_getElem (by simp [HSZ.out, hyl])
                  intro i h3 h4
                  simp [HYO.out, List.getElem?_eq_getElem h4]
                rwa [h2] at h1⟩
              have hdI : ((a0.size : Nat) : Int) - 1 ≤ ((lvl a0.data.toList (width + width) o j : Nat) : Int) := by omega
              generalize lvl a0.data.toList (width + width) o j = lv at *
              go_wp2
              go_ret
              exact ⟨_, _, rfl, Kd.R_mono HY'.out (fun _ _ => trivial), HB'.out, ys, rfl, HO.out⟩
            · have hw2 : width + width ≤ 4096 := by
                apply Decidable.byContradiction
                intro q
                have h1 := HYS.out.wide (by rw [HSZ.out]; omega) j (by rw [HSZ.out]; omega)
                have := HJE.out
                omega
              have hdI : ¬ ((a0.size : Nat) : Int) - 1 ≤ ((lvl a0.data.toList (width + width) o j : Nat) : Int) := by omega
              generalize lvl a0.data.toList (width + width) o j = lv at *
              have hsz : (wr.setCell ⟨w2.heap.size, 0, none⟩ (.slice A5 a0.size c5)).heap.size = wr.heap.size := by simp
              have hgwr : g < wr.heap.size := by have := own_lt (Kd.own_of_R HY'.out) g rfl; rw [hsz] at this; exact this
              have hbw : w.heap.size ≤ wr.heap.size := by have := HB'.out.size; rw [hsz] at this; exact this
              have HWN : Aside0 (((wr.setCell ⟨w2.heap.size, 0, none⟩ (.slice A5 a0.size c5)).alloc (Obj.cells #[Value.int .i64 ((width : Int) * 2)] 3)).heap[wr.heap.size]? = some (.cells #[.int .i64 ((width + width : Nat) : Int)] 3 (0, 0))) := ⟨by
                rw [show ((width + width : Nat) : Int) = (width : Int) * 2 by omega]
                have := heap_alloc_new (wr.setCell ⟨w2.heap.size, 0, none⟩ (.slice A5 a0.size c5)) (Obj.cells #[Value.int .i64 ((width : Int) * 2)] 3)
                rw [hsz] at this
                exact this⟩
              have HXN : Aside0 (Kd.R (Kd.int .i64) 3 (wr.setCell ⟨w2.heap.size, 0, none⟩ (.slice A5 a0.size c5)) w.heap.size (fun k => k ≠ g) (.slice A5 nx.length c5) nx) := ⟨by
                rw [HNL.out]
                exact Kd.R_mono HX'.out (fun k hk => by show k ≠ g; have h1 : w4.heap.size ≤ k := hk; omega)⟩
              have HRN : Aside0 ((wr.setCell ⟨w2.heap.size, 0, none⟩ (.slice A5 a0.size c5)).heap[w2.heap.size]? = some (.cells #[Value.slice A5 nx.length c5] 22 (0, 0))) := ⟨by rw [HNL.out]; exact HR'.out⟩
              clear hsz
              go_wp2
              go_roundg (8193 - (width + width))
              case measure => omega
              case rel => exact ⟨width + width, wr.heap.size, nx, A5, c5, ys, rfl, by omega, by omega, hw2, by omega, hbw, HRK2, HYP, HWN, ⟨blk_alloc HN'.out _⟩, ⟨blk_alloc HRN.out _⟩, ⟨Kd.R_alloc HY'.out _⟩, ⟨Kd.R_alloc HXN.out _⟩, ⟨below_alloc HB'.out _⟩⟩

end Go.Proofs.Ytppelnlocfcgfaa.P
namespace Go.Proofs.Ytppelnlocfcgfaa.P
open Go.RowKit Go.Proofs.YtppelnlocfcgfaaW.PrintWords Go.Proofs.YtppelnlocfcgfaaW.PrintLast Go.Proofs.YtppelnlocfcgfaaW.PrintMore
open Go.Proofs.Fnd
set_option linter.unusedVariables false
set_option linter.unusedSimpArgs false

set_option maxHeartbeats 4000000 in
set_option maxRecDepth 100000 in
theorem suffixes_calls0 (a0 : ByteArray) (hs : a0.size = 0) (w : World) :
    Calls Try.prog 54 #[.string a0] w fun e w' => ∃ (v0_ : Value) (r : List Int), e = .returned (v0_) ∧ Kd.R (Kd.int .i64) 3 w' w.heap.size (fun _ => True) v0_ r ∧ Below w.heap.size w w' ∧ ∃ l, r = l.map Int.ofNat ∧ IsOrd a0.data.toList l := by
  have HSZ := Aside0.mk (show a0.data.toList.length = 0 by rw [data_length, hs])
  have HN0 := Aside0.mk (show (w.alloc (Obj.cells #[.int .i64 0] 3)).heap[w.heap.size]? = some (.cells #[.int .i64 0] 3 (0, 0)) from heap_alloc_new _ _)
  have HB0 := Aside0.mk ((Below.refl w.heap.size w).alloc (Nat.le_refl _) (Obj.cells #[.int .i64 0] 3))
  have HS := Aside0.mk (show a0.size ≤ 4096 by omega)
  have hmf : ∀ (fn : Fn) (first cap : Array Value) (w : World), (Instr.makeFunc fn first cap).run Try.prog w = .ok (.func fn first cap) w := fun _ _ _ _ => rfl
  have hsI : ((a0.size : Nat) : Int) = 0 := by omega
  go_enter Try.func54, Try.ntmps54
  go_wp2_with (first | (go_at_call 65; go_must (with_reducible refine (find_sortBytes_calls a0 HS.out _).mono ?_); rintro e w1 ⟨v1, r1, rfl, ho1, hb1, hperm1⟩; have HO1 := Aside0.mk (Kd.R_lower ho1 HB0.out.size); have HP1 := Aside0.mk hperm1; have HN1 := Aside0.mk (blk_below HN0.out hb1); have HB1 := Aside0.mk (below_step HB0.out hb1); have hcn := blk_cell HN1.out 0; clear ho1 hb1 hperm1 HN0 HB0) | ((with_reducible refine gate_dst (N := 19) rfl ?_); go_must (refine Kd.R_make (Kd.int .i64) _ 3 rfl (N := 19) rfl 22 _ _ rfl 0 rfl rfl Try.underlying22 (.int .i64 0) 8 info3 rfl (by decide) (by omega) 0 (ok := fun _ => True) (okp := fun _ => True) rfl (fun _ hk => hk) trivial (by omega) (by omega) (Below.refl _ _) (Nat.le_refl _) ?_); intro v2 w2 ho2 hb2 hg2_ hnew2_; obtain ⟨A2, c2, hv2⟩ := Kd.R_slice ho2; simp only [List.length_replicate, Int.toNat_zero, List.length_nil, List.replicate_zero] at hv2; subst hv2; have HO1' := Aside0.mk (Kd.R_below HO1.out hb2); have HN2 := Aside0.mk (blk_below HN1.out hb2); have HB2 := Aside0.mk (below_step HB1.out hb2); clear ho2 hb2 hg2_ hnew2_ HO1 HN1 HB1 hcn; have hcn2 : ∀ o, (w2.alloc o).cell? ⟨w.heap.size, 0, none⟩ = some (.int .i64 0) := fun o => blk_cell (blk_alloc HN2.out o) 0))
  have hr : r1 = [] := by
    have := HP1.out.length_eq
    rw [HSZ.out] at this
    exact List.eq_nil_of_length_eq_zero (by simpa using this)
  subst hr
  obtain ⟨A1, c1, hv1⟩ := Kd.R_slice HO1'.out
  simp only [List.length_nil] at hv1
  subst hv1
  have HSN := Aside0.mk (fun (fv : Value) (W : World) => show Calls Try.prog 67 #[.slice A1 0 c1, fv] W fun e w' => e = .returned (.tuple #[]) ∧ w' = W from AnyF.slices_SortFunc_none Try.sort0 A1 c1 fv W)
  clear hcn2
  have hcn3 : ∀ o, (w2.alloc o).cell? ⟨w.heap.size, 0, none⟩ = some (.int .i64 0) := fun o => blk_cell (blk_alloc HN2.out o) 0
  refine wp_loop_rounds 1 ?_
  rw [rounds_succ]
  go_wp2
  refine wp_loop_rounds 1 ?_
  rw [rounds_succ]
  have hcn4 : ∀ o1 o2 o3, (((w2.alloc o1).alloc o2).alloc o3).cell? ⟨w.heap.size, 0, none⟩ = some (.int .i64 0) := fun o1 o2 o3 => blk_cell (blk_alloc (blk_alloc (blk_alloc HN2.out o1) o2) o3) 0
  go_wp2_with (first | (go_at_call 67; go_must (refine (HSN.out _ _).mono ?_); rintro e w4 ⟨rfl, rfl⟩) | ((with_reducible refine gate_dst (N := 39) rfl ?_); go_must (refine Kd.R_make (Kd.int .i64) _ 3 rfl (N := 39) rfl 22 _ _ rfl 0 rfl rfl Try.underlying22 (.int .i64 0) 8 info3 rfl (by decide) (by omega) 0 (ok := fun _ => True) (okp := fun _ => True) rfl (fun _ hk => hk) trivial (by omega) (by omega) (Below.refl _ _) (Nat.le_refl _) ?_); intro v5 w5 ho5 hb5 hg5_ hnew5_))
  have HN5 := Aside0.mk (blk_below (blk_alloc (blk_alloc (blk_alloc HN2.out _) _) _) hb5)
  have HR5 := Aside0.mk (blk_below (blk_alloc (blk_alloc (heap_alloc_new w2 _) _) _) hb5)
  have HB5 := Aside0.mk (below_step (below_alloc (below_alloc (below_alloc HB2.out _) _) _) hb5)
  have HO5 := Aside0.mk (Kd.R_below (Kd.R_alloc (Kd.R_alloc (Kd.R_alloc HO1'.out _) _) _) hb5)
  have hcn5 := blk_cell HN5.out 0
  have hcr5 := blk_cell HR5.out 0
  have hfr5 := blk_frozen HR5.out 0
  have HG := Aside0.mk HB2.out.size
  obtain ⟨A5, c5, hv5⟩ := Kd.R_slice ho5
  simp only [List.length_replicate, Int.toNat_zero, List.length_nil, List.replicate_zero] at hv5
  subst hv5
  have hnc : (w5.setCell ⟨w2.heap.size, 0, none⟩ (.slice A5 0 c5)).cell? ⟨w.heap.size, 0, none⟩ = some (.int .i64 0) := blk_cell (blk_far HN5.out (p := ⟨w2.heap.size, 0, none⟩) (blk_ne HN5.out HR5.out (by decide)) _) 0
  have HO6 := Aside0.mk (Kd.R_set HO5.out HR5.out (by intro q hq; simp [Kd.int, Kd.scalar] at hq; omega) 0 (.slice A5 0 c5))
  have HB6 : Aside0 (Below w.heap.size w (w5.setCell ⟨w2.heap.size, 0, none⟩ (.slice A5 0 c5))) := ⟨below_set HB5.out HG.out⟩
  have HF : Aside0 (IsOrd a0.data.toList []) := ⟨⟨by rw [HSZ.out]; exact List.Perm.refl _, List.Pairwise.nil⟩⟩
  clear ho5 hb5 hg5_ hnew5_ hcn3 hcn4
  refine wp_loop_rounds 1 ?_
  rw [rounds_succ]
  go_wp2
  go_ret
  exact ⟨_, [], rfl, HO6.out, HB6.out, [], rfl, HF.out⟩
/-- the order of a text -/
theorem suffixes_calls (a0 : ByteArray) (hs : a0.size ≤ 4096) (w : World) :
    Calls Try.prog 54 #[.string a0] w fun e w' => ∃ (v0_ : Value) (r : List Int), e = .returned (v0_) ∧ Kd.R (Kd.int .i64) 3 w' w.heap.size (fun _ => True) v0_ r ∧ Below w.heap.size w w' ∧ ∃ l, r = l.map Int.ofNat ∧ IsOrd a0.data.toList l := by
  by_cases h : a0.size = 0
  · exact suffixes_calls0 a0 h w
  · exact suffixes_calls1 a0 hs (by omega) w
end Go.Proofs.Ytppelnlocfcgfaa.P
namespace Go.Proofs.Fnd
/-- the order of a text -/
def sufOrd (s : List UInt8) : List Nat := (List.range s.length).mergeSort (fun i j => !decide (LtW (s.length + 1) (sq s j) (sq s i)))
theorem sufOrd_isOrd (s : List UInt8) : IsOrd s (sufOrd s) := by
  have hp : (sufOrd s).Perm (List.range s.length) := List.mergeSort_perm _ _
  refine ⟨hp, ?_⟩
  have hs : (sufOrd s).Pairwise (fun i j => (!decide (LtW (s.length + 1) (sq s j) (sq s i))) = true) := by
    refine List.pairwise_mergeSort (fun a b c h1 h2 => ?_) (fun a b => ?_) _
    · simp only [Bool.not_eq_true', decide_eq_false_iff_not] at h1 h2 ⊢
      exact LtW.ntrans h2 h1
    · simp only [Bool.or_eq_true, Bool.not_eq_true', decide_eq_false_iff_not]
      by_cases q : LtW (s.length + 1) (sq s b) (sq s a)
      · exact .inr (fun q' => q.asymm q')
      · exact .inl q
  have hn : (sufOrd s).Nodup := hp.nodup_iff.2 List.nodup_range
  have h2 := hs.and hn
  refine h2.imp_of_mem fun {i j} hi hj h => ?_
  have hi' : i < s.length := List.mem_range.1 (hp.mem_iff.1 hi)
  have hj' : j < s.length := List.mem_range.1 (hp.mem_iff.1 hj)
  obtain ⟨h1, h3⟩ := h
  simp only [Bool.not_eq_true', decide_eq_false_iff_not] at h1
  rcases tri (s.length + 1) (sq s i) (sq s j) with b | b | b
  · exact b
  · exact absurd (sq_inj s s.length i j (Nat.le_refl _) (Nat.le_of_lt hi') (Nat.le_of_lt hj') b) h3
  · exact absurd b h1
theorem IsOrd.eq {s : List UInt8} {l : List Nat} (h : IsOrd s l) : l = sufOrd s := h.unique (sufOrd_isOrd s)
theorem sufOrd_length (s : List UInt8) : (sufOrd s).length = s.length := by rw [(sufOrd_isOrd s).perm.length_eq, List.length_range]
theorem sufOrd_lt (s : List UInt8) (i : Nat) (h : i ∈ sufOrd s) : i < s.length := List.mem_range.1 ((sufOrd_isOrd s).perm.mem_iff.1 h)
end Go.Proofs.Fnd
namespace Go.Proofs.Ytppelnlocfcgfaa.P
open Go.RowKit Go.Proofs.YtppelnlocfcgfaaW.PrintWords Go.Proofs.YtppelnlocfcgfaaW.PrintLast Go.Proofs.YtppelnlocfcgfaaW.PrintMore
open Go.Proofs.Fnd
/-- the order of a text, as the program computes it -/
def find_suffixes.f (a0 : ByteArray) : Option (List Int) := if a0.size ≤ 4096 then some ((sufOrd a0.data.toList).map Int.ofNat) else none
theorem find_suffixes.calls (a0 : ByteArray) (r : List Int) (w : World) (h : find_suffixes.f a0 = some r) :
    Calls Try.prog 54 #[.string a0] w fun e w' => ∃ v0_ : Value, e = .returned (v0_) ∧ Kd.R (Kd.int .i64) 3 w' w.heap.size (fun _ => True) v0_ r ∧ Below w.heap.size w w' := by
  unfold find_suffixes.f at h
  by_cases hs : a0.size ≤ 4096
  · rw [if_pos hs] at h
    injection h with h
    subst h
    refine (suffixes_calls a0 hs w).mono ?_
    rintro e w' ⟨v, r, he, hR, hB, l, rfl, hl⟩
    rw [hl.eq] at hR
    exact ⟨v, he, hR, hB⟩
  · rw [if_neg hs] at h
    exact absurd h (by simp)
end Go.Proofs.Ytppelnlocfcgfaa.P
namespace Go.Proofs.Ytppelnlocfcgfaa.P
open Go.RowKit Go.Proofs.YtppelnlocfcgfaaW.PrintWords Go.Proofs.YtppelnlocfcgfaaW.PrintLast Go.Proofs.YtppelnlocfcgfaaW.PrintMore
attribute [local go_sem] max2_int min2_int max_two min_two max_three min_three max_four min_four   -- for this text's walks alone
set_option linter.unusedVariables false
set_option linter.unusedSimpArgs false

/-! ### find_newIndex: function 41 -/
def find_newIndex.f (k : Nat) (a0 : ByteArray) : Option (ByteArray × List Int × List Int) := (find_suffixes.f a0).bind fun t116 => ((find_overlaps.f k a0 t116).bind fun t119 => (some (a0, t116, t119)))
theorem find_newIndex.mono : ∀ a0 k, LeO (find_newIndex.f k a0) (find_newIndex.f (k + 1) a0) := by
 intro a0 k
 unfold find_newIndex.f
 repeat' first
   | (with_reducible exact find_overlaps.mono _ _ _)
   | (with_reducible exact LeO.refl _)
   | (with_reducible exact LeO.none _)
   | (with_reducible refine LeO.ite ?_ ?_)
   | (with_reducible refine LeO.bind ?_ (fun _ => ?_))
   | exact find_overlaps.mono _ _ _
   | exact LeO.none _
   | refine LeO.ite ?_ ?_
   | refine LeO.bind ?_ (fun _ => ?_)
set_option maxHeartbeats 8000000 in
set_option maxRecDepth 100000 in
theorem find_newIndex.calls (k : Nat) (a0 : ByteArray) (r1 : ByteArray) (r2 : List Int) (r3 : List Int) (w : World) (h : find_newIndex.f k a0 = some (r1, r2, r3)) :
  Calls Try.prog 41 #[.string a0] w fun e w' => ∃ v1_ v2_ : Value, e = .returned (.agg #[.string r1, v1_, v2_]) ∧ Kd.R (Kd.int .i64) 3 w' w.heap.size (fun k_ => some k_ ≠ (v2_ : Value).ownBlock) v1_ r2 ∧ Kd.R (Kd.int .i64) 3 w' w.heap.size (fun k_ => some k_ ≠ (v1_ : Value).ownBlock) v2_ r3 ∧ Below w.heap.size w w' := by
 have hu24 := Try.underlying24
 have HB := Aside0.mk (Below.refl w.heap.size w)
 have H : ((find_suffixes.f a0).bind fun t116 => ((find_overlaps.f k a0 t116).bind fun t119 => (some (a0, t116, t119)))) = some (r1, r2, r3) := h
 clear h
 replace H := Option.bind_eq_some_iff.mp H
 obtain ⟨t116, A20, H⟩ := H
 replace H : ((find_overlaps.f k a0 t116).bind fun t119 => (some (a0, t116, t119))) = some (r1, r2, r3) := H
 have A2 := Aside0.mk A20
 clear A20
 replace H := Option.bind_eq_some_iff.mp H
 obtain ⟨t119, A30, H⟩ := H
 replace H : (some (a0, t116, t119)) = some (r1, r2, r3) := H
 have A3 := Aside0.mk A30
 clear A30
 simp only [Option.some.injEq, Prod.mk.injEq] at H
 obtain ⟨rfl, rfl, rfl⟩ := H
 go_enter Try.func41, Try.ntmps41
 go_wp2_with (first | ((with_reducible refine gate_dst (N := 2) rfl ?_); refine box_event ?hg (N := 2) ?hd (cs := #[.string (⟨#[]⟩ : ByteArray), .slice none 0 0, .slice none 0 0]) (t := 24) ?hr ?_; (case hd => rfl); (case hg => rfl); (case hr => first | (go_simp; done) | (go_simp; rfl)); intro gb115 hg w4 hbox hb; have n0_ := Aside0.mk (below_step (by repeat (first | (with_reducible first | exact HB.out | apply below_alloc | apply pw_below_drewN | apply below_drew1) | exact HB.out)) hb); have n1_ := Aside0.mk (hbox); have n2_ := Aside0.mk ((by rw [hg]; exact (below_size (by repeat (first | (with_reducible first | exact HB.out | apply below_alloc | apply pw_below_drewN | apply below_drew1) | exact HB.out))) : w.heap.size ≤ gb115)); have n3_ := Aside0.mk ((by rw [hg]; exact (below_size (by repeat (first | (with_reducible first | exact HB.out | apply below_alloc | apply pw_below_drewN | apply below_drew1) | exact HB.out))) : w.heap.size ≤ gb115)); clear HB; have HB := n0_; have BK115 := n1_; have GW115 := n2_; have GE115 := n3_; clear n0_ n1_ n2_ n3_; clear hb hbox hg) | ((with_reducible refine gate_callee (f := 54) rfl ?_); refine goesL_ (some 5) rfl rfl Try.func54 (by kernel_rfl) rfl #[.string a0] rfl (by (try simp only [List.map_toArray, List.map_cons, List.map_nil]); first | done | rfl | (simp only [List.length_drop, List.length_take]; rfl)) ?_; (with_reducible refine (find_suffixes.calls a0 t116 _ A2.out).mono ?_); rintro e w5 ⟨v117, rfl, ho0, hb⟩; refine ⟨_, rfl, ?_⟩; have n0_ := Aside0.mk (Kd.R_lower ho0 (below_size (by repeat (first | (with_reducible first | exact HB.out | apply below_alloc | apply pw_below_drewN | apply below_drew1 | refine below_set ?_ GE115.out) | exact HB.out)))); have n1_ := Aside0.mk (blk_below (g := gb115) (o := .cells #[.string (⟨#[]⟩ : ByteArray), .slice none 0 0, .slice none 0 0] 24 (0, 0)) (by (with_reducible repeat (first | refine blk_drewN ?_ _ | refine blk_drew ?_ | refine blk_alloc ?_ _)); exact BK115.out) hb); have n2_ := Aside0.mk (below_step (by repeat (first | (with_reducible first | exact HB.out | apply below_alloc | apply pw_below_drewN | apply below_drew1 | refine below_set ?_ GE115.out) | exact HB.out)) hb); clear BK115; clear HB; have HO118 := n0_; have BK115 := n1_; have HB := n2_; clear n0_ n1_ n2_; (try clear hb); (try clear hb2); (try clear hk); (try clear hi); (try clear ho0); obtain ⟨Ao6, co6, eo6⟩ := Kd.R_slice HO118.out; subst eo6) | ((with_reducible refine gate_callee (f := 55) rfl ?_); refine goesL_ (some 10) rfl rfl Try.func55 (by kernel_rfl) rfl #[.string a0, .slice Ao6 t116.length co6] rfl (by (try simp only [List.map_toArray, List.map_cons, List.map_nil]); first | done | rfl | (simp only [List.length_drop, List.length_take]; rfl)) ?_; (with_reducible refine (find_overlaps.calls k a0 _ _ t116 t119 _ ?side1 ?side2 A3.out).mono ?_); (case side1 => repeat (first | exact (Kd.R_reads' HO118.out).2.2 | (with_reducible refine Kd.C_alloc ?_ _) | (with_reducible refine Kd.C_drewN ?_ _) | (with_reducible refine Kd.C_drew ?_))); (case side2 => exact (Kd.R_reads' HO118.out).2.1); rintro e w7 ⟨v120, rfl, ho0, hb⟩; refine ⟨_, rfl, ?_⟩; have n0_ := Aside0.mk (Kd.R_elder' (by (with_reducible repeat (first | apply Kd.R_alloc | apply Kd.R_drewN | apply Kd.R_drew)); exact HO118.out) (Kd.R_base ho0) hb); have n1_ := Aside0.mk (Kd.R_lower (Kd.R_new' ho0 (Kd.R_lt (by (with_reducible repeat (first | apply Kd.R_alloc | apply Kd.R_drewN | apply Kd.R_drew)); exact HO118.out))) (below_size (by repeat (first | (with_reducible first | exact HB.out | apply below_alloc | apply pw_below_drewN | apply below_drew1 | refine below_set ?_ GE115.out) | exact HB.out)))); have n2_ := Aside0.mk (blk_below (g := gb115) (o := .cells #[.string (⟨#[]⟩ : ByteArray), .slice none 0 0, .slice none 0 0] 24 (0, 0)) (by (with_reducible repeat (first | refine blk_drewN ?_ _ | refine blk_drew ?_ | refine blk_alloc ?_ _)); exact BK115.out) hb); have n3_ := Aside0.mk (below_step (by repeat (first | (with_reducible first | exact HB.out | apply below_alloc | apply pw_below_drewN | apply below_drew1 | refine below_set ?_ GE115.out) | exact HB.out)) hb); clear HO118; clear BK115; clear HB; have HO118 := n0_; have HO121 := n1_; have BK115 := n2_; have HB := n3_; clear n0_ n1_ n2_ n3_; (try clear hb); (try clear hb2); (try clear hk); (try clear hi); (try clear ho0); obtain ⟨Ao8, co8, eo8⟩ := Kd.R_slice HO121.out; subst eo8; have hcz9_0 : w7.cell? ⟨gb115, 0, none⟩ = some (.string (⟨#[]⟩ : ByteArray)) := (blk_cell BK115.out 0).trans rfl; have hcz9_1 : w7.cell? ⟨gb115, 1, none⟩ = some (.slice none 0 0) := (blk_cell BK115.out 1).trans rfl; have hcz9_2 : w7.cell? ⟨gb115, 2, none⟩ = some (.slice none 0 0) := (blk_cell BK115.out 2).trans rfl; have hfz9_0 := blk_frozen BK115.out 0; have hfz9_1 := blk_frozen BK115.out 1; have hfz9_2 := blk_frozen BK115.out 2))
 refine bodyPost_ret (results_cell_row rfl _ _ gb115 24 #[.string a0, .slice Ao6 t116.length co6, .slice Ao8 t119.length co8] (0, 0) _ rfl (by (with_reducible repeat (first | refine blk_drewN ?_ _ | refine blk_drew ?_ | refine blk_alloc ?_ _)); refine blk_put (cs := #[.string a0, .slice Ao6 t116.length co6, .slice none 0 0]) ?_ 2 _ rfl; (with_reducible repeat (first | refine blk_drewN ?_ _ | refine blk_drew ?_ | refine blk_alloc ?_ _)); refine blk_put (cs := #[.string a0, .slice none 0 0, .slice none 0 0]) ?_ 1 _ rfl; (with_reducible repeat (first | refine blk_drewN ?_ _ | refine blk_drew ?_ | refine blk_alloc ?_ _)); refine blk_put (cs := #[.string (⟨#[]⟩ : ByteArray), .slice none 0 0, .slice none 0 0]) ?_ 0 _ rfl; (with_reducible repeat (first | refine blk_drewN ?_ _ | refine blk_drew ?_ | refine blk_alloc ?_ _)); exact BK115.out) Try.underlying24 rfl (by kernel_rfl)) rfl ?_
 exact ⟨_, _, by first | rfl | (simp [errW_none, errW_some] <;> rfl) | (simp [*, errW_none, errW_some] <;> rfl), by (with_reducible repeat (first | apply Kd.R_alloc | apply Kd.R_drewN | apply Kd.R_drew)); exact Kd.R_mono (Kd.R_far (p := ⟨gb115, 2, none⟩) (Kd.R_far (p := ⟨gb115, 1, none⟩) (Kd.R_far (p := ⟨gb115, 0, none⟩) (Kd.R_types HO118.out BK115.out (by decide)) (fun _ hk => hk.2) (.string a0)) (fun _ hk => hk.2) (.slice Ao6 t116.length co6)) (fun _ hk => hk.2) (.slice Ao8 t119.length co8)) (fun _ hk => hk.1.2), by (with_reducible repeat (first | apply Kd.R_alloc | apply Kd.R_drewN | apply Kd.R_drew)); exact Kd.R_mono (Kd.R_far (p := ⟨gb115, 2, none⟩) (Kd.R_far (p := ⟨gb115, 1, none⟩) (Kd.R_far (p := ⟨gb115, 0, none⟩) (Kd.R_types HO121.out BK115.out (by decide)) (fun _ hk => hk.2) (.string a0)) (fun _ hk => hk.2) (.slice Ao6 t116.length co6)) (fun _ hk => hk.2) (.slice Ao8 t119.length co8)) (fun _ hk => hk.1.2), by repeat (first | (with_reducible first | exact HB.out | apply below_alloc | apply pw_below_drewN | apply below_drew1 | refine below_set ?_ GE115.out) | exact HB.out)⟩

end Go.Proofs.Ytppelnlocfcgfaa.P
namespace Go.Proofs.Ytppelnlocfcgfaa.P
open Go.RowKit Go.Proofs.YtppelnlocfcgfaaW.PrintWords Go.Proofs.YtppelnlocfcgfaaW.PrintLast Go.Proofs.YtppelnlocfcgfaaW.PrintMore
attribute [local go_sem] max2_int min2_int max_two min_two max_three min_three max_four min_four   -- for this text's walks alone
set_option linter.unusedVariables false
set_option linter.unusedSimpArgs false

/-! ### find_New: function 16 -/
def find_New.f (k : Nat) (a0 : ByteArray) : Option (ByteArray × List Int × List Int × Int) := if (a0.size : Int) > 4096 then (some ((⟨#[]⟩ : ByteArray), ([] : List Int), ([] : List Int), 2)) else ((find_newIndex.f k a0).bind fun bt123 => (some (bt123.1, bt123.2.1, bt123.2.2, 0)))
theorem find_New.mono : ∀ a0 k, LeO (find_New.f k a0) (find_New.f (k + 1) a0) := by
 intro a0 k
 unfold find_New.f
 repeat' first
   | (with_reducible exact find_newIndex.mono _ _)
   | (with_reducible exact LeO.refl _)
   | (with_reducible exact LeO.none _)
   | (with_reducible refine LeO.ite ?_ ?_)
   | (with_reducible refine LeO.bind ?_ (fun _ => ?_))
   | exact find_newIndex.mono _ _
   | exact LeO.none _
   | refine LeO.ite ?_ ?_
   | refine LeO.bind ?_ (fun _ => ?_)
set_option maxHeartbeats 8000000 in
set_option maxRecDepth 100000 in
theorem find_New.calls (k : Nat) (a0 : ByteArray) (r1 : ByteArray) (r2 : List Int) (r3 : List Int) (r4 : Int) (w : World) (h : find_New.f k a0 = some (r1, r2, r3, r4)) :
  Calls Try.prog 16 #[.string a0] w fun e w' => ∃ v1_ v2_ : Value, e = .returned (.tuple #[.agg #[.string r1, v1_, v2_], .int .i64 r4]) ∧ Kd.R (Kd.int .i64) 3 w' w.heap.size (fun k_ => some k_ ≠ (v2_ : Value).ownBlock) v1_ r2 ∧ Kd.R (Kd.int .i64) 3 w' w.heap.size (fun k_ => some k_ ≠ (v1_ : Value).ownBlock) v2_ r3 ∧ Below w.heap.size w w' := by
 have hu24 := Try.underlying24
 have HB := Aside0.mk (Below.refl w.heap.size w)
 have H : (if (a0.size : Int) > 4096 then (some ((⟨#[]⟩ : ByteArray), ([] : List Int), ([] : List Int), 2)) else ((find_newIndex.f k a0).bind fun bt123 => (some (bt123.1, bt123.2.1, bt123.2.2, 0)))) = some (r1, r2, r3, r4) := h
 clear h
 by_cases c2 : (a0.size : Int) > 4096
 ·rw [if_pos c2] at H
  have c2b0 : decide (4096 < (a0.size : Int)) = true := decide_eq_true c2
  have c2b1 : decide (4096 < a0.size) = true := decide_eq_true (by omega)
  clear c2
  simp only [Option.some.injEq, Prod.mk.injEq] at H
  obtain ⟨rfl, rfl, rfl, rfl⟩ := H
  go_enter Try.func16, Try.ntmps16
  go_wp2_with (first | ((with_reducible refine gate_dst (N := 2) rfl ?_); refine box_event ?hg (N := 2) ?hd (cs := #[.string (⟨#[]⟩ : ByteArray), .slice none 0 0, .slice none 0 0]) (t := 24) ?hr ?_; (case hd => rfl); (case hg => rfl); (case hr => first | (go_simp; done) | (go_simp; rfl)); intro gb122 hg w3 hbox hb; have n0_ := Aside0.mk (below_step (by repeat (first | (with_reducible first | exact HB.out | apply below_alloc | apply pw_below_drewN | apply below_drew1) | exact HB.out)) hb); have n1_ := Aside0.mk (hbox); have n2_ := Aside0.mk ((by rw [hg]; exact (below_size (by repeat (first | (with_reducible first | exact HB.out | apply below_alloc | apply pw_below_drewN | apply below_drew1) | exact HB.out))) : w.heap.size ≤ gb122)); have n3_ := Aside0.mk ((by rw [hg]; exact (below_size (by repeat (first | (with_reducible first | exact HB.out | apply below_alloc | apply pw_below_drewN | apply below_drew1) | exact HB.out))) : w.heap.size ≤ gb122)); clear HB; have HB := n0_; have BK122 := n1_; have GW122 := n2_; have GE122 := n3_; clear n0_ n1_ n2_ n3_; clear hb hbox hg; have hcz4_0 : w3.cell? ⟨gb122, 0, none⟩ = some (.string (⟨#[]⟩ : ByteArray)) := (blk_cell BK122.out 0).trans rfl; have hcz4_1 : w3.cell? ⟨gb122, 1, none⟩ = some (.slice none 0 0) := (blk_cell BK122.out 1).trans rfl; have hcz4_2 : w3.cell? ⟨gb122, 2, none⟩ = some (.slice none 0 0) := (blk_cell BK122.out 2).trans rfl; have hfz4_0 := blk_frozen BK122.out 0; have hfz4_1 := blk_frozen BK122.out 1; have hfz4_2 := blk_frozen BK122.out 2))
  refine bodyPost_ret (results_ct rfl _ _ gb122 24 #[.string (⟨#[]⟩ : ByteArray), .slice none 0 0, .slice none 0 0] (0, 0) _ rfl (by (with_reducible repeat (first | refine blk_drewN ?_ _ | refine blk_drew ?_ | refine blk_alloc ?_ _)); refine blk_put (cs := #[.string (⟨#[]⟩ : ByteArray), .slice none 0 0, .slice none 0 0]) ?_ 2 _ rfl; (with_reducible repeat (first | refine blk_drewN ?_ _ | refine blk_drew ?_ | refine blk_alloc ?_ _)); refine blk_put (cs := #[.string (⟨#[]⟩ : ByteArray), .slice none 0 0, .slice none 0 0]) ?_ 1 _ rfl; (with_reducible repeat (first | refine blk_drewN ?_ _ | refine blk_drew ?_ | refine blk_alloc ?_ _)); refine blk_put (cs := #[.string (⟨#[]⟩ : ByteArray), .slice none 0 0, .slice none 0 0]) ?_ 0 _ rfl; (with_reducible repeat (first | refine blk_drewN ?_ _ | refine blk_drew ?_ | refine blk_alloc ?_ _)); exact BK122.out) Try.underlying24 rfl (by kernel_rfl)) rfl ?_
  exact ⟨_, _, by first | rfl | (simp [errW_none, errW_some] <;> rfl) | (simp [*, errW_none, errW_some] <;> rfl), by first | exact Kd.R_nil _ _ _ _ _ | exact Kd.N_nil _ _ _ _ _ | exact Kd.V_nil _ _ _ _ _ | exact Kd.Q_nil _ _ _ _ _ | exact Kd.S_nil _ _ _ _ _, by first | exact Kd.R_nil _ _ _ _ _ | exact Kd.N_nil _ _ _ _ _ | exact Kd.V_nil _ _ _ _ _ | exact Kd.Q_nil _ _ _ _ _ | exact Kd.S_nil _ _ _ _ _, by repeat (first | (with_reducible first | exact HB.out | apply below_alloc | apply pw_below_drewN | apply below_drew1 | refine below_set ?_ GE122.out) | exact HB.out)⟩
 ·rw [if_neg c2] at H
  have c2b0 : decide (4096 < (a0.size : Int)) = false := decide_eq_false c2
  have c2b1 : decide (4096 < a0.size) = false := decide_eq_false (by omega)
  clear c2
  replace H := Option.bind_eq_some_iff.mp H
  obtain ⟨⟨t123, t124, t127⟩, A50, H⟩ := H
  replace H : (some (t123, t124, t127, 0)) = some (r1, r2, r3, r4) := H
  have A5 := Aside0.mk A50
  clear A50
  simp only [Option.some.injEq, Prod.mk.injEq] at H
  obtain ⟨rfl, rfl, rfl, rfl⟩ := H
  go_enter Try.func16, Try.ntmps16
  go_wp2_with (first | ((with_reducible refine gate_dst (N := 2) rfl ?_); refine box_event ?hg (N := 2) ?hd (cs := #[.string (⟨#[]⟩ : ByteArray), .slice none 0 0, .slice none 0 0]) (t := 24) ?hr ?_; (case hd => rfl); (case hg => rfl); (case hr => first | (go_simp; done) | (go_simp; rfl)); intro gb122 hg w6 hbox hb; have n0_ := Aside0.mk (below_step (by repeat (first | (with_reducible first | exact HB.out | apply below_alloc | apply pw_below_drewN | apply below_drew1) | exact HB.out)) hb); have n1_ := Aside0.mk (hbox); have n2_ := Aside0.mk ((by rw [hg]; exact (below_size (by repeat (first | (with_reducible first | exact HB.out | apply below_alloc | apply pw_below_drewN | apply below_drew1) | exact HB.out))) : w.heap.size ≤ gb122)); have n3_ := Aside0.mk ((by rw [hg]; exact (below_size (by repeat (first | (with_reducible first | exact HB.out | apply below_alloc | apply pw_below_drewN | apply below_drew1) | exact HB.out))) : w.heap.size ≤ gb122)); clear HB; have HB := n0_; have BK122 := n1_; have GW122 := n2_; have GE122 := n3_; clear n0_ n1_ n2_ n3_; clear hb hbox hg) | ((with_reducible refine gate_callee (f := 41) rfl ?_); refine goesL_ (some 9) rfl rfl Try.func41 (by kernel_rfl) rfl #[.string a0] rfl (by (try simp only [List.map_toArray, List.map_cons, List.map_nil]); first | done | rfl | (simp only [List.length_drop, List.length_take]; rfl)) ?_; (with_reducible refine (find_newIndex.calls k a0 t123 t124 t127 _ A5.out).mono ?_); rintro e w7 ⟨v125, v128, rfl, ho0, ho1, hb⟩; refine ⟨_, rfl, ?_⟩; have n0_ := Aside0.mk (Kd.R_lower ho0 (below_size (by repeat (first | (with_reducible first | exact HB.out | apply below_alloc | apply pw_below_drewN | apply below_drew1 | refine below_set ?_ GE122.out) | exact HB.out)))); have n1_ := Aside0.mk (Kd.R_lower ho1 (below_size (by repeat (first | (with_reducible first | exact HB.out | apply below_alloc | apply pw_below_drewN | apply below_drew1 | refine below_set ?_ GE122.out) | exact HB.out)))); have n2_ := Aside0.mk (blk_below (g := gb122) (o := .cells #[.string (⟨#[]⟩ : ByteArray), .slice none 0 0, .slice none 0 0] 24 (0, 0)) (by (with_reducible repeat (first | refine blk_drewN ?_ _ | refine blk_drew ?_ | refine blk_alloc ?_ _)); exact BK122.out) hb); have n3_ := Aside0.mk (below_step (by repeat (first | (with_reducible first | exact HB.out | apply below_alloc | apply pw_below_drewN | apply below_drew1 | refine below_set ?_ GE122.out) | exact HB.out)) hb); clear BK122; clear HB; have HO126 := n0_; have HO129 := n1_; have BK122 := n2_; have HB := n3_; clear n0_ n1_ n2_ n3_; (try clear hb); (try clear hb2); (try clear hk); (try clear hi); (try clear ho0); (try clear ho1); have hcz8_0 : w7.cell? ⟨gb122, 0, none⟩ = some (.string (⟨#[]⟩ : ByteArray)) := (blk_cell BK122.out 0).trans rfl; have hcz8_1 : w7.cell? ⟨gb122, 1, none⟩ = some (.slice none 0 0) := (blk_cell BK122.out 1).trans rfl; have hcz8_2 : w7.cell? ⟨gb122, 2, none⟩ = some (.slice none 0 0) := (blk_cell BK122.out 2).trans rfl; have hfz8_0 := blk_frozen BK122.out 0; have hfz8_1 := blk_frozen BK122.out 1; have hfz8_2 := blk_frozen BK122.out 2; obtain ⟨Ao9, co9, eo9⟩ := Kd.R_slice HO126.out; subst eo9; obtain ⟨Ao10, co10, eo10⟩ := Kd.R_slice HO129.out; subst eo10))
  refine bodyPost_ret (results_ct rfl _ _ gb122 24 #[.string t123, .slice Ao9 t124.length co9, .slice Ao10 t127.length co10] (0, 0) _ rfl (by (with_reducible repeat (first | refine blk_drewN ?_ _ | refine blk_drew ?_ | refine blk_alloc ?_ _)); refine blk_put (cs := #[.string t123, .slice Ao9 t124.length co9, .slice none 0 0]) ?_ 2 _ rfl; (with_reducible repeat (first | refine blk_drewN ?_ _ | refine blk_drew ?_ | refine blk_alloc ?_ _)); refine blk_put (cs := #[.string t123, .slice none 0 0, .slice none 0 0]) ?_ 1 _ rfl; (with_reducible repeat (first | refine blk_drewN ?_ _ | refine blk_drew ?_ | refine blk_alloc ?_ _)); refine blk_put (cs := #[.string (⟨#[]⟩ : ByteArray), .slice none 0 0, .slice none 0 0]) ?_ 0 _ rfl; (with_reducible repeat (first | refine blk_drewN ?_ _ | refine blk_drew ?_ | refine blk_alloc ?_ _)); exact BK122.out) Try.underlying24 rfl (by kernel_rfl)) rfl ?_
  exact ⟨_, _, by first | rfl | (simp [errW_none, errW_some] <;> rfl) | (simp [*, errW_none, errW_some] <;> rfl), by (with_reducible repeat (first | apply Kd.R_alloc | apply Kd.R_drewN | apply Kd.R_drew)); exact Kd.R_mono (Kd.R_far (p := ⟨gb122, 2, none⟩) (Kd.R_far (p := ⟨gb122, 1, none⟩) (Kd.R_far (p := ⟨gb122, 0, none⟩) (Kd.R_types HO126.out BK122.out (by decide)) (fun _ hk => hk.2) (.string t123)) (fun _ hk => hk.2) (.slice Ao9 t124.length co9)) (fun _ hk => hk.2) (.slice Ao10 t127.length co10)) (fun _ hk => hk.1), by (with_reducible repeat (first | apply Kd.R_alloc | apply Kd.R_drewN | apply Kd.R_drew)); exact Kd.R_mono (Kd.R_far (p := ⟨gb122, 2, none⟩) (Kd.R_far (p := ⟨gb122, 1, none⟩) (Kd.R_far (p := ⟨gb122, 0, none⟩) (Kd.R_types HO129.out BK122.out (by decide)) (fun _ hk => hk.2) (.string t123)) (fun _ hk => hk.2) (.slice Ao9 t124.length co9)) (fun _ hk => hk.2) (.slice Ao10 t127.length co10)) (fun _ hk => hk.1), by repeat (first | (with_reducible first | exact HB.out | apply below_alloc | apply pw_below_drewN | apply below_drew1 | refine below_set ?_ GE122.out) | exact HB.out)⟩

end Go.Proofs.Ytppelnlocfcgfaa.P
namespace Go.Proofs.Fnd
theorem u8_lt (a b : UInt8) : a < b ↔ a.toNat < b.toNat := UInt8.lt_iff_toNat_lt
theorem ch_cons_zero (a : UInt8) (x : List UInt8) : ch (a :: x) 0 = a.toNat + 1 := by simp [ch]
theorem ch_cons_succ (a : UInt8) (x : List UInt8) (i : Nat) : ch (a :: x) (i + 1) = ch x i := by simp [ch]
theorem ch_nil (i : Nat) : ch [] i = 0 := by simp [ch]
/-- the order of strings, by their first difference -/
theorem lt_iff (x y : List UInt8) : x < y ↔ ∃ m, (∀ t, t < m → ch x t = ch y t) ∧ ch x m < ch y m := by
  induction x generalizing y with
  | nil =>
    cases y with
    | nil => constructor
             · intro h; exact absurd h (List.lt_irrefl _)
             · rintro ⟨m, _, h⟩; simp [ch_nil] at h
    | cons b y => exact ⟨fun _ => ⟨0, fun t h => by omega, by rw [ch_nil, ch_cons_zero]; omega⟩, fun _ => List.nil_lt_cons b y⟩
  | cons a x ih =>
    cases y with
    | nil => constructor
             · intro h; exact absurd h (List.not_lt_nil _)
             · rintro ⟨m, _, h⟩; rw [ch_nil] at h; omega
    | cons b y =>
      rw [List.cons_lt_cons_iff]
      constructor
      · rintro (h | ⟨rfl, h⟩)
        · rw [u8_lt] at h
          exact ⟨0, fun t h => by omega, by rw [ch_cons_zero, ch_cons_zero]; omega⟩
        · obtain ⟨m, h1, h2⟩ := (ih y).1 h
          refine ⟨m + 1, fun t ht => ?_, by rw [ch_cons_succ, ch_cons_succ]; exact h2⟩
          cases t with
          | zero => rw [ch_cons_zero, ch_cons_zero]
          | succ t => rw [ch_cons_succ, ch_cons_succ]; exact h1 t (by omega)
      · rintro ⟨m, h1, h2⟩
        cases m with
        | zero =>
          rw [ch_cons_zero, ch_cons_zero] at h2
          exact .inl (by rw [u8_lt]; omega)
        | succ m =>
          have h0 := h1 0 (by omega)
          rw [ch_cons_zero, ch_cons_zero] at h0
          refine .inr ⟨UInt8.toNat_inj.1 (by omega), (ih y).2 ⟨m, fun t ht => ?_, ?_⟩⟩
          · have := h1 (t + 1) (by omega)
            rwa [ch_cons_succ, ch_cons_succ] at this
          · rwa [ch_cons_succ, ch_cons_succ] at h2
theorem ch_drop (s : List UInt8) (i t : Nat) : ch (s.drop i) t = sq s i t := by
  unfold sq ch
  rw [List.getElem?_drop]
theorem ch_take (s : List UInt8) (n t : Nat) : ch (s.take n) t = if t < n then ch s t else 0 := by
  unfold ch
  rw [List.getElem?_take]
  by_cases h : t < n
  · rw [if_pos h, if_pos h]
  · rw [if_neg h, if_neg h]
theorem eq_iff_ch (x y : List UInt8) : x = y ↔ ∀ t, ch x t = ch y t := by
  constructor
  · rintro rfl _; rfl
  · intro h
    apply List.ext_getElem?
    intro t
    have := h t
    unfold ch at this
    cases hx : x[t]? with
    | none => cases hy : y[t]? with
              | none => rfl
              | some b => rw [hx, hy] at this; simp at this
    | some a => cases hy : y[t]? with
                | none => rw [hx, hy] at this; simp at this
                | some b => rw [hx, hy] at this; simp at this; rw [UInt8.toNat_inj.1 this]
/-- what two strings begin with is ordered as they are -/
theorem take_le {x y : List UInt8} (n : Nat) (h : ¬ y < x) : ¬ y.take n < x.take n := by
  intro q
  apply h
  rw [lt_iff] at q ⊢
  obtain ⟨m, h1, h2⟩ := q
  by_cases hm : m < n
  · rw [ch_take, ch_take, if_pos hm, if_pos hm] at h2
    refine ⟨m, fun t ht => ?_, h2⟩
    have := h1 t ht
    rwa [ch_take, ch_take, if_pos (by omega), if_pos (by omega)] at this
  · rw [ch_take, ch_take, if_neg hm, if_neg hm] at h2
    omega
theorem suf_lt (s : List UInt8) (i j : Nat) : s.drop i < s.drop j ↔ ∃ w, LtW w (sq s i) (sq s j) := by
  rw [lt_iff]
  constructor
  · rintro ⟨m, h1, h2⟩
    exact ⟨m + 1, m, by omega, fun t ht => by rw [← ch_drop, ← ch_drop]; exact h1 t ht, by rw [← ch_drop, ← ch_drop]; exact h2⟩
  · rintro ⟨w, m, _, h1, h2⟩
    exact ⟨m, fun t ht => by rw [ch_drop, ch_drop]; exact h1 t ht, by rw [ch_drop, ch_drop]; exact h2⟩
/-- the suffixes ascend in the order -/
theorem sufOrd_up (s : List UInt8) : (sufOrd s).Pairwise (fun i j => s.drop i < s.drop j) :=
  (sufOrd_isOrd s).up.imp fun h => (suf_lt s _ _).2 ⟨_, h⟩
/-- the first bytes of the suffix at place k of the order -/
def beginning (s : List UInt8) (n i : Nat) : List UInt8 := (s.drop i).take n
def below (s p : List UInt8) : Nat := (List.range s.length).countP fun i => decide (beginning s p.length i < p)
def upto (s p : List UInt8) : Nat := (List.range s.length).countP fun i => !decide (p < beginning s p.length i)
/-- a count over an order, place by place -/
theorem countP_places (l : List Nat) (q : Nat → Bool) : (List.range l.length).countP (fun k => q (l.getD k 0)) = l.countP q := by
  have : (List.range l.length).map (fun k => l.getD k 0) = l := by
    apply List.ext_getElem (by simp)
    intro i h1 h2
    simp at h1
    simp [h1]
  conv => rhs; rw [← this, List.countP_map]
  rfl
theorem count_order (s : List UInt8) (q : Nat → Bool) : (List.range s.length).countP (fun k => q ((sufOrd s).getD k 0)) = (List.range s.length).countP q := by
  have h := countP_places (sufOrd s) q
  rw [sufOrd_length] at h
  rw [h, (sufOrd_isOrd s).perm.countP_eq]
theorem order_le (s : List UInt8) {a b : Nat} (h : a ≤ b) (hb : b < s.length) : ¬ s.drop ((sufOrd s).getD b 0) < s.drop ((sufOrd s).getD a 0) := by
  by_cases e : a = b
  · subst e; exact List.lt_irrefl _
  · have hl := sufOrd_length s
    have := List.pairwise_iff_getElem.1 (sufOrd_up s) a b (by omega) (by omega) (by omega)
    rw [List.getD_eq_getElem?_getD, List.getElem?_eq_getElem (by omega), List.getD_eq_getElem?_getD, List.getElem?_eq_getElem (by omega)]
    exact fun q => List.lt_asymm q this
end Go.Proofs.Fnd
namespace Go.Proofs.Fnd
/-- the first place from m on at which two sequences differ -/
def diffAt (f g : Nat → Nat) : Nat → Nat → Nat
  | 0, m => m
  | k + 1, m => if f m = g m then diffAt f g k (m + 1) else m
/-- how many bytes two suffixes begin with in common -/
def lcp (s : List UInt8) (a b : Nat) : Nat := diffAt (sq s a) (sq s b) (s.length + 1) 0
structure IsLcp (s : List UInt8) (a b m : Nat) : Prop where
  same : ∀ t, t < m → sq s a t = sq s b t
  diff : sq s a m ≠ sq s b m
theorem diffAt_spec (f g : Nat → Nat) : ∀ (k m : Nat), (∀ t, t < m → f t = g t) → (∃ t, t < m + k ∧ f t ≠ g t) → (∀ t, t < diffAt f g k m → f t = g t) ∧ f (diffAt f g k m) ≠ g (diffAt f g k m)
  | 0, m, h1, ⟨t, ht, h2⟩ => absurd (h1 t (by omega)) h2
  | k + 1, m, h1, ⟨t, ht, h2⟩ => by
    unfold diffAt
    by_cases e : f m = g m
    · rw [if_pos e]
      refine diffAt_spec f g k (m + 1) (fun q hq => ?_) ⟨t, by omega, h2⟩
      by_cases e2 : q = m
      · subst e2; exact e
      · exact h1 q (by omega)
    · rw [if_neg e]
      exact ⟨h1, e⟩
theorem lcp_is (s : List UInt8) (a b : Nat) (ha : a ≤ s.length) (hb : b ≤ s.length) (h : a ≠ b) : IsLcp s a b (lcp s a b) := by
  have hd : ∃ t, t < 0 + (s.length + 1) ∧ sq s a t ≠ sq s b t := by
    apply Decidable.byContradiction
    intro q
    apply h
    refine sq_inj s s.length a b (Nat.le_refl _) ha hb fun t ht => ?_
    apply Decidable.byContradiction
    intro q2
    exact q ⟨t, by omega, q2⟩
  have := diffAt_spec (sq s a) (sq s b) (s.length + 1) 0 (fun t ht => by omega) hd
  exact ⟨this.1, this.2⟩
theorem IsLcp.unique {s : List UInt8} {a b m m' : Nat} (h : IsLcp s a b m) (h' : IsLcp s a b m') : m = m' := by
  rcases Nat.lt_trichotomy m m' with q | q | q
  · exact absurd (h'.same m q) h.diff
  · exact q
  · exact absurd (h.same m' q) h'.diff
theorem IsLcp.symm {s : List UInt8} {a b m : Nat} (h : IsLcp s a b m) : IsLcp s b a m := ⟨fun t ht => (h.same t ht).symm, fun e => h.diff e.symm⟩
theorem lcp_symm (s : List UInt8) (a b : Nat) (ha : a ≤ s.length) (hb : b ≤ s.length) (h : a ≠ b) : lcp s a b = lcp s b a :=
  (lcp_is s a b ha hb h).unique (lcp_is s b a hb ha (fun e => h e.symm)).symm
theorem lcp_self (s : List UInt8) (a : Nat) : lcp s a a = s.length + 1 := by
  unfold lcp
  have : ∀ k m, diffAt (sq s a) (sq s a) k m = m + k := by
    intro k
    induction k with
    | zero => intro m; rfl
    | succ k ih => intro m; unfold diffAt; rw [if_pos rfl, ih]; omega
  rw [this]; omega
/-- within what is common, neither suffix has ended -/
theorem IsLcp.inside {s : List UInt8} {a b m : Nat} (h : IsLcp s a b m) (ha : a ≤ s.length) (hb : b ≤ s.length) (hne : a ≠ b) : a + m ≤ s.length ∧ b + m ≤ s.length := by
  have key : ∀ a b, a ≤ s.length → b ≤ s.length → a ≠ b → IsLcp s a b m → a + m ≤ s.length := by
    intro a b ha hb hne h
    apply Decidable.byContradiction
    intro q
    have h1 := h.same (s.length - a) (by omega)
    unfold sq at h1
    rw [show a + (s.length - a) = s.length by omega, ch_ge s _ (Nat.le_refl _)] at h1
    have h2 := (ch_zero s _).1 h1.symm
    -- b ends there, too, or before
    by_cases hab : a = b
    · exact hne hab
    · by_cases hlt : b < a
      · omega
      · have h3 := h.same (s.length - b) (by omega)
        unfold sq at h3
        rw [show b + (s.length - b) = s.length by omega, ch_ge s _ (Nat.le_refl _), ch_zero] at h3
        omega
  exact ⟨key a b ha hb hne h, key b a hb ha (fun e => hne e.symm) h.symm⟩
/-- suffixes between two others have as much in common with the upper one -/
theorem lcp_between {s : List UInt8} {x y z l m : Nat} (hy : ¬ LtW (s.length + 1) (sq s y) (sq s x)) (hz : LtW (s.length + 1) (sq s y) (sq s z)) (h : IsLcp s x z l) (h' : IsLcp s y z m) : l ≤ m := by
  apply Decidable.byContradiction
  intro q
  -- at place m, y and z differ, x and z are one
  have e1 := h.same m (by omega)
  have e2 := h'.diff
  obtain ⟨k, hk, hk1, hk2⟩ := hz
  have hkm : k = m := by
    rcases Nat.lt_trichotomy k m with c | c | c
    · have := h'.same k c; omega
    · exact c
    · exact absurd (hk1 m c) e2
  subst hkm
  apply hy
  refine ⟨k, hk, fun t ht => ?_, by omega⟩
  rw [h'.same t ht, h.same t (by omega)]
/-- what follows two suffixes with a common beginning -/
theorem IsLcp.tail {s : List UInt8} {a b m : Nat} (h : IsLcp s a b (m + 1)) : IsLcp s (a + 1) (b + 1) m := by
  have e : ∀ a t, sq s (a + 1) t = sq s a (t + 1) := fun a t => by unfold sq; congr 1; omega
  exact ⟨fun t ht => by rw [e, e]; exact h.same (t + 1) (by omega), by rw [e, e]; exact h.diff⟩
theorem ltW_tail {s : List UInt8} {a b m : Nat} (h : IsLcp s a b (m + 1)) (hb : b < s.length) (ha : a < s.length) (hlt : LtW (s.length + 1) (sq s a) (sq s b)) : LtW (s.length + 1) (sq s (a + 1)) (sq s (b + 1)) := by
  have e : ∀ a t, sq s (a + 1) t = sq s a (t + 1) := fun a t => by unfold sq; congr 1; omega
  obtain ⟨k, hk, hk1, hk2⟩ := hlt
  have hk0 : k ≠ 0 := fun e0 => by
    subst e0
    have := h.same 0 (by omega); omega
  obtain ⟨k', rfl⟩ : ∃ k', k = k' + 1 := ⟨k - 1, by omega⟩
  exact ⟨k', by omega, fun t ht => by rw [e, e]; exact hk1 (t + 1) (by omega), by rw [e, e]; exact hk2⟩
/-- the overlaps of a text -/
def overL (s : List UInt8) : List Nat := (List.range s.length).map fun k => if k = 0 then 0 else lcp s ((sufOrd s).getD (k - 1) 0) ((sufOrd s).getD k 0)
/-- where a place stands in the order -/
def rank (s : List UInt8) (i : Nat) : Nat := (sufOrd s).idxOf i
theorem rank_lt (s : List UInt8) (i : Nat) (h : i < s.length) : rank s i < s.length := by
  unfold rank
  have : i ∈ sufOrd s := (sufOrd_isOrd s).perm.mem_iff.2 (List.mem_range.2 h)
  have := List.idxOf_lt_length_iff.2 this
  rwa [sufOrd_length] at this
theorem ord_rank (s : List UInt8) (i : Nat) (h : i < s.length) : (sufOrd s).getD (rank s i) 0 = i := by
  have h1 := rank_lt s i h
  rw [List.getD_eq_getElem?_getD, List.getElem?_eq_getElem (by rw [sufOrd_length]; exact h1), Option.getD_some]
  unfold rank
  exact List.getElem_idxOf _
theorem ord_lt (s : List UInt8) (k : Nat) (h : k < s.length) : (sufOrd s).getD k 0 < s.length := by
  rw [List.getD_eq_getElem?_getD, List.getElem?_eq_getElem (by rw [sufOrd_length]; exact h), Option.getD_some]
  exact sufOrd_lt s _ (List.getElem_mem _)
theorem ord_up (s : List UInt8) {a b : Nat} (h : a < b) (hb : b < s.length) : LtW (s.length + 1) (sq s ((sufOrd s).getD a 0)) (sq s ((sufOrd s).getD b 0)) := by
  have hl := sufOrd_length s
  have := List.pairwise_iff_getElem.1 (sufOrd_isOrd s).up a b (by omega) (by omega) h
  rw [List.getD_eq_getElem?_getD, List.getElem?_eq_getElem (by omega), List.getD_eq_getElem?_getD, List.getElem?_eq_getElem (by omega)]
  exact this
theorem ord_inj (s : List UInt8) {a b : Nat} (ha : a < s.length) (hb : b < s.length) (h : (sufOrd s).getD a 0 = (sufOrd s).getD b 0) : a = b := by
  rcases Nat.lt_trichotomy a b with c | c | c
  · have := ord_up s c hb; rw [h] at this; exact this.irrefl.elim
  · exact c
  · have := ord_up s c ha; rw [h] at this; exact this.irrefl.elim
theorem rank_ord (s : List UInt8) (k : Nat) (h : k < s.length) : rank s ((sufOrd s).getD k 0) = k :=
  ord_inj s (rank_lt s _ (ord_lt s k h)) h (ord_rank s _ (ord_lt s k h))
theorem rank_up (s : List UInt8) {i j : Nat} (hi : i < s.length) (hj : j < s.length) (h : LtW (s.length + 1) (sq s i) (sq s j)) : rank s i < rank s j := by
  apply Decidable.byContradiction
  intro q
  by_cases e : rank s i = rank s j
  · have := ord_rank s i hi
    rw [e, ord_rank s j hj] at this
    subst this
    exact h.irrefl
  · have := ord_up s (a := rank s j) (b := rank s i) (by omega) (rank_lt s i hi)
    rw [ord_rank s i hi, ord_rank s j hj] at this
    exact h.asymm this
/-- behind a byte, overlaps are less by one at most -/
theorem over_behind (s : List UInt8) {i l : Nat} (hi : i + 1 < s.length) (hr : rank s i ≠ 0) (hl : lcp s ((sufOrd s).getD (rank s i - 1) 0) i = l + 2) :
    rank s (i + 1) ≠ 0 ∧ l + 1 ≤ lcp s ((sufOrd s).getD (rank s (i + 1) - 1) 0) (i + 1) := by
  have hri := rank_lt s i (by omega)
  have hp := ord_lt s (rank s i - 1) (by omega)
  have hup := ord_up s (a := rank s i - 1) (b := rank s i) (by omega) hri
  rw [ord_rank s i (by omega)] at hup
  generalize hpe : (sufOrd s).getD (rank s i - 1) 0 = p at *
  have hpi : p ≠ i := fun e => by subst e; exact hup.irrefl
  have hL := lcp_is s p i (by omega) (by omega) hpi
  rw [hl] at hL
  have hin := hL.inside (by omega) (by omega) hpi
  have hT := hL.tail
  have hlt := ltW_tail hL (by omega) hp hup
  have hrr := rank_up s (i := p + 1) (j := i + 1) (by omega) hi hlt
  refine ⟨by omega, ?_⟩
  have hq := ord_lt s (rank s (i + 1) - 1) (by have := rank_lt s (i + 1) hi; omega)
  have hqup := ord_up s (a := rank s (i + 1) - 1) (b := rank s (i + 1)) (by omega) (rank_lt s _ hi)
  rw [ord_rank s (i + 1) hi] at hqup
  have hqp : ¬ LtW (s.length + 1) (sq s ((sufOrd s).getD (rank s (i + 1) - 1) 0)) (sq s (p + 1)) := by
    intro c
    have := rank_up s hq (by omega) c
    rw [rank_ord s _ (by have := rank_lt s (i + 1) hi; omega)] at this
    omega
  have hqi : (sufOrd s).getD (rank s (i + 1) - 1) 0 ≠ i + 1 := fun e => by rw [e] at hqup; exact hqup.irrefl
  exact lcp_between hqp hqup hT (lcp_is s _ (i + 1) (by omega) (by omega) hqi)
end Go.Proofs.Fnd
namespace Go.Proofs.Ytppelnlocfcgfaa.P
open Go.RowKit Go.Proofs.YtppelnlocfcgfaaW.PrintWords Go.Proofs.YtppelnlocfcgfaaW.PrintLast Go.Proofs.YtppelnlocfcgfaaW.PrintMore
open Go.Proofs.Fnd
theorem w64 {x : Int} (h0 : -9223372036854775808 ≤ x) (h1 : x < 9223372036854775808) : wrap64 x = x := by
  unfold wrap64; omega
theorem bt_ch (t : ByteArray) (i : Nat) (h : i < t.size) : bt t i = (ch t.data.toList i : Int) - 1 := by
  have hl : t.data.toList.length = t.size := data_length t
  rw [ch_lt _ _ (by omega)]
  unfold bt
  rw [Int.toNat_natCast, dif_pos h]
  simp
  rfl
theorem find_common_is (t : ByteArray) (ht : t.size ≤ 4096) (a b m : Nat) (ha : a < t.size) (hb : b < t.size) (hne : a ≠ b) (hm : IsLcp t.data.toList a b m) :
    ∀ (d k l : Nat), l + d = m → d < k → find_common.l0 k t a b l = some (m : Int) := by
  have hl : t.data.toList.length = t.size := data_length t
  have hin := hm.inside (by omega) (by omega) hne
  intro d
  induction d with
  | zero =>
    intro k l hld hk
    obtain ⟨k, rfl⟩ : ∃ q, k = q + 1 := ⟨k - 1, by omega⟩
    obtain rfl : l = m := by omega
    simp only [find_common.l0]
    rw [w64 (by omega) (by omega), w64 (by omega) (by omega)]
    by_cases h1 : (a : Int) + (l : Int) < (t.size : Int)
    · by_cases h2 : (b : Int) + (l : Int) < (t.size : Int)
      · rw [if_pos h1, if_pos h2, if_pos (by omega), if_pos (by omega), if_neg]
        rw [← Int.natCast_add, ← Int.natCast_add, bt_ch t _ (by omega), bt_ch t _ (by omega)]
        have := hm.diff
        unfold sq at this
        omega
      · rw [if_pos h1, if_neg h2]
    · rw [if_neg h1]
  | succ d ih =>
    intro k l hld hk
    obtain ⟨k, rfl⟩ : ∃ q, k = q + 1 := ⟨k - 1, by omega⟩
    have ih := ih k (l + 1) (by omega) (by omega)
    have hs := hm.same l (by omega)
    unfold sq at hs
    simp only [find_common.l0]
    rw [w64 (by omega) (by omega), w64 (by omega) (by omega), w64 (by omega) (by omega)]
    rw [if_pos (by omega), if_pos (by omega), if_pos (by omega), if_pos (by omega), if_pos]
    · exact ih
    · rw [← Int.natCast_add, ← Int.natCast_add, bt_ch t _ (by omega), bt_ch t _ (by omega), hs]

/-- the order as the program's numbers -/
def ordI (t : ByteArray) : List Int := (sufOrd t.data.toList).map Int.ofNat
theorem ordI_length (t : ByteArray) : (ordI t).length = t.size := by
  rw [ordI, List.length_map, sufOrd_length]; exact data_length t
theorem rd_ordI (t : ByteArray) (k : Nat) (h : k < t.size) : rd (ordI t) (k : Int) = (((sufOrd t.data.toList).getD k 0 : Nat) : Int) := by
  have hl : t.data.toList.length = t.size := data_length t
  have hk : k < (sufOrd t.data.toList).length := by rw [sufOrd_length, hl]; exact h
  unfold rd ordI
  rw [Int.toNat_natCast, List.getD_eq_getElem?_getD, List.getElem?_map, List.getD_eq_getElem?_getD, List.getElem?_eq_getElem hk]
  rfl
theorem rd_set_same (l : List Int) (i : Nat) (x : Int) (h : i < l.length) : rd (l.set i x) (i : Int) = x := by
  unfold rd; rw [Int.toNat_natCast, List.getD_eq_getElem?_getD, List.getElem?_set_self h]; rfl
theorem rd_set_ne (l : List Int) (i j : Nat) (x : Int) (h : i ≠ j) : rd (l.set i x) (j : Int) = rd l (j : Int) := by
  unfold rd; rw [Int.toNat_natCast, List.getD_eq_getElem?_getD, List.getElem?_set_ne h, List.getD_eq_getElem?_getD]
/-- the ranks, written down for the first j places of the order -/
def IsRk (t : ByteArray) (j : Nat) (x : List Int) : Prop := x.length = t.size ∧ ∀ q, q < j → rd x (((sufOrd t.data.toList).getD q 0 : Nat) : Int) = (q : Int)
theorem over_l0 (t : ByteArray) (ht : t.size ≤ 4096) (K : Nat) (r : List Int)
    (hr : ∀ x, IsRk t t.size x → find_overlaps.l1 K t (ordI t) x (List.replicate t.size 0) 0 (t.size : Int) 0 = some r) :
    ∀ (d F j : Nat) (x : List Int), F = K + d + 1 → j + d = t.size → IsRk t j x → find_overlaps.l0 F t (ordI t) x (ordI t) (t.size : Int) (j : Int) = some r := by
  have hl : t.data.toList.length = t.size := data_length t
  intro d
  induction d with
  | zero =>
    intro F j x hF hj hx
    obtain ⟨F, rfl⟩ : ∃ q, F = q + 1 := ⟨F - 1, by omega⟩
    obtain rfl : F = K := by omega
    obtain rfl : j = t.size := by omega
    simp only [find_overlaps.l0]
    rw [if_neg (by omega), if_pos (by omega), if_pos (by omega)]
    simp only [Int.toNat_natCast]
    exact hr x hx
  | succ d ih =>
    intro F j x hF hj hx
    obtain ⟨F, rfl⟩ : ∃ q, F = q + 1 := ⟨F - 1, by omega⟩
    have ho := ord_lt t.data.toList j (by omega)
    have hr1 := rd_ordI t j (by omega)
    simp only [find_overlaps.l0]
    rw [hr1, ordI_length, hx.1]
    rw [if_pos (by omega), if_pos (by omega), if_pos (by omega), if_pos (by omega), if_pos (by omega), w64 (by omega) (by omega)]
    rw [Int.toNat_natCast]
    have := ih F (j + 1) (x.set ((sufOrd t.data.toList).getD j 0) (j : Int)) (by omega) (by omega) ⟨by rw [List.length_set]; exact hx.1, fun q hq => by
      by_cases e : q = j
      · subst e
        exact rd_set_same _ _ _ (by rw [hx.1]; omega)
      · rw [rd_set_ne _ _ _ _ (fun e2 => e (ord_inj _ (by omega) (by omega) e2.symm))]
        exact hx.2 q (by omega)⟩
    exact this
theorem rank_of {t : ByteArray} {x : List Int} (h : IsRk t t.size x) (i : Nat) (hi : i < t.size) : rd x (i : Int) = (rank t.data.toList i : Int) := by
  have hl : t.data.toList.length = t.size := data_length t
  have := h.2 (rank t.data.toList i) (by have := rank_lt t.data.toList i (by omega); omega)
  rwa [ord_rank _ _ (by omega)] at this
/-- the overlap at a place's rank -/
def ovAt (t : ByteArray) (i : Nat) : Nat := if rank t.data.toList i = 0 then 0 else lcp t.data.toList ((sufOrd t.data.toList).getD (rank t.data.toList i - 1) 0) i
def IsOv (t : ByteArray) (i : Nat) (x : List Int) : Prop := x.length = t.size ∧ (0 < t.size → rd x ((0 : Nat) : Int) = 0) ∧ ∀ j, j < i → rd x (rank t.data.toList j : Int) = (ovAt t j : Int)
def overI (t : ByteArray) : List Int := (overL t.data.toList).map Int.ofNat
theorem ov_done {t : ByteArray} {x : List Int} (h : IsOv t t.size x) : x = overI t := by
  have hl : t.data.toList.length = t.size := data_length t
  apply List.ext_getElem (by rw [h.1, overI, List.length_map, overL, List.length_map, List.length_range, hl])
  intro k h1 h2
  rw [h.1] at h1
  have h3 := h.2.2 ((sufOrd t.data.toList).getD k 0) (by have := ord_lt t.data.toList k (by omega); omega)
  rw [rank_ord _ _ (by omega)] at h3
  unfold ovAt at h3
  rw [rank_ord _ _ (by omega)] at h3
  unfold rd at h3
  rw [Int.toNat_natCast, List.getD_eq_getElem?_getD, List.getElem?_eq_getElem (by rw [h.1]; exact h1), Option.getD_some] at h3
  rw [h3]
  simp [overI, overL]
theorem over_l1 (t : ByteArray) (ht : t.size ≤ 4096) (rk : List Int) (hrk : IsRk t t.size rk) :
    ∀ (d k i least : Nat) (x : List Int), i + d = t.size → t.size + d < k → IsOv t i x → (i < t.size → rank t.data.toList i ≠ 0 → least ≤ ovAt t i) → least ≤ t.size →
      find_overlaps.l1 k t (ordI t) rk x (least : Int) (t.size : Int) (i : Int) = some (overI t) := by
  have hl : t.data.toList.length = t.size := data_length t
  intro d
  induction d with
  | zero =>
    intro k i least x hi hk hx hle hls
    obtain ⟨k, rfl⟩ : ∃ q, k = q + 1 := ⟨k - 1, by omega⟩
    obtain rfl : i = t.size := by omega
    simp only [find_overlaps.l1]
    rw [if_neg (by omega), ov_done hx]
  | succ d ih =>
    intro k i least x hi hk hx hle hls
    obtain ⟨k, rfl⟩ : ∃ q, k = q + 1 := ⟨k - 1, by omega⟩
    have hri := rank_of hrk i (by omega)
    have hrl := rank_lt t.data.toList i (by omega)
    simp only [find_overlaps.l1]
    rw [hri, hrk.1, ordI_length, hx.1]
    rw [if_pos (by omega), if_pos (by omega), if_pos (by omega)]
    by_cases h0 : rank t.data.toList i = 0
    · rw [if_pos (by omega), w64 (x := (i : Int) + 1) (by omega) (by omega)]
      have := ih k (i + 1) 0 x (by omega) (by omega) ⟨hx.1, hx.2.1, fun j hj => by
        by_cases e : j = i
        · subst e
          rw [h0, hx.2.1 (by omega)]
          unfold ovAt
          rw [if_pos h0]; rfl
        · exact hx.2.2 j (by omega)⟩ (fun _ _ => Nat.zero_le _) (by omega)
      exact this
    · have hp := ord_lt t.data.toList (rank t.data.toList i - 1) (by omega)
      have hov : ovAt t i = lcp t.data.toList ((sufOrd t.data.toList).getD (rank t.data.toList i - 1) 0) i := by unfold ovAt; rw [if_neg h0]
      have hup := ord_up t.data.toList (a := rank t.data.toList i - 1) (b := rank t.data.toList i) (by omega) hrl
      rw [ord_rank _ _ (by omega)] at hup
      have hne : (sufOrd t.data.toList).getD (rank t.data.toList i - 1) 0 ≠ i := fun e => by rw [e] at hup; exact hup.irrefl
      have hL := lcp_is t.data.toList _ i (by omega) (by omega) hne
      have hin := hL.inside (by omega) (by omega) hne
      have hlle := hle (by omega) h0
      rw [hov] at hlle
      have hc := find_common_is t ht i ((sufOrd t.data.toList).getD (rank t.data.toList i - 1) 0) _ (by omega) (by omega) (fun e => hne e.symm) hL.symm (lcp t.data.toList ((sufOrd t.data.toList).getD (rank t.data.toList i - 1) 0) i - least) k least (by omega) (by omega)
      rw [if_neg (by omega), w64 (x := (rank t.data.toList i : Int) - 1) (by omega) (by omega), w64 (x := (i : Int) + 1) (by omega) (by omega), if_pos (by omega), if_pos (by omega)]
      rw [show (rank t.data.toList i : Int) - 1 = ((rank t.data.toList i - 1 : Nat) : Int) by omega, rd_ordI t _ (by omega)]
      rw [show find_common.f k t (i : Int) _ (least : Int) = some _ from hc]
      simp only [Option.bind_some]
      rw [if_pos (by omega), if_pos (by omega), Int.toNat_natCast, w64 (by omega) (by omega)]
      have hmx : mx 0 ((lcp t.data.toList ((sufOrd t.data.toList).getD (rank t.data.toList i - 1) 0) i : Int) - 1) = ((lcp t.data.toList ((sufOrd t.data.toList).getD (rank t.data.toList i - 1) 0) i - 1 : Nat) : Int) := by unfold mx; omega
      rw [hmx]
      have := ih k (i + 1) (lcp t.data.toList ((sufOrd t.data.toList).getD (rank t.data.toList i - 1) 0) i - 1) (x.set (rank t.data.toList i) (lcp t.data.toList ((sufOrd t.data.toList).getD (rank t.data.toList i - 1) 0) i : Int)) (by omega) (by omega) ⟨by rw [List.length_set]; exact hx.1, fun h => by rw [rd_set_ne _ _ _ _ h0]; exact hx.2.1 h, fun j hj => by
        by_cases e : j = i
        · subst e
          rw [rd_set_same _ _ _ (by rw [hx.1]; omega), hov]
        · rw [rd_set_ne _ _ _ _ (fun e2 => ?_)]
          · exact hx.2.2 j (by omega)
          · have := ord_rank t.data.toList i (by omega)
            rw [e2, ord_rank _ _ (by omega)] at this
            exact e this⟩ (fun hi1 hr1 => by
        by_cases hz : lcp t.data.toList ((sufOrd t.data.toList).getD (rank t.data.toList i - 1) 0) i ≤ 1
        · omega
        · obtain ⟨l, hl2⟩ : ∃ l, lcp t.data.toList ((sufOrd t.data.toList).getD (rank t.data.toList i - 1) 0) i = l + 2 := ⟨_ - 2, (Nat.sub_add_cancel (by omega)).symm⟩
          have := (over_behind t.data.toList (by omega) h0 hl2).2
          unfold ovAt
          rw [if_neg hr1, hl2]
          omega) (by omega)
      exact this
/-- the overlaps, as the program computes them -/
theorem find_overlaps_is (t : ByteArray) (ht : t.size ≤ 4096) : ∃ k, find_overlaps.f k t (ordI t) = some (overI t) := by
  refine ⟨(2 * t.size + 1) + t.size + 1, ?_⟩
  unfold find_overlaps.f
  rw [if_pos (by omega), if_pos (by omega), Int.toNat_natCast, ordI_length]
  refine over_l0 t ht (2 * t.size + 1) (overI t) (fun x hx => ?_) t.size _ 0 _ (by omega) (by omega) ⟨List.length_replicate, fun q hq => by omega⟩
  refine over_l1 t ht x hx t.size _ 0 0 _ (by omega) (by omega) ⟨List.length_replicate, fun h => ?_, fun j hj => by omega⟩ (fun _ _ => Nat.zero_le _) (by omega)
  unfold rd
  rw [List.getD_eq_getElem?_getD, List.getElem?_replicate]
  split <;> rfl
theorem find_newIndex_is (t : ByteArray) (ht : t.size ≤ 4096) : ∃ k, find_newIndex.f k t = some (t, ordI t, overI t) := by
  obtain ⟨k, hk⟩ := find_overlaps_is t ht
  refine ⟨k, ?_⟩
  unfold find_newIndex.f find_suffixes.f
  rw [if_pos ht]
  simp only [Option.bind_some]
  rw [show (sufOrd t.data.toList).map Int.ofNat = ordI t from rfl, hk]
  rfl
theorem find_New_is (t : ByteArray) (ht : t.size ≤ 4096) : ∃ k, find_New.f k t = some (t, ordI t, overI t, 0) := by
  obtain ⟨k, hk⟩ := find_newIndex_is t ht
  refine ⟨k, ?_⟩
  unfold find_New.f
  rw [if_neg (by omega), hk]
  rfl
end Go.Proofs.Ytppelnlocfcgfaa.P
namespace Go.Proofs.Ytppelnlocfcgfaa.P
open Go.RowKit Go.Proofs.YtppelnlocfcgfaaW.PrintWords Go.Proofs.YtppelnlocfcgfaaW.PrintLast Go.Proofs.YtppelnlocfcgfaaW.PrintMore
open Go.Proofs.Fnd
set_option linter.unusedVariables false
set_option linter.unusedSimpArgs false
/-- the first bytes of a suffix, as many as a pattern has -/
def beg (t p : ByteArray) (i : Nat) : ByteArray := (t.extract i t.size).extract 0 (min ((t.size - i : Nat) : Int) (p.size : Int)).toNat
/-- the boxes of an index and of a pattern -/
structure SBoxes (W : World) (gx gp gb : Nat) (t p : ByteArray) (l : List Int) (A : Option Addr) (c : Nat) (o : Value) : Prop where
  cx0 : W.cell? ⟨gx, 0, none⟩ = some (.string t)
  cx1 : W.cell? ⟨gx, 1, none⟩ = some (.slice A l.length c)
  cp : W.cell? ⟨gp, 0, none⟩ = some (.string p)
  cb : W.cell? ⟨gb, 0, none⟩ = some (.func (.func 58) #[] #[.pointer (some ⟨gx, 0, none⟩), .pointer (some ⟨gp, 0, none⟩)])
  rd : Kd.C (Kd.int .i64) W A l.length l
set_option maxHeartbeats 1000000 in
set_option maxRecDepth 100000 in
theorem begins_calls (k i gx gp gb : Nat) (t p : ByteArray) (l : List Int) (A : Option Addr) (c : Nat) (o : Value) (W : World) (hB : SBoxes W gx gp gb t p l A c o) (hk : k < l.length) (hi : el l k = (i : Int)) (hit : i ≤ t.size) (ht : t.size ≤ 4096) (hp : p.size ≤ 140737488351232) :
    Calls Try.prog 58 #[.int .i64 k, .pointer (some ⟨gx, 0, none⟩), .pointer (some ⟨gp, 0, none⟩)] W fun e w' => e = .returned (.string (beg t p i)) ∧ ∃ q, w' = W.drewN q := by
  have hcx0 := hB.cx0
  have hcx1 := hB.cx1
  have hcp := hB.cp
  obtain ⟨ad, rfl, hx⟩ := Kd.at_int hB.rd (k : Int) (by omega) (by omega)
  rw [rd_el, hi, Int.toNat_natCast] at hx
  have hkI : ((k : Nat) : Int) < ((l.length : Nat) : Int) := by omega
  have hit' : ((i : Nat) : Int) ≤ ((t.size : Nat) : Int) := by omega
  clear hB hi
  go_enter Try.func58, Try.ntmps58
  go_wp2
  go_quiet (fail)
  go_wp2
  go_ret
  exact ⟨rfl, _, rfl⟩
theorem SBoxes.drewN {W : World} {gx gp gb : Nat} {t p : ByteArray} {l : List Int} {A : Option Addr} {c : Nat} {o : Value} (h : SBoxes W gx gp gb t p l A c o) (k : Nat) : SBoxes (W.drewN k) gx gp gb t p l A c o :=
  ⟨h.cx0, h.cx1, h.cp, h.cb, Kd.C_drewN h.rd k⟩
set_option maxHeartbeats 1000000 in
set_option maxRecDepth 100000 in
theorem atleast_calls (k i gx gp gb : Nat) (t p : ByteArray) (l : List Int) (A : Option Addr) (c : Nat) (o : Value) (W : World) (hB : SBoxes W gx gp gb t p l A c o) (hk : k < l.length) (hi : el l k = (i : Int)) (hit : i ≤ t.size) (ht : t.size ≤ 4096) (hp : p.size ≤ 140737488351232) :
    Calls Try.prog 60 #[.int .i64 k, .pointer (some ⟨gb, 0, none⟩), .pointer (some ⟨gp, 0, none⟩)] W fun e w' => e = .returned (.bool (!(Op.bytesLess (beg t p i).toList p.toList))) ∧ ∃ q, w' = W.drewN q := by
  have hcp := hB.cp
  have hcb := hB.cb
  have HBG := Aside0.mk (fun n => begins_calls k i gx gp gb t p l A c o (W.drewN n) (hB.drewN n) hk hi hit ht hp)
  clear hB hi
  generalize beg t p i = b at *
  go_enter Try.func60, Try.ntmps60
  go_wp2
  go_quiet ((go_at_call 58; exact Calls.quiet_of (HBG.out _)))
  go_wp2
  go_ret
  exact ⟨rfl, _, rfl⟩
set_option maxHeartbeats 1000000 in
set_option maxRecDepth 100000 in
theorem above_calls (k i gx gp gb : Nat) (t p : ByteArray) (l : List Int) (A : Option Addr) (c : Nat) (o : Value) (W : World) (hB : SBoxes W gx gp gb t p l A c o) (hk : k < l.length) (hi : el l k = (i : Int)) (hit : i ≤ t.size) (ht : t.size ≤ 4096) (hp : p.size ≤ 140737488351232) :
    Calls Try.prog 61 #[.int .i64 k, .pointer (some ⟨gb, 0, none⟩), .pointer (some ⟨gp, 0, none⟩)] W fun e w' => e = .returned (.bool (!(Op.bytesLess (beg t p i).toList p.toList || (beg t p i).toList == p.toList))) ∧ ∃ q, w' = W.drewN q := by
  have hcp := hB.cp
  have hcb := hB.cb
  have HBG := Aside0.mk (fun n => begins_calls k i gx gp gb t p l A c o (W.drewN n) (hB.drewN n) hk hi hit ht hp)
  clear hB hi
  generalize beg t p i = b at *
  go_enter Try.func61, Try.ntmps61
  go_wp2
  go_quiet ((go_at_call 58; exact Calls.quiet_of (HBG.out _)))
  go_wp2
  go_ret
  exact ⟨by first | rfl | (simp; done), _, rfl⟩
end Go.Proofs.Ytppelnlocfcgfaa.P
namespace Go.Proofs.Ytppelnlocfcgfaa.P
open Go.RowKit Go.Proofs.YtppelnlocfcgfaaW.PrintWords Go.Proofs.YtppelnlocfcgfaaW.PrintLast Go.Proofs.YtppelnlocfcgfaaW.PrintMore
open Go.Proofs.Fnd Go.Sort
set_option linter.unusedVariables false
set_option linter.unusedSimpArgs false
theorem beg_list (t p : ByteArray) (i : Nat) (hi : i ≤ t.size) : (beg t p i).toList = beginning t.data.toList p.data.toList.length i := by
  rw [ByteArray.toList_eq]
  unfold beg beginning
  rw [Lib.extract_data, Lib.extract_data]
  have h1 : t.data.toList.length = t.size := data_length t
  have h2 : p.data.toList.length = p.size := data_length p
  rw [h2, List.drop_zero, Nat.sub_zero, List.take_take, List.take_eq_take_iff, List.length_drop]
  omega
theorem upper_iff (x y : List UInt8) : (!(decide (x < y) || x == y)) = true ↔ y < x := by
  simp only [Bool.not_eq_true', Bool.or_eq_false_iff, decide_eq_false_iff_not, beq_eq_false_iff_ne]
  constructor
  · rintro ⟨h1, h2⟩
    exact Std.lt_of_le_of_ne (List.not_lt.1 h1) (fun e => h2 e.symm)
  · intro h
    exact ⟨List.lt_asymm h, fun e => by subst e; exact List.lt_irrefl _ h⟩
/-- where the suffixes that begin with a pattern stand in the order -/
def find_Index_span.f (a0 : ByteArray) (l1 l2 : List Int) (a1 : ByteArray) : Option (Int × Int) :=
  if a0.size ≤ 4096 ∧ a1.size ≤ 140737488351232 ∧ l1 = (sufOrd a0.data.toList).map Int.ofNat then some ((below a0.data.toList a1.data.toList : Int), (upto a0.data.toList a1.data.toList : Int)) else none
theorem SBoxes.grow {W : World} {gx gp gb : Nat} {t p : ByteArray} {l : List Int} {A : Option Addr} {c : Nat} {o : Value} (h : SBoxes W gx gp gb t p l A c o) (os : Array Obj) : SBoxes (Sort.grow W os) gx gp gb t p l A c o := by
  have hc : ∀ (a : Addr) (v : Value), W.cell? a = some v → (Sort.grow W os).cell? a = some v := fun a v hv => by
    rw [← hv]
    exact World.cell?_of_block (heap_grow (World.block_lt_of_cell? W _ hv))
  refine ⟨hc _ _ h.cx0, hc _ _ h.cx1, hc _ _ h.cp, hc _ _ h.cb, ?_⟩
  exact Kd.C_below h.rd ⟨rfl, rfl, rfl, by rw [Sort.size_grow]; omega, fun k hk => heap_grow hk⟩
theorem below_grow {w W : World} (h : Below w.heap.size w W) (q : Nat) (os : Array Obj) : Below w.heap.size w (Sort.grow (W.drewN q) os) :=
  below_step h ⟨rfl, rfl, rfl, by rw [Sort.size_grow]; exact Nat.le_add_right _ _, fun k hk => heap_grow (w := W.drewN q) hk⟩
set_option maxHeartbeats 2000000 in
set_option maxRecDepth 100000 in
theorem find_Index_span.calls (a0 : ByteArray) (A1 : Option Addr) (c1 : Nat) (l1 : List Int) (A2 : Option Addr) (c2 : Nat) (l2 : List Int) (a1 : ByteArray) (r1 r2 : Int) (w : World) (hr1 : Kd.C (Kd.int .i64) w A1 l1.length l1) (hc1 : l1.length ≤ c1) (hr2 : Kd.C (Kd.int .i64) w A2 l2.length l2) (hc2 : l2.length ≤ c2) (h : find_Index_span.f a0 l1 l2 a1 = some (r1, r2)) :
    Calls Try.prog 49 #[.agg #[.string a0, .slice A1 l1.length c1, .slice A2 l2.length c2], .string a1] w fun e w' => e = .returned (.tuple #[.int .i64 r1, .int .i64 r2]) ∧ Below w.heap.size w w' := by
  unfold find_Index_span.f at h
  by_cases hs : a0.size ≤ 4096 ∧ a1.size ≤ 140737488351232 ∧ l1 = (sufOrd a0.data.toList).map Int.ofNat
  · rw [if_pos hs] at h
    simp only [Option.some.injEq, Prod.mk.injEq] at h
    obtain ⟨h1, h2⟩ := h
    have HR1 := Aside0.mk h1
    have HR2 := Aside0.mk h2
    obtain ⟨hs1, hs2, hs3⟩ := hs
    have HSZ := Aside0.mk (show a0.data.toList.length = a0.size from data_length a0)
    have hll : l1.length = a0.size := by rw [hs3, List.length_map, sufOrd_length]; exact HSZ.out
    have HEL : Aside0 (∀ k, k < a0.size → el l1 k = (((sufOrd a0.data.toList).getD k 0 : Nat) : Int) ∧ (sufOrd a0.data.toList).getD k 0 ≤ a0.size) := ⟨fun k hk => by
      have hk' : k < (sufOrd a0.data.toList).length := by rw [sufOrd_length, HSZ.out]; exact hk
      rw [hs3]
      unfold el
      rw [List.getD_eq_getElem?_getD, List.getElem?_map, List.getD_eq_getElem?_getD, List.getElem?_eq_getElem hk']
      refine ⟨rfl, ?_⟩
      have := sufOrd_lt _ _ (List.getElem_mem hk')
      rw [HSZ.out] at this
      simp only [Option.getD_some]
      omega⟩
    have HLL := Aside0.mk hll
    have hbx : ∀ o1 o2 o3, o1 = Obj.cells #[.string a0, .slice A1 l1.length c1, .slice A2 l2.length c2] 24 → o2 = Obj.cells #[.string a1] 9 → o3 = Obj.cells #[.func (.func 58) #[] #[.pointer (some ⟨w.heap.size, 0, none⟩), .pointer (some ⟨w.heap.size + 1, 0, none⟩)]] 86 → SBoxes (((w.alloc o1).alloc o2).alloc o3) w.heap.size (w.heap.size + 1) (w.heap.size + 1 + 1) a0 a1 l1 A1 c1 (.slice A2 l2.length c2) := by
      rintro o1 o2 o3 rfl rfl rfl
      have b1 := heap_alloc_new w (Obj.cells #[.string a0, .slice A1 l1.length c1, .slice A2 l2.length c2] 24)
      have b2 := heap_alloc2_new w (Obj.cells #[.string a0, .slice A1 l1.length c1, .slice A2 l2.length c2] 24) (Obj.cells #[.string a1] 9)
      refine ⟨blk_cell (blk_alloc (blk_alloc b1 _) _) 0, blk_cell (blk_alloc (blk_alloc b1 _) _) 1, blk_cell (blk_alloc b2 _) 0, ?_, Kd.C_alloc (Kd.C_alloc (Kd.C_alloc hr1 _) _) _⟩
      refine blk_cell (t := 86) (cs := #[.func (.func 58) #[] #[.pointer (some ⟨w.heap.size, 0, none⟩), .pointer (some ⟨w.heap.size + 1, 0, none⟩)]]) ?_ 0
      have b3 := heap_alloc_new ((w.alloc (Obj.cells #[.string a0, .slice A1 l1.length c1, .slice A2 l2.length c2] 24)).alloc (Obj.cells #[.string a1] 9)) (Obj.cells #[.func (.func 58) #[] #[.pointer (some ⟨w.heap.size, 0, none⟩), .pointer (some ⟨w.heap.size + 1, 0, none⟩)]] 86)
      simpa using b3
    have HBX := Aside0.mk (hbx _ _ _ rfl rfl rfl)
    have hb0 : ∀ o1 o2 o3, Below w.heap.size w (((w.alloc o1).alloc o2).alloc o3) := fun o1 o2 o3 => below_alloc (below_alloc (below_alloc (Below.refl w.heap.size w) _) _) _
    have HB0 := Aside0.mk hb0
    clear hb0
    clear hbx hr1 hr2 h1 h2
    have hmf : ∀ (fn : Fn) (first cap : Array Value) (w : World), (Instr.makeFunc fn first cap).run Try.prog w = .ok (.func fn first cap) w := fun _ _ _ _ => rfl
    have eg60 : ∀ args w, (callFunc 60 args).run Try.prog w = .ok (.enter 60 args) w := enters_of Try.func60 (by kernel_rfl) rfl
    have eg61 : ∀ args w, (callFunc 61 args).run Try.prog w = .ok (.enter 61 args) w := enters_of Try.func61 (by kernel_rfl) rfl
    have hlo : ∀ (W : World) gx gp gb, SBoxes W gx gp gb a0 a1 l1 A1 c1 (.slice A2 l2.length c2) → Calls Try.prog 59 #[.int .i64 (a0.size : Int), .func (.func 60) #[] #[.pointer (some ⟨gb, 0, none⟩), .pointer (some ⟨gp, 0, none⟩)]] W fun e w' => e = .returned (.int .i64 r1) ∧ ∃ q os, w' = Sort.grow (W.drewN q) os := by
      intro W gx gp gb hB
      have hc := Any.sort_Search Try.search 60 #[.pointer (some ⟨gb, 0, none⟩), .pointer (some ⟨gp, 0, none⟩)] a0.size (fun k => !(Op.bytesLess (beg a0 a1 ((sufOrd a0.data.toList).getD k 0)).toList a1.toList)) W eg60 (by omega)
        (fun m os k hk => by
          obtain ⟨he, hle⟩ := HEL.out k hk
          refine (atleast_calls k _ gx gp gb a0 a1 l1 A1 c1 _ _ ((hB.drewN m).grow os) (by rw [HLL.out]; exact hk) he hle hs1 hs2).mono ?_
          rintro e w' ⟨he, q, hq⟩
          exact ⟨he, q, #[], by rw [hq, Sort.grow_empty]⟩)
        (fun a b hab hb h => by
          obtain ⟨_, ha⟩ := HEL.out a (by omega)
          obtain ⟨_, hb'⟩ := HEL.out b hb
          simp only [beg_list _ _ _ ha, beg_list _ _ _ hb', ByteArray.toList_eq, bytesLess_eq, Bool.not_eq_true', decide_eq_false_iff_not] at h ⊢
          have := take_le a1.data.toList.length (order_le a0.data.toList hab (by rw [HSZ.out]; exact hb))
          unfold beginning at h ⊢
          exact fun q => h (Std.lt_of_le_of_lt (List.not_lt.1 this) q))
      refine hc.mono ?_
      rintro e w' ⟨rfl, hw⟩
      refine ⟨?_, hw⟩
      rw [← HR1.out]
      unfold below
      rw [← count_order a0.data.toList (fun i => decide (beginning a0.data.toList a1.data.toList.length i < a1.data.toList)), HSZ.out]
      congr 3
      refine List.countP_congr fun k hk => ?_
      rw [List.mem_range] at hk
      obtain ⟨_, hle⟩ := HEL.out k hk
      simp only [beg_list _ _ _ hle, ByteArray.toList_eq, bytesLess_eq, Bool.not_not]
    have hhi : ∀ (W : World) gx gp gb, SBoxes W gx gp gb a0 a1 l1 A1 c1 (.slice A2 l2.length c2) → Calls Try.prog 59 #[.int .i64 (a0.size : Int), .func (.func 61) #[] #[.pointer (some ⟨gb, 0, none⟩), .pointer (some ⟨gp, 0, none⟩)]] W fun e w' => e = .returned (.int .i64 r2) ∧ ∃ q os, w' = Sort.grow (W.drewN q) os := by
      intro W gx gp gb hB
      have hc := Any.sort_Search Try.search 61 #[.pointer (some ⟨gb, 0, none⟩), .pointer (some ⟨gp, 0, none⟩)] a0.size (fun k => !(Op.bytesLess (beg a0 a1 ((sufOrd a0.data.toList).getD k 0)).toList a1.toList || (beg a0 a1 ((sufOrd a0.data.toList).getD k 0)).toList == a1.toList)) W eg61 (by omega)
        (fun m os k hk => by
          obtain ⟨he, hle⟩ := HEL.out k hk
          refine (above_calls k _ gx gp gb a0 a1 l1 A1 c1 _ _ ((hB.drewN m).grow os) (by rw [HLL.out]; exact hk) he hle hs1 hs2).mono ?_
          rintro e w' ⟨he, q, hq⟩
          exact ⟨he, q, #[], by rw [hq, Sort.grow_empty]⟩)
        (fun a b hab hb h => by
          obtain ⟨_, ha⟩ := HEL.out a (by omega)
          obtain ⟨_, hb'⟩ := HEL.out b hb
          simp only [beg_list _ _ _ ha, beg_list _ _ _ hb', ByteArray.toList_eq, bytesLess_eq, upper_iff] at h ⊢
          have := take_le a1.data.toList.length (order_le a0.data.toList hab (by rw [HSZ.out]; exact hb))
          unfold beginning at h ⊢
          exact Std.lt_of_lt_of_le h (List.not_lt.1 this))
      refine hc.mono ?_
      rintro e w' ⟨rfl, hw⟩
      refine ⟨?_, hw⟩
      rw [← HR2.out]
      unfold upto
      rw [← count_order a0.data.toList (fun i => !decide (a1.data.toList < beginning a0.data.toList a1.data.toList.length i)), HSZ.out]
      congr 3
      refine List.countP_congr fun k hk => ?_
      rw [List.mem_range] at hk
      obtain ⟨_, hle⟩ := HEL.out k hk
      simp only [beg_list _ _ _ hle, ByteArray.toList_eq, bytesLess_eq, Bool.not_not]
      have := upper_iff (beginning a0.data.toList a1.data.toList.length ((sufOrd a0.data.toList).getD k 0)) a1.data.toList
      cases hz : (decide (beginning a0.data.toList a1.data.toList.length ((sufOrd a0.data.toList).getD k 0) < a1.data.toList) || beginning a0.data.toList a1.data.toList.length ((sufOrd a0.data.toList).getD k 0) == a1.data.toList)
      · rw [hz] at this
        simp only [Bool.not_false, true_iff] at this
        simp only [Bool.false_eq_true, false_iff, Bool.not_eq_true', decide_eq_false_iff_not, Decidable.not_not]
        exact this
      · rw [hz] at this
        simp only [Bool.not_true, Bool.false_eq_true, false_iff] at this
        simp only [true_iff, Bool.not_eq_true', decide_eq_false_iff_not]
        exact this
    have HLO := Aside0.mk hlo
    have HHI := Aside0.mk hhi
    have hnI : ((l1.length : Nat) : Int) = (a0.size : Int) := by rw [HLL.out]
    clear hlo hhi HEL hs3 hll
    go_enter Try.func49, Try.ntmps49
    go_wp2_with (first | (go_at_call 59; (with_reducible refine (HLO.out _ _ _ _ HBX.out).mono ?_); rintro e w1 ⟨rfl, q, os, hw1⟩; have HBX1 := Aside0.mk ((HBX.out.drewN q).grow os); rw [← hw1] at HBX1; have hcx1 := HBX1.out.cx1; have HB1 : Aside0 (Below w.heap.size w w1) := ⟨by rw [hw1]; exact below_grow (HB0.out _ _ _) q os⟩; clear hw1) | (go_at_call 59; (with_reducible refine (HHI.out _ _ _ _ HBX1.out).mono ?_); rintro e w2 ⟨rfl, q, os, hw2⟩; have HB2 := Aside0.mk (below_grow HB1.out q os); rw [← hw2] at HB2; clear hw2))
    go_ret2
    exact ⟨rfl, HB2.out⟩
  · rw [if_neg hs] at h
    exact absurd h (by simp)
end Go.Proofs.Ytppelnlocfcgfaa.P
namespace Go.Proofs.Ytppelnlocfcgfaa.P
open Go.RowKit Go.Proofs.YtppelnlocfcgfaaW.PrintWords Go.Proofs.YtppelnlocfcgfaaW.PrintLast Go.Proofs.YtppelnlocfcgfaaW.PrintMore
attribute [local go_sem] max2_int min2_int max_two min_two max_three min_three max_four min_four   -- for this text's walks alone
set_option linter.unusedVariables false
set_option linter.unusedSimpArgs false

/-! ### find_Index_Count: function 29 -/
def find_Index_Count.f (a0_0 : ByteArray) (l0_1 : List Int) (l0_2 : List Int) (a1 : ByteArray) : Option (Int) := (find_Index_span.f a0_0 l0_1 l0_2 a1).bind fun bt131 => (some (wrap64 (bt131.2 - bt131.1)))
set_option maxHeartbeats 8000000 in
set_option maxRecDepth 100000 in
theorem find_Index_Count.calls (a0_0 : ByteArray) (A0_1 : Option Addr) (c0_1 : Nat) (l0_1 : List Int) (A0_2 : Option Addr) (c0_2 : Nat) (l0_2 : List Int) (a1 : ByteArray) (r : Int) (w : World) (hr0_1 : Kd.C (Kd.int .i64) w A0_1 l0_1.length l0_1) (hc0_1 : l0_1.length ≤ c0_1) (hr0_2 : Kd.C (Kd.int .i64) w A0_2 l0_2.length l0_2) (hc0_2 : l0_2.length ≤ c0_2) (h : find_Index_Count.f a0_0 l0_1 l0_2 a1 = some r) :
  Calls Try.prog 29 #[.agg #[.string a0_0, .slice A0_1 l0_1.length c0_1, .slice A0_2 l0_2.length c0_2], .string a1] w fun e w' => e = .returned (.int .i64 r) ∧ Below w.heap.size w w' := by
 have hu24 := Try.underlying24
 have HR0_1 := Aside0.mk hr0_1
 have HC0_1 := Aside0.mk hc0_1
 clear hr0_1 hc0_1
 have HR0_2 := Aside0.mk hr0_2
 have HC0_2 := Aside0.mk hc0_2
 clear hr0_2 hc0_2
 have HB := Aside0.mk (Below.refl w.heap.size w)
 have H : ((find_Index_span.f a0_0 l0_1 l0_2 a1).bind fun bt131 => (some (wrap64 (bt131.2 - bt131.1)))) = some r := h
 clear h
 replace H := Option.bind_eq_some_iff.mp H
 obtain ⟨⟨t131, t132⟩, A30, H⟩ := H
 replace H : (some (wrap64 (t132 - t131))) = some r := H
 have A3 := Aside0.mk A30
 clear A30
 obtain rfl := Option.some.inj H
 go_enter Try.func29, Try.ntmps29
 go_wp2_with (first | ((with_reducible refine gate_dst (N := 2) rfl ?_); refine box_event ?hg (N := 2) ?hd (cs := #[.string a0_0, .slice A0_1 l0_1.length c0_1, .slice A0_2 l0_2.length c0_2]) (t := 24) ?hr ?_; (case hd => rfl); (case hg => rfl); (case hr => first | (go_simp; done) | (go_simp; rfl)); intro gb130 hg w4 hbox hb; have n0_ := Aside0.mk (below_step (by repeat (first | (with_reducible first | exact HB.out | apply below_alloc | apply pw_below_drewN | apply below_drew1) | exact HB.out)) hb); have n1_ := Aside0.mk (hbox); have n2_ := Aside0.mk ((by rw [hg]; exact (below_size (by repeat (first | (with_reducible first | exact HB.out | apply below_alloc | apply pw_below_drewN | apply below_drew1) | exact HB.out))) : w.heap.size ≤ gb130)); have n3_ := Aside0.mk ((by rw [hg]; exact (below_size (by repeat (first | (with_reducible first | exact HB.out | apply below_alloc | apply pw_below_drewN | apply below_drew1) | exact HB.out))) : w.heap.size ≤ gb130)); clear HB; have HB := n0_; have BK130 := n1_; have GW130 := n2_; have GE130 := n3_; clear n0_ n1_ n2_ n3_; clear hb hbox hg; have hcz5_0 : w4.cell? ⟨gb130, 0, none⟩ = some (.string a0_0) := (blk_cell BK130.out 0).trans rfl; have hcz5_1 : w4.cell? ⟨gb130, 1, none⟩ = some (.slice A0_1 l0_1.length c0_1) := (blk_cell BK130.out 1).trans rfl; have hcz5_2 : w4.cell? ⟨gb130, 2, none⟩ = some (.slice A0_2 l0_2.length c0_2) := (blk_cell BK130.out 2).trans rfl; have hfz5_0 := blk_frozen BK130.out 0; have hfz5_1 := blk_frozen BK130.out 1; have hfz5_2 := blk_frozen BK130.out 2) | ((with_reducible refine gate_callee (f := 49) rfl ?_); refine goesL_ (some 10) rfl rfl Try.func49 (by kernel_rfl) rfl #[.agg #[.string a0_0, .slice A0_1 l0_1.length c0_1, .slice A0_2 l0_2.length c0_2], .string a1] rfl (by (try simp only [List.map_toArray, List.map_cons, List.map_nil]); first | done | rfl | (simp only [List.length_drop, List.length_take]; rfl)) ?_; (with_reducible refine (find_Index_span.calls a0_0 _ _ l0_1 _ _ l0_2 a1 t131 t132 _ ?side1 ?side2 ?side3 ?side4 A3.out).mono ?_); (case side1 => repeat (first | exact (Kd.C_below HR0_1.out HB.out) | (with_reducible refine Kd.C_alloc ?_ _) | (with_reducible refine Kd.C_drewN ?_ _) | (with_reducible refine Kd.C_drew ?_))); (case side2 => exact HC0_1.out); (case side3 => repeat (first | exact (Kd.C_below HR0_2.out HB.out) | (with_reducible refine Kd.C_alloc ?_ _) | (with_reducible refine Kd.C_drewN ?_ _) | (with_reducible refine Kd.C_drew ?_))); (case side4 => exact HC0_2.out); rintro e w6 ⟨rfl, hb⟩; refine ⟨_, rfl, ?_⟩; have n0_ := Aside0.mk (blk_below (g := gb130) (o := .cells #[.string a0_0, .slice A0_1 l0_1.length c0_1, .slice A0_2 l0_2.length c0_2] 24 (0, 0)) (by (with_reducible repeat (first | refine blk_drewN ?_ _ | refine blk_drew ?_ | refine blk_alloc ?_ _)); exact BK130.out) hb); have n1_ := Aside0.mk (below_step (by repeat (first | (with_reducible first | exact HB.out | apply below_alloc | apply pw_below_drewN | apply below_drew1 | refine below_set ?_ GE130.out) | exact HB.out)) hb); clear BK130; clear HB; have BK130 := n0_; have HB := n1_; clear n0_ n1_; (try clear hb); (try clear hb2); (try clear hk); (try clear hi)))
 go_ret
 exact ⟨by first | rfl | (simp [errW_none, errW_some] <;> rfl) | (simp [*, errW_none, errW_some] <;> rfl), by repeat (first | (with_reducible first | exact HB.out | apply below_alloc | apply pw_below_drewN | apply below_drew1 | refine below_set ?_ GE130.out) | exact HB.out)⟩

end Go.Proofs.Ytppelnlocfcgfaa.P
namespace Go.Proofs.Ytppelnlocfcgfaa.P
open Go.RowKit Go.Proofs.YtppelnlocfcgfaaW.PrintWords Go.Proofs.YtppelnlocfcgfaaW.PrintLast Go.Proofs.YtppelnlocfcgfaaW.PrintMore
set_option linter.unusedVariables false
set_option linter.unusedSimpArgs false
/-- strings.Clone -/
def strings_Clone.f (a0 : ByteArray) : Option ByteArray := if a0.size ≤ 281474976710656 then some a0 else none
set_option maxHeartbeats 1000000 in
set_option maxRecDepth 100000 in
theorem strings_Clone.calls (a0 : ByteArray) (r : ByteArray) (w : World) (h : strings_Clone.f a0 = some r) :
    Calls Try.prog 42 #[.string a0] w fun e w' => e = .returned (.string r) ∧ Below w.heap.size w w' := by
  unfold strings_Clone.f at h
  by_cases hs : a0.size ≤ 281474976710656
  · rw [if_pos hs] at h
    injection h with h
    subst h
    have HC := Aside0.mk (Try.stringslite_Clone a0 w hs)
    go_enter Try.func42, Try.ntmps42
    go_wp2_with (go_at_call 56; refine HC.out.mono ?_; rintro e w' ⟨rfl, hb⟩)
    go_ret
    exact ⟨rfl, hb⟩
  · rw [if_neg hs] at h
    exact absurd h (by simp)
end Go.Proofs.Ytppelnlocfcgfaa.P
namespace Go.Proofs.Ytppelnlocfcgfaa.P
open Go.RowKit Go.Proofs.YtppelnlocfcgfaaW.PrintWords Go.Proofs.YtppelnlocfcgfaaW.PrintLast Go.Proofs.YtppelnlocfcgfaaW.PrintMore
attribute [local go_sem] max2_int min2_int max_two min_two max_three min_three max_four min_four   -- for this text's walks alone
set_option linter.unusedVariables false
set_option linter.unusedSimpArgs false

/-! ### find_Index_Repeat: function 17 -/
def find_Index_Repeat.l0 : Nat → Int → Int → List Int → Int → Int → ByteArray → List Int → List Int → Option (ByteArray × Int × Int)
 | 0, _, _, _, _, _, _, _, _ => none
 | k + 1, x5, x6, x11, x12, x13, x134000, x134001, x134002 => if x13 < x12 then (if 0 ≤ x13 then (if x13 < (x11.length : Int) then (if (rd x11 x13) > x5 then (if x13 < (x134001.length : Int) then (find_Index_Repeat.l0 k (rd x11 x13) (rd x134001 x13) x11 x12 (wrap64 (x13 + 1)) x134000 x134001 x134002) else (none)) else (find_Index_Repeat.l0 k x5 x6 x11 x12 (wrap64 (x13 + 1)) x134000 x134001 x134002)) else (none)) else (none)) else (if x5 = 0 then (some ((⟨#[]⟩ : ByteArray), 0, 6)) else (if 0 ≤ x6 then (if x6 ≤ (wrap64 (x6 + x5)) then (if (wrap64 (x6 + x5)) ≤ (x134000.size : Int) then ((strings_Clone.f (x134000.extract (x6 : Int).toNat ((wrap64 (x6 + x5)) : Int).toNat)).bind fun t136 => ((find_Index_Count.f x134000 x134001 x134002 t136).bind fun t137 => (some (t136, t137, 0)))) else (none)) else (none)) else (none)))
def find_Index_Repeat.f (k : Nat) (a0_0 : ByteArray) (l0_1 : List Int) (l0_2 : List Int) : Option (ByteArray × Int × Int) := find_Index_Repeat.l0 k 0 0 l0_2 (l0_2.length : Int) 0 a0_0 l0_1 l0_2
theorem find_Index_Repeat.mono_l : ∀ k, (∀ y0 y1 y2 y3 y4 y5 y6 y7, LeO (find_Index_Repeat.l0 k y0 y1 y2 y3 y4 y5 y6 y7) (find_Index_Repeat.l0 (k + 1) y0 y1 y2 y3 y4 y5 y6 y7))
 | 0 => fun _ _ _ _ _ _ _ _ r h => by simp [find_Index_Repeat.l0] at h
 | k + 1 => by
  have ih0 := find_Index_Repeat.mono_l k
  ·intro y0 y1 y2 y3 y4 y5 y6 y7
   unfold find_Index_Repeat.l0
   repeat' first
   | (with_reducible exact ih0 _ _ _ _ _ _ _ _)
   | (with_reducible exact LeO.refl _)
   | (with_reducible exact LeO.none _)
   | (with_reducible refine LeO.ite ?_ ?_)
   | (with_reducible refine LeO.bind ?_ (fun _ => ?_))
   | exact ih0 _ _ _ _ _ _ _ _
   | exact LeO.none _
   | refine LeO.ite ?_ ?_
   | refine LeO.bind ?_ (fun _ => ?_)
theorem find_Index_Repeat.mono : ∀ a0 a1 a2 k, LeO (find_Index_Repeat.f k a0 a1 a2) (find_Index_Repeat.f (k + 1) a0 a1 a2) := by
 intro a0 a1 a2 k
 have ih0 := find_Index_Repeat.mono_l k
 unfold find_Index_Repeat.f
 repeat' first
   | (with_reducible exact ih0 _ _ _ _ _ _ _ _)
   | (with_reducible exact LeO.refl _)
   | (with_reducible exact LeO.none _)
   | (with_reducible refine LeO.ite ?_ ?_)
   | (with_reducible refine LeO.bind ?_ (fun _ => ?_))
   | exact ih0 _ _ _ _ _ _ _ _
   | exact LeO.none _
   | refine LeO.ite ?_ ?_
   | refine LeO.bind ?_ (fun _ => ?_)
set_option maxHeartbeats 8000000 in
set_option maxRecDepth 100000 in
theorem find_Index_Repeat.calls (k : Nat) (a0_0 : ByteArray) (A0_1 : Option Addr) (c0_1 : Nat) (l0_1 : List Int) (A0_2 : Option Addr) (c0_2 : Nat) (l0_2 : List Int) (r1 : ByteArray) (r2 : Int) (r3 : Int) (w : World) (hr0_1 : Kd.C (Kd.int .i64) w A0_1 l0_1.length l0_1) (hc0_1 : l0_1.length ≤ c0_1) (hr0_2 : Kd.C (Kd.int .i64) w A0_2 l0_2.length l0_2) (hc0_2 : l0_2.length ≤ c0_2) (h : find_Index_Repeat.f k a0_0 l0_1 l0_2 = some (r1, r2, r3)) :
  Calls Try.prog 17 #[.agg #[.string a0_0, .slice A0_1 l0_1.length c0_1, .slice A0_2 l0_2.length c0_2]] w fun e w' => e = .returned (.tuple #[.string r1, .int .i64 r2, .int .i64 r3]) ∧ Below w.heap.size w w' := by
 have hu24 := Try.underlying24
 have HR0_1 := Aside0.mk hr0_1
 have HC0_1 := Aside0.mk hc0_1
 clear hr0_1 hc0_1
 have HR0_2 := Aside0.mk hr0_2
 have HC0_2 := Aside0.mk hc0_2
 clear hr0_2 hc0_2
 have HB := Aside0.mk (Below.refl w.heap.size w)
 have H : (find_Index_Repeat.l0 k 0 0 l0_2 (l0_2.length : Int) 0 a0_0 l0_1 l0_2) = some (r1, r2, r3) := h
 clear h
 have H' := Aside0.mk H
 clear H
 go_enter Try.func17, Try.ntmps17
 go_wp2_with (first | ((with_reducible refine gate_dst (N := 1) rfl ?_); refine box_event ?hg (N := 1) ?hd (cs := #[.string a0_0, .slice A0_1 l0_1.length c0_1, .slice A0_2 l0_2.length c0_2]) (t := 24) ?hr ?_; (case hd => rfl); (case hg => rfl); (case hr => first | (go_simp; done) | (go_simp; rfl)); intro gb133 hg w2 hbox hb; have n0_ := Aside0.mk (below_step (by repeat (first | (with_reducible first | exact HB.out | apply below_alloc | apply pw_below_drewN | apply below_drew1) | exact HB.out)) hb); have n1_ := Aside0.mk (hbox); have n2_ := Aside0.mk ((by rw [hg]; exact (below_size (by repeat (first | (with_reducible first | exact HB.out | apply below_alloc | apply pw_below_drewN | apply below_drew1) | exact HB.out))) : w.heap.size ≤ gb133)); have n3_ := Aside0.mk ((by rw [hg]; exact (below_size (by repeat (first | (with_reducible first | exact HB.out | apply below_alloc | apply pw_below_drewN | apply below_drew1) | exact HB.out))) : w.heap.size ≤ gb133)); clear HB; have HB := n0_; have BK133 := n1_; have GW133 := n2_; have GE133 := n3_; clear n0_ n1_ n2_ n3_; clear hb hbox hg; have hcz3_0 : w2.cell? ⟨gb133, 0, none⟩ = some (.string a0_0) := (blk_cell BK133.out 0).trans rfl; have hcz3_1 : w2.cell? ⟨gb133, 1, none⟩ = some (.slice A0_1 l0_1.length c0_1) := (blk_cell BK133.out 1).trans rfl; have hcz3_2 : w2.cell? ⟨gb133, 2, none⟩ = some (.slice A0_2 l0_2.length c0_2) := (blk_cell BK133.out 2).trans rfl; have hfz3_0 := blk_frozen BK133.out 0; have hfz3_1 := blk_frozen BK133.out 1; have hfz3_2 := blk_frozen BK133.out 2))
 repeat (go_quiet (first | ((with_reducible refine gate_dst (N := 1) rfl ?_); refine box_event ?hg (N := 1) ?hd (cs := #[.string a0_0, .slice A0_1 l0_1.length c0_1, .slice A0_2 l0_2.length c0_2]) (t := 24) ?hr ?_; (case hd => rfl); (case hg => rfl); (case hr => first | (go_simp; done) | (go_simp; rfl)); intro gb133 hg w2 hbox hb; have n0_ := Aside0.mk (below_step (by repeat (first | (with_reducible first | exact HB.out | apply below_alloc | apply pw_below_drewN | apply below_drew1) | exact HB.out)) hb); have n1_ := Aside0.mk (hbox); have n2_ := Aside0.mk ((by rw [hg]; exact (below_size (by repeat (first | (with_reducible first | exact HB.out | apply below_alloc | apply pw_below_drewN | apply below_drew1) | exact HB.out))) : w.heap.size ≤ gb133)); have n3_ := Aside0.mk ((by rw [hg]; exact (below_size (by repeat (first | (with_reducible first | exact HB.out | apply below_alloc | apply pw_below_drewN | apply below_drew1) | exact HB.out))) : w.heap.size ≤ gb133)); clear HB; have HB := n0_; have BK133 := n1_; have GW133 := n2_; have GE133 := n3_; clear n0_ n1_ n2_ n3_; clear hb hbox hg; have hcz3_0 : w2.cell? ⟨gb133, 0, none⟩ = some (.string a0_0) := (blk_cell BK133.out 0).trans rfl; have hcz3_1 : w2.cell? ⟨gb133, 1, none⟩ = some (.slice A0_1 l0_1.length c0_1) := (blk_cell BK133.out 1).trans rfl; have hcz3_2 : w2.cell? ⟨gb133, 2, none⟩ = some (.slice A0_2 l0_2.length c0_2) := (blk_cell BK133.out 2).trans rfl; have hfz3_0 := blk_frozen BK133.out 0; have hfz3_1 := blk_frozen BK133.out 1; have hfz3_2 := blk_frozen BK133.out 2)); try go_wp2_with (first | ((with_reducible refine gate_dst (N := 1) rfl ?_); refine box_event ?hg (N := 1) ?hd (cs := #[.string a0_0, .slice A0_1 l0_1.length c0_1, .slice A0_2 l0_2.length c0_2]) (t := 24) ?hr ?_; (case hd => rfl); (case hg => rfl); (case hr => first | (go_simp; done) | (go_simp; rfl)); intro gb133 hg w2 hbox hb; have n0_ := Aside0.mk (below_step (by repeat (first | (with_reducible first | exact HB.out | apply below_alloc | apply pw_below_drewN | apply below_drew1) | exact HB.out)) hb); have n1_ := Aside0.mk (hbox); have n2_ := Aside0.mk ((by rw [hg]; exact (below_size (by repeat (first | (with_reducible first | exact HB.out | apply below_alloc | apply pw_below_drewN | apply below_drew1) | exact HB.out))) : w.heap.size ≤ gb133)); have n3_ := Aside0.mk ((by rw [hg]; exact (below_size (by repeat (first | (with_reducible first | exact HB.out | apply below_alloc | apply pw_below_drewN | apply below_drew1) | exact HB.out))) : w.heap.size ≤ gb133)); clear HB; have HB := n0_; have BK133 := n1_; have GW133 := n2_; have GE133 := n3_; clear n0_ n1_ n2_ n3_; clear hb hbox hg; have hcz3_0 : w2.cell? ⟨gb133, 0, none⟩ = some (.string a0_0) := (blk_cell BK133.out 0).trans rfl; have hcz3_1 : w2.cell? ⟨gb133, 1, none⟩ = some (.slice A0_1 l0_1.length c0_1) := (blk_cell BK133.out 1).trans rfl; have hcz3_2 : w2.cell? ⟨gb133, 2, none⟩ = some (.slice A0_2 l0_2.length c0_2) := (blk_cell BK133.out 2).trans rfl; have hfz3_0 := blk_frozen BK133.out 0; have hfz3_1 := blk_frozen BK133.out 1; have hfz3_2 := blk_frozen BK133.out 2)))
 go_loopg [5, 6, 13] k (fun kq v5 v6 v13 w' => ∃ (x5_1 : Int) (x6_1 : Int) (x13_1 : Int), v5 = .int .i64 x5_1 ∧ v6 = .int .i64 x6_1 ∧ v13 = .int .i64 x13_1 ∧ Aside0 (find_Index_Repeat.l0 kq x5_1 x6_1 l0_2 (l0_2.length : Int) x13_1 a0_0 l0_1 l0_2 = some (r1, r2, r3)) ∧ Aside0 (kq ≤ k) ∧ Aside0 (w'.heap[gb133]? = some (.cells #[.string a0_0, (.slice A0_1 l0_1.length c0_1), (.slice A0_2 l0_2.length c0_2)] 24 (0, 0))) ∧ Aside0 (Below w.heap.size w w'))
 case atStart => exact ⟨(0), (0), (0), (by first | rfl | (simp; done) | (simp [*]; done)), (by first | rfl | (simp; done) | (simp [*]; done)), (by first | rfl | (simp; done) | (simp [*]; done)), H', ⟨Nat.le_refl _⟩, ⟨by (with_reducible repeat (first | refine blk_drewN ?_ _ | refine blk_drew ?_ | refine blk_alloc ?_ _)); exact BK133.out⟩, ⟨by repeat (first | (with_reducible first | exact HB.out | apply below_alloc | apply pw_below_drewN | apply below_drew1 | refine below_set ?_ GE133.out) | exact HB.out)⟩⟩
 case round =>
  clear H'
  try clear c1
  try clear p2
  try clear hcz3_0
  try clear hcz3_1
  try clear hcz3_2
  try clear hfz3_0
  try clear hfz3_1
  try clear hfz3_2
  obtain ⟨x5_1, x6_1, x13_1, rfl, rfl, rfl, HA, HK1, BK133, HB⟩ := hrel
  cases gk with
  | zero => exact absurd HA.out (by simp [find_Index_Repeat.l0])
  | succ k1 =>
   have H := HA.out
   clear HA
   simp only [find_Index_Repeat.l0] at H
   by_cases c4 : x13_1 < (l0_2.length : Int)
   ·rw [if_pos c4] at H
    have c4b0 : decide (x13_1 < (l0_2.length : Int)) = true := decide_eq_true c4
    clear c4
    by_cases c5 : 0 ≤ x13_1
    ·rw [if_pos c5] at H
     have c5b0 : decide (0 ≤ x13_1) = true := decide_eq_true c5
     clear c5
     by_cases c6 : x13_1 < (l0_2.length : Int)
     ·rw [if_pos c6] at H
      have c6b0 : decide (x13_1 < (l0_2.length : Int)) = true := decide_eq_true c6
      clear c6
      by_cases c7 : (rd l0_2 x13_1) > x5_1
      ·rw [if_pos c7] at H
       have c7b0 : decide (x5_1 < (rd l0_2 x13_1)) = true := decide_eq_true c7
       clear c7
       by_cases c8 : x13_1 < (l0_1.length : Int)
       ·rw [if_pos c8] at H
        have c8b0 : decide (x13_1 < (l0_1.length : Int)) = true := decide_eq_true c8
        clear c8
        have H' := Aside0.mk H
        clear H
        have p134 : 0 ≤ (x13_1 : Int) := of_decide_eq_true (by first | (with_reducible assumption) | assumption)
        have q134 : x13_1 < (l0_2.length : Int) := of_decide_eq_true (by first | (with_reducible assumption) | assumption)
        obtain ⟨ad134, e134, hx134_0⟩ := Kd.at_int HR0_2.out x13_1 p134 q134
        cases e134
        replace hx134_0 := (HB.out.cell (World.block_lt_of_cell? w _ hx134_0)).trans hx134_0
        replace p134 := eq_true p134
        replace q134 := eq_true q134
        have hcz9_0 : wr.cell? ⟨gb133, 0, none⟩ = some (.string a0_0) := (blk_cell BK133.out 0).trans rfl
        have hcz9_1 : wr.cell? ⟨gb133, 1, none⟩ = some (.slice A0_1 l0_1.length c0_1) := (blk_cell BK133.out 1).trans rfl
        have hcz9_2 : wr.cell? ⟨gb133, 2, none⟩ = some (.slice (some ad134) l0_2.length c0_2) := (blk_cell BK133.out 2).trans rfl
        have hfz9_0 := blk_frozen BK133.out 0
        have hfz9_1 := blk_frozen BK133.out 1
        have hfz9_2 := blk_frozen BK133.out 2
        have p135 : 0 ≤ (x13_1 : Int) := of_decide_eq_true (by first | (with_reducible assumption) | assumption)
        have q135 : x13_1 < (l0_1.length : Int) := of_decide_eq_true (by first | (with_reducible assumption) | assumption)
        obtain ⟨ad135, e135, hx135_0⟩ := Kd.at_int HR0_1.out x13_1 p135 q135
        cases e135
        replace hx135_0 := (HB.out.cell (World.block_lt_of_cell? w _ hx135_0)).trans hx135_0
        replace p135 := eq_true p135
        replace q135 := eq_true q135
        go_wp2
        repeat (go_quiet (fail); try go_wp2)
        go_roundg k1
        case measure => have := HK1.out; omega
        case rel => exact ⟨(rd l0_2 x13_1), (rd l0_1 x13_1), (wrap64 (x13_1 + 1)), (by first | rfl | (simp; done) | (simp [*]; done)), (by first | rfl | (simp; done) | (simp [*]; done)), (by first | rfl | (simp; done) | (simp [*]; done)), H', ⟨by have := HK1.out; omega⟩, ⟨by (with_reducible repeat (first | refine blk_drewN ?_ _ | refine blk_drew ?_ | refine blk_alloc ?_ _)); exact BK133.out⟩, ⟨by repeat (first | (with_reducible first | exact HB.out | apply below_alloc | apply pw_below_drewN | apply below_drew1 | refine below_set ?_ GE133.out) | exact HB.out)⟩⟩
       ·rw [if_neg c8] at H
        exact absurd H (by simp)
      ·rw [if_neg c7] at H
       have c7b0 : decide (x5_1 < (rd l0_2 x13_1)) = false := decide_eq_false c7
       clear c7
       have H' := Aside0.mk H
       clear H
       have p134 : 0 ≤ (x13_1 : Int) := of_decide_eq_true (by first | (with_reducible assumption) | assumption)
       have q134 : x13_1 < (l0_2.length : Int) := of_decide_eq_true (by first | (with_reducible assumption) | assumption)
       obtain ⟨ad134, e134, hx134_0⟩ := Kd.at_int HR0_2.out x13_1 p134 q134
       cases e134
       replace hx134_0 := (HB.out.cell (World.block_lt_of_cell? w _ hx134_0)).trans hx134_0
       replace p134 := eq_true p134
       replace q134 := eq_true q134
       go_wp2
       repeat (go_quiet (fail); try go_wp2)
       go_roundg k1
       case measure => have := HK1.out; omega
       case rel => exact ⟨(x5_1), (x6_1), (wrap64 (x13_1 + 1)), (by first | rfl | (simp; done) | (simp [*]; done)), (by first | rfl | (simp; done) | (simp [*]; done)), (by first | rfl | (simp; done) | (simp [*]; done)), H', ⟨by have := HK1.out; omega⟩, ⟨by (with_reducible repeat (first | refine blk_drewN ?_ _ | refine blk_drew ?_ | refine blk_alloc ?_ _)); exact BK133.out⟩, ⟨by repeat (first | (with_reducible first | exact HB.out | apply below_alloc | apply pw_below_drewN | apply below_drew1 | refine below_set ?_ GE133.out) | exact HB.out)⟩⟩
     ·rw [if_neg c6] at H
      exact absurd H (by simp)
    ·rw [if_neg c5] at H
     exact absurd H (by simp)
   ·rw [if_neg c4] at H
    have c4b0 : decide (x13_1 < (l0_2.length : Int)) = false := decide_eq_false c4
    clear c4
    by_cases c10 : x5_1 = 0
    ·rw [if_pos c10] at H
     have c10b0 : (x5_1 == 0) = true := beq_iff_eq.mpr c10
     have c10b1 : (x5_1 != 0) = false := bne_eq_false_iff_eq.mpr c10
     clear c10
     simp only [Option.some.injEq, Prod.mk.injEq] at H
     obtain ⟨rfl, rfl, rfl⟩ := H
     go_wp2
     repeat (go_quiet (fail); try go_wp2)
     go_ret3
     exact ⟨by first | rfl | (simp [errW_none, errW_some] <;> rfl) | (simp [*, errW_none, errW_some] <;> rfl), by repeat (first | (with_reducible first | exact HB.out | apply below_alloc | apply pw_below_drewN | apply below_drew1 | refine below_set ?_ GE133.out) | exact HB.out)⟩
    ·rw [if_neg c10] at H
     have c10b0 : (x5_1 == 0) = false := beq_eq_false_iff_ne.mpr c10
     have c10b1 : (x5_1 != 0) = true := bne_iff_ne.mpr c10
     by_cases c11 : 0 ≤ x6_1
     ·rw [if_pos c11] at H
      have c11b0 := eq_true c11
      have c11b1 : decide (0 ≤ x6_1) = true := decide_eq_true c11
      clear c11
      by_cases c12 : x6_1 ≤ (wrap64 (x6_1 + x5_1))
      ·rw [if_pos c12] at H
       have c12b0 := eq_true c12
       have c12b1 : decide (x6_1 ≤ (wrap64 (x6_1 + x5_1))) = true := decide_eq_true c12
       by_cases c13 : (wrap64 (x6_1 + x5_1)) ≤ (a0_0.size : Int)
       ·rw [if_pos c13] at H
        have c13b0 := eq_true c13
        have c13b1 : decide ((wrap64 (x6_1 + x5_1)) ≤ (a0_0.size : Int)) = true := decide_eq_true c13
        replace H := Option.bind_eq_some_iff.mp H
        obtain ⟨t136, A140, H⟩ := H
        replace H : ((find_Index_Count.f a0_0 l0_1 l0_2 t136).bind fun t137 => (some (t136, t137, 0))) = some (r1, r2, r3) := H
        have A14 := Aside0.mk A140
        clear A140
        replace H := Option.bind_eq_some_iff.mp H
        obtain ⟨t137, A150, H⟩ := H
        replace H : (some (t136, t137, 0)) = some (r1, r2, r3) := H
        have A15 := Aside0.mk A150
        clear A150
        simp only [Option.some.injEq, Prod.mk.injEq] at H
        obtain ⟨rfl, rfl, rfl⟩ := H
        have hcz16_0 : wr.cell? ⟨gb133, 0, none⟩ = some (.string a0_0) := (blk_cell BK133.out 0).trans rfl
        have hcz16_1 : wr.cell? ⟨gb133, 1, none⟩ = some (.slice A0_1 l0_1.length c0_1) := (blk_cell BK133.out 1).trans rfl
        have hcz16_2 : wr.cell? ⟨gb133, 2, none⟩ = some (.slice A0_2 l0_2.length c0_2) := (blk_cell BK133.out 2).trans rfl
        have hfz16_0 := blk_frozen BK133.out 0
        have hfz16_1 := blk_frozen BK133.out 1
        have hfz16_2 := blk_frozen BK133.out 2
        go_wp2_with (first | (go_at_call 42; (with_reducible refine (strings_Clone.calls (a0_0.extract (x6_1 : Int).toNat ((wrap64 (x6_1 + x5_1)) : Int).toNat) t136 _ A14.out).mono ?_); rintro e w17 ⟨rfl, hb⟩; have n0_ := Aside0.mk (blk_below (g := gb133) (o := .cells #[.string a0_0, .slice A0_1 l0_1.length c0_1, .slice A0_2 l0_2.length c0_2] 24 (0, 0)) (by (with_reducible repeat (first | refine blk_drewN ?_ _ | refine blk_drew ?_ | refine blk_alloc ?_ _)); exact BK133.out) hb); have n1_ := Aside0.mk (below_step (by repeat (first | (with_reducible first | exact HB.out | apply below_alloc | apply pw_below_drewN | apply below_drew1 | refine below_set ?_ GE133.out) | exact HB.out)) hb); clear BK133; clear HB; have BK133 := n0_; have HB := n1_; clear n0_ n1_; (try clear hb); (try clear hb2); (try clear hk); (try clear hi); have hcz18_0 : w17.cell? ⟨gb133, 0, none⟩ = some (.string a0_0) := (blk_cell BK133.out 0).trans rfl; have hcz18_1 : w17.cell? ⟨gb133, 1, none⟩ = some (.slice A0_1 l0_1.length c0_1) := (blk_cell BK133.out 1).trans rfl; have hcz18_2 : w17.cell? ⟨gb133, 2, none⟩ = some (.slice A0_2 l0_2.length c0_2) := (blk_cell BK133.out 2).trans rfl; have hfz18_0 := blk_frozen BK133.out 0; have hfz18_1 := blk_frozen BK133.out 1; have hfz18_2 := blk_frozen BK133.out 2) | (go_at_call 29; (with_reducible refine (find_Index_Count.calls a0_0 _ _ l0_1 _ _ l0_2 t136 t137 _ ?side1 ?side2 ?side3 ?side4 A15.out).mono ?_); (case side1 => repeat (first | exact (Kd.C_below HR0_1.out HB.out) | (with_reducible refine Kd.C_alloc ?_ _) | (with_reducible refine Kd.C_drewN ?_ _) | (with_reducible refine Kd.C_drew ?_))); (case side2 => exact HC0_1.out); (case side3 => repeat (first | exact (Kd.C_below HR0_2.out HB.out) | (with_reducible refine Kd.C_alloc ?_ _) | (with_reducible refine Kd.C_drewN ?_ _) | (with_reducible refine Kd.C_drew ?_))); (case side4 => exact HC0_2.out); rintro e w19 ⟨rfl, hb⟩; have n0_ := Aside0.mk (blk_below (g := gb133) (o := .cells #[.string a0_0, .slice A0_1 l0_1.length c0_1, .slice A0_2 l0_2.length c0_2] 24 (0, 0)) (by (with_reducible repeat (first | refine blk_drewN ?_ _ | refine blk_drew ?_ | refine blk_alloc ?_ _)); exact BK133.out) hb); have n1_ := Aside0.mk (below_step (by repeat (first | (with_reducible first | exact HB.out | apply below_alloc | apply pw_below_drewN | apply below_drew1 | refine below_set ?_ GE133.out) | exact HB.out)) hb); clear BK133; clear HB; have BK133 := n0_; have HB := n1_; clear n0_ n1_; (try clear hb); (try clear hb2); (try clear hk); (try clear hi)))
        repeat (go_quiet (first | (go_at_call 42; (with_reducible refine (strings_Clone.calls (a0_0.extract (x6_1 : Int).toNat ((wrap64 (x6_1 + x5_1)) : Int).toNat) t136 _ A14.out).mono ?_); rintro e w17 ⟨rfl, hb⟩; have n0_ := Aside0.mk (blk_below (g := gb133) (o := .cells #[.string a0_0, .slice A0_1 l0_1.length c0_1, .slice A0_2 l0_2.length c0_2] 24 (0, 0)) (by (with_reducible repeat (first | refine blk_drewN ?_ _ | refine blk_drew ?_ | refine blk_alloc ?_ _)); exact BK133.out) hb); have n1_ := Aside0.mk (below_step (by repeat (first | (with_reducible first | exact HB.out | apply below_alloc | apply pw_below_drewN | apply below_drew1 | refine below_set ?_ GE133.out) | exact HB.out)) hb); clear BK133; clear HB; have BK133 := n0_; have HB := n1_; clear n0_ n1_; (try clear hb); (try clear hb2); (try clear hk); (try clear hi); have hcz18_0 : w17.cell? ⟨gb133, 0, none⟩ = some (.string a0_0) := (blk_cell BK133.out 0).trans rfl; have hcz18_1 : w17.cell? ⟨gb133, 1, none⟩ = some (.slice A0_1 l0_1.length c0_1) := (blk_cell BK133.out 1).trans rfl; have hcz18_2 : w17.cell? ⟨gb133, 2, none⟩ = some (.slice A0_2 l0_2.length c0_2) := (blk_cell BK133.out 2).trans rfl; have hfz18_0 := blk_frozen BK133.out 0; have hfz18_1 := blk_frozen BK133.out 1; have hfz18_2 := blk_frozen BK133.out 2) | (go_at_call 29; (with_reducible refine (find_Index_Count.calls a0_0 _ _ l0_1 _ _ l0_2 t136 t137 _ ?side1 ?side2 ?side3 ?side4 A15.out).mono ?_); (case side1 => repeat (first | exact (Kd.C_below HR0_1.out HB.out) | (with_reducible refine Kd.C_alloc ?_ _) | (with_reducible refine Kd.C_drewN ?_ _) | (with_reducible refine Kd.C_drew ?_))); (case side2 => exact HC0_1.out); (case side3 => repeat (first | exact (Kd.C_below HR0_2.out HB.out) | (with_reducible refine Kd.C_alloc ?_ _) | (with_reducible refine Kd.C_drewN ?_ _) | (with_reducible refine Kd.C_drew ?_))); (case side4 => exact HC0_2.out); rintro e w19 ⟨rfl, hb⟩; have n0_ := Aside0.mk (blk_below (g := gb133) (o := .cells #[.string a0_0, .slice A0_1 l0_1.length c0_1, .slice A0_2 l0_2.length c0_2] 24 (0, 0)) (by (with_reducible repeat (first | refine blk_drewN ?_ _ | refine blk_drew ?_ | refine blk_alloc ?_ _)); exact BK133.out) hb); have n1_ := Aside0.mk (below_step (by repeat (first | (with_reducible first | exact HB.out | apply below_alloc | apply pw_below_drewN | apply below_drew1 | refine below_set ?_ GE133.out) | exact HB.out)) hb); clear BK133; clear HB; have BK133 := n0_; have HB := n1_; clear n0_ n1_; (try clear hb); (try clear hb2); (try clear hk); (try clear hi))); try go_wp2_with (first | (go_at_call 42; (with_reducible refine (strings_Clone.calls (a0_0.extract (x6_1 : Int).toNat ((wrap64 (x6_1 + x5_1)) : Int).toNat) t136 _ A14.out).mono ?_); rintro e w17 ⟨rfl, hb⟩; have n0_ := Aside0.mk (blk_below (g := gb133) (o := .cells #[.string a0_0, .slice A0_1 l0_1.length c0_1, .slice A0_2 l0_2.length c0_2] 24 (0, 0)) (by (with_reducible repeat (first | refine blk_drewN ?_ _ | refine blk_drew ?_ | refine blk_alloc ?_ _)); exact BK133.out) hb); have n1_ := Aside0.mk (below_step (by repeat (first | (with_reducible first | exact HB.out | apply below_alloc | apply pw_below_drewN | apply below_drew1 | refine below_set ?_ GE133.out) | exact HB.out)) hb); clear BK133; clear HB; have BK133 := n0_; have HB := n1_; clear n0_ n1_; (try clear hb); (try clear hb2); (try clear hk); (try clear hi); have hcz18_0 : w17.cell? ⟨gb133, 0, none⟩ = some (.string a0_0) := (blk_cell BK133.out 0).trans rfl; have hcz18_1 : w17.cell? ⟨gb133, 1, none⟩ = some (.slice A0_1 l0_1.length c0_1) := (blk_cell BK133.out 1).trans rfl; have hcz18_2 : w17.cell? ⟨gb133, 2, none⟩ = some (.slice A0_2 l0_2.length c0_2) := (blk_cell BK133.out 2).trans rfl; have hfz18_0 := blk_frozen BK133.out 0; have hfz18_1 := blk_frozen BK133.out 1; have hfz18_2 := blk_frozen BK133.out 2) | (go_at_call 29; (with_reducible refine (find_Index_Count.calls a0_0 _ _ l0_1 _ _ l0_2 t136 t137 _ ?side1 ?side2 ?side3 ?side4 A15.out).mono ?_); (case side1 => repeat (first | exact (Kd.C_below HR0_1.out HB.out) | (with_reducible refine Kd.C_alloc ?_ _) | (with_reducible refine Kd.C_drewN ?_ _) | (with_reducible refine Kd.C_drew ?_))); (case side2 => exact HC0_1.out); (case side3 => repeat (first | exact (Kd.C_below HR0_2.out HB.out) | (with_reducible refine Kd.C_alloc ?_ _) | (with_reducible refine Kd.C_drewN ?_ _) | (with_reducible refine Kd.C_drew ?_))); (case side4 => exact HC0_2.out); rintro e w19 ⟨rfl, hb⟩; have n0_ := Aside0.mk (blk_below (g := gb133) (o := .cells #[.string a0_0, .slice A0_1 l0_1.length c0_1, .slice A0_2 l0_2.length c0_2] 24 (0, 0)) (by (with_reducible repeat (first | refine blk_drewN ?_ _ | refine blk_drew ?_ | refine blk_alloc ?_ _)); exact BK133.out) hb); have n1_ := Aside0.mk (below_step (by repeat (first | (with_reducible first | exact HB.out | apply below_alloc | apply pw_below_drewN | apply below_drew1 | refine below_set ?_ GE133.out) | exact HB.out)) hb); clear BK133; clear HB; have BK133 := n0_; have HB := n1_; clear n0_ n1_; (try clear hb); (try clear hb2); (try clear hk); (try clear hi))))
        go_ret3
        exact ⟨by first | rfl | (simp [errW_none, errW_some] <;> rfl) | (simp [*, errW_none, errW_some] <;> rfl), by repeat (first | (with_reducible first | exact HB.out | apply below_alloc | apply pw_below_drewN | apply below_drew1 | refine below_set ?_ GE133.out) | exact HB.out)⟩
       ·rw [if_neg c13] at H
        exact absurd H (by simp)
      ·rw [if_neg c12] at H
       exact absurd H (by simp)
     ·rw [if_neg c11] at H
      exact absurd H (by simp)

end Go.Proofs.Ytppelnlocfcgfaa.P
namespace Go.Proofs.Ytppelnlocfcgfaa.P
open Go.RowKit Go.Proofs.YtppelnlocfcgfaaW.PrintWords Go.Proofs.YtppelnlocfcgfaaW.PrintLast Go.Proofs.YtppelnlocfcgfaaW.PrintMore
open Go.Proofs.Fnd
set_option linter.unusedVariables false
set_option linter.unusedSimpArgs false
theorem find_New_ev (t : ByteArray) (ht : t.size ≤ 4096) : Ev (fun k => find_New.f k t) (t, ordI t, overI t, 0) := by
  obtain ⟨k, hk⟩ := find_New_is t ht
  exact Ev.of (find_New.mono t) hk
theorem overI_length (t : ByteArray) : (overI t).length = t.size := by
  rw [overI, List.length_map, overL, List.length_map, List.length_range]; exact data_length t
theorem rd_overI (t : ByteArray) (k : Nat) (h : k < t.size) : rd (overI t) (k : Int) = (((overL t.data.toList).getD k 0 : Nat) : Int) := by
  have h1 : k < (overL t.data.toList).length := by rw [overL, List.length_map, List.length_range, data_length t]; exact h
  simp only [rd, overI, Int.toNat_natCast, List.getD_eq_getElem?_getD, List.getElem?_map, List.getElem?_eq_getElem h1]
  rfl
theorem below_le (s p : List UInt8) : below s p ≤ s.length := by
  unfold below
  have := List.countP_le_length (p := fun i => decide (beginning s p.length i < p)) (l := List.range s.length)
  rwa [List.length_range] at this
theorem upto_le (s p : List UInt8) : upto s p ≤ s.length := by
  unfold upto
  have := List.countP_le_length (p := fun i => !decide (p < beginning s p.length i)) (l := List.range s.length)
  rwa [List.length_range] at this
/-- how often a pattern occurs -/
theorem count_is (t p : ByteArray) (ht : t.size ≤ 4096) (hp : p.size ≤ 140737488351232) : find_Index_Count.f t (ordI t) (overI t) p = some ((upto t.data.toList p.data.toList : Int) - (below t.data.toList p.data.toList : Int)) := by
  unfold find_Index_Count.f find_Index_span.f
  rw [if_pos ⟨ht, hp, rfl⟩]
  simp only [Option.bind_some]
  have h1 := below_le t.data.toList p.data.toList
  have h2 := upto_le t.data.toList p.data.toList
  rw [data_length t] at h1 h2
  rw [w64 (by omega) (by omega)]
/-- the greatest overlap so far, and where -/
def bestOf (o v : List Nat) : Nat → Nat × Nat
  | 0 => (0, 0)
  | k + 1 => if (bestOf o v k).1 < v.getD k 0 then (v.getD k 0, o.getD k 0) else bestOf o v k
/-- what Repeat answers -/
def repeatA (t : ByteArray) : ByteArray × Int × Int :=
  let b := bestOf (sufOrd t.data.toList) (overL t.data.toList) t.size
  if b.1 = 0 then ((⟨#[]⟩ : ByteArray), 0, 6) else (t.extract b.2 (b.2 + b.1), (upto t.data.toList (t.extract b.2 (b.2 + b.1)).data.toList : Int) - (below t.data.toList (t.extract b.2 (b.2 + b.1)).data.toList : Int), 0)
theorem overL_at (s : List UInt8) (k : Nat) (h : k < s.length) : (overL s).getD k 0 = if k = 0 then 0 else lcp s ((sufOrd s).getD (k - 1) 0) ((sufOrd s).getD k 0) := by
  rw [List.getD_eq_getElem?_getD, overL, List.getElem?_map, List.getElem?_range h]; rfl
theorem over_is (s : List UInt8) (k : Nat) (h : k < s.length) (h0 : k ≠ 0) : IsLcp s ((sufOrd s).getD (k - 1) 0) ((sufOrd s).getD k 0) ((overL s).getD k 0) := by
  rw [overL_at s k h, if_neg h0]
  have h3 := ord_lt s k h
  have h4 := ord_lt s (k - 1) (by omega)
  exact lcp_is s _ _ (by omega) (by omega) (fun e => by have := ord_inj s (by omega) h e; omega)
theorem over_in (s : List UInt8) (k : Nat) (h : k < s.length) : (sufOrd s).getD k 0 + (overL s).getD k 0 ≤ s.length := by
  have h3 := ord_lt s k h
  by_cases h0 : k = 0
  · rw [overL_at s k h, if_pos h0]; omega
  · have h4 := ord_lt s (k - 1) (by omega)
    exact ((over_is s k h h0).inside (by omega) (by omega) (fun e => by have := ord_inj s (by omega) h e; omega)).2
theorem best_in (t : ByteArray) (k : Nat) (hk : k ≤ t.size) : (bestOf (sufOrd t.data.toList) (overL t.data.toList) k).2 + (bestOf (sufOrd t.data.toList) (overL t.data.toList) k).1 ≤ t.size := by
  induction k with
  | zero => simp [bestOf]
  | succ k ih =>
    unfold bestOf
    split
    · have hl := data_length t
      have := over_in t.data.toList k (by omega)
      omega
    · exact ih (by omega)
theorem repeat_l0 (t : ByteArray) (ht : t.size ≤ 4096) : ∀ (d k : Nat), k + d = t.size → Ev (fun K => find_Index_Repeat.l0 K ((bestOf (sufOrd t.data.toList) (overL t.data.toList) k).1 : Int) ((bestOf (sufOrd t.data.toList) (overL t.data.toList) k).2 : Int) (overI t) (t.size : Int) (k : Int) t (ordI t) (overI t)) (repeatA t) := by
  have hl := data_length t
  intro d
  induction d with
  | zero =>
    intro k hk
    obtain rfl : k = t.size := by omega
    refine Ev.step (f := fun _ => some (repeatA t)) (fun K => ?_) (Ev.now _)
    have hb := best_in t t.size (Nat.le_refl _)
    unfold find_Index_Repeat.l0 repeatA
    generalize bestOf (sufOrd t.data.toList) (overL t.data.toList) t.size = b at *
    rw [if_neg (by omega)]
    by_cases h0 : b.1 = 0
    · rw [if_pos (by omega)]; simp [h0]
    · rw [if_neg (by omega), if_pos (by omega), w64 (by omega) (by omega), if_pos (by omega), if_pos (by omega)]
      rw [show ((b.2 : Int)).toNat = b.2 by omega, show ((b.2 : Int) + (b.1 : Int)).toNat = b.2 + b.1 by omega]
      have hps : (t.extract b.2 (b.2 + b.1)).size ≤ 4096 := by simp only [ByteArray.size_extract]; omega
      unfold strings_Clone.f
      rw [if_pos (by omega)]
      simp only [Option.bind_some]
      rw [count_is t _ ht (by omega)]
      simp [h0]
  | succ d ih =>
    intro k hk
    have h := ih (k + 1) (by omega)
    refine Ev.step (fun K => ?_) h
    have h1 := rd_overI t k (by omega)
    have h2 := rd_ordI t k (by omega)
    have h3 := overI_length t
    have h4 := ordI_length t
    conv => lhs; unfold find_Index_Repeat.l0
    rw [if_pos (by omega), if_pos (by omega), if_pos (by omega), w64 (by omega) (by omega), h1, h2]
    by_cases hb : (bestOf (sufOrd t.data.toList) (overL t.data.toList) k).1 < (overL t.data.toList).getD k 0
    · rw [if_pos (by omega), if_pos (by omega)]
      have e : bestOf (sufOrd t.data.toList) (overL t.data.toList) (k + 1) = ((overL t.data.toList).getD k 0, (sufOrd t.data.toList).getD k 0) := by rw [bestOf, if_pos hb]
      rw [e]; rfl
    · rw [if_neg (by omega)]
      have e : bestOf (sufOrd t.data.toList) (overL t.data.toList) (k + 1) = bestOf (sufOrd t.data.toList) (overL t.data.toList) k := by rw [bestOf, if_neg hb]
      rw [e]; rfl
theorem repeat_ev (t : ByteArray) (ht : t.size ≤ 4096) : Ev (fun K => find_Index_Repeat.f K t (ordI t) (overI t)) (repeatA t) := by
  have := repeat_l0 t ht t.size 0 (by omega)
  refine Ev.congr (fun K => ?_) this
  unfold find_Index_Repeat.f
  rw [overI_length]; rfl
/-- the first overlaps' sum -/
def sumTo (v : List Nat) : Nat → Nat
  | 0 => 0
  | k + 1 => sumTo v k + v.getD k 0
theorem sumTo_le (t : ByteArray) (k : Nat) (hk : k ≤ t.size) : sumTo (overL t.data.toList) k ≤ k * t.size := by
  induction k with
  | zero => simp [sumTo]
  | succ k ih =>
    have hl := data_length t
    have := over_in t.data.toList k (by omega)
    have := ih (by omega)
    unfold sumTo
    rw [Nat.succ_mul]; omega
/-- what Distinct answers -/
def distinctA (t : ByteArray) : Int := ((t.size * (t.size + 1) / 2 : Nat) : Int) - (sumTo (overL t.data.toList) t.size : Int)
theorem distinct_l0 (t : ByteArray) (ht : t.size ≤ 4096) : ∀ (d k : Nat), k + d = t.size → Ev (fun K => find_Index_Distinct.l0 K (((t.size * (t.size + 1) / 2 : Nat) : Int) - (sumTo (overL t.data.toList) k : Int)) (overI t) (t.size : Int) (k : Int)) (distinctA t) := by
  have hl := data_length t
  have hsq : t.size * (t.size + 1) / 2 ≤ 16777216 := by
    have : t.size * (t.size + 1) ≤ 4096 * 4097 := Nat.mul_le_mul ht (by omega)
    omega
  intro d
  induction d with
  | zero =>
    intro k hk
    obtain rfl : k = t.size := by omega
    refine Ev.step (f := fun _ => some (distinctA t)) (fun K => ?_) (Ev.now _)
    unfold find_Index_Distinct.l0
    rw [if_neg (by omega)]; rfl
  | succ d ih =>
    intro k hk
    have h := ih (k + 1) (by omega)
    refine Ev.step (fun K => ?_) h
    have h1 := rd_overI t k (by omega)
    have h3 := overI_length t
    have h5 := sumTo_le t k (by omega)
    have h6 : k * t.size ≤ 4096 * 4096 := Nat.mul_le_mul (by omega) ht
    have h7 := over_in t.data.toList k (by omega)
    conv => lhs; unfold find_Index_Distinct.l0
    rw [if_pos (by omega), if_pos (by omega), if_pos (by omega), h1, w64 (x := (k : Int) + 1) (by omega) (by omega), w64 (by omega) (by omega)]
    have e : ((t.size * (t.size + 1) / 2 : Nat) : Int) - (sumTo (overL t.data.toList) k : Int) - ((overL t.data.toList).getD k 0 : Int) = ((t.size * (t.size + 1) / 2 : Nat) : Int) - (sumTo (overL t.data.toList) (k + 1) : Int) := by rw [sumTo]; push_cast; omega
    rw [e]; rfl
theorem distinct_ev (t : ByteArray) (ht : t.size ≤ 4096) : Ev (fun K => find_Index_Distinct.f K t (ordI t) (overI t)) (distinctA t) := by
  have := distinct_l0 t ht t.size 0 (by omega)
  refine Ev.congr (fun K => ?_) this
  unfold find_Index_Distinct.f
  have hsq : t.size * (t.size + 1) ≤ 4096 * 4097 := Nat.mul_le_mul ht (by omega)
  have hc : (t.size : Int) * ((t.size : Int) + 1) = ((t.size * (t.size + 1) : Nat) : Int) := by push_cast; rfl
  rw [overI_length, w64 (x := (t.size : Int) + 1) (by omega) (by omega), hc, w64 (x := ((t.size * (t.size + 1) : Nat) : Int)) (by omega) (by omega)]
  have ht2 : Int.tdiv ((t.size * (t.size + 1) : Nat) : Int) 2 = ((t.size * (t.size + 1) / 2 : Nat) : Int) := by
    rw [Int.tdiv_eq_ediv_of_nonneg (by omega)]; omega
  rw [ht2, w64 (by omega) (by omega)]
  simp [sumTo]
theorem sufOrd_banana : sufOrd [98, 97, 110, 97, 110, 97] = [5, 3, 1, 0, 4, 2] := (IsOrd.eq ⟨by decide, by decide⟩).symm
theorem overL_banana : overL [98, 97, 110, 97, 110, 97] = [0, 1, 3, 0, 0, 2] := by
  unfold overL
  rw [sufOrd_banana]
  decide
theorem repeat_banana : repeatA (⟨#[98, 97, 110, 97, 110, 97]⟩ : ByteArray) = ((⟨#[97, 110, 97]⟩ : ByteArray), 2, 0) := by
  unfold repeatA
  rw [show (⟨#[98, 97, 110, 97, 110, 97]⟩ : ByteArray).data.toList = [98, 97, 110, 97, 110, 97] from rfl, sufOrd_banana, overL_banana]
  decide
theorem distinct_banana : distinctA (⟨#[98, 97, 110, 97, 110, 97]⟩ : ByteArray) = 15 := by
  unfold distinctA
  rw [show (⟨#[98, 97, 110, 97, 110, 97]⟩ : ByteArray).data.toList = [98, 97, 110, 97, 110, 97] from rfl, overL_banana]
  decide
end Go.Proofs.Ytppelnlocfcgfaa.P
namespace Go.Proofs.Ytppelnlocfcgfaa.P
open Go.RowKit Go.Proofs.YtppelnlocfcgfaaW.PrintWords Go.Proofs.YtppelnlocfcgfaaW.PrintLast Go.Proofs.YtppelnlocfcgfaaW.PrintMore
open Go.Proofs.Fnd
set_option linter.unusedVariables false
set_option linter.unusedSimpArgs false
/-- how long two texts run alike -/
def cpl : List UInt8 → List UInt8 → Nat
  | a :: x, b :: y => if a = b then cpl x y + 1 else 0
  | [], _ => 0
  | _ :: _, [] => 0
theorem cpl_of : ∀ (m : Nat) (x y : List UInt8), (∀ t, t < m → ch x t = ch y t) → ch x m ≠ ch y m → cpl x y = m
  | 0, [], [], _, h => absurd rfl h
  | 0, [], b :: y, _, _ => rfl
  | 0, a :: x, [], _, _ => rfl
  | 0, a :: x, b :: y, _, h => by
    rw [ch_cons_zero, ch_cons_zero] at h
    rw [cpl, if_neg (fun e => h (by rw [e]))]
  | m + 1, [], [], _, h => absurd rfl h
  | m + 1, [], b :: y, h1, _ => by have := h1 0 (by omega); rw [ch_cons_zero, ch_nil] at this; omega
  | m + 1, a :: x, [], h1, _ => by have := h1 0 (by omega); rw [ch_cons_zero, ch_nil] at this; omega
  | m + 1, a :: x, b :: y, h1, h => by
    have h0 := h1 0 (by omega)
    rw [ch_cons_zero, ch_cons_zero] at h0
    have e : a = b := UInt8.toNat_inj.1 (by omega)
    rw [ch_cons_succ, ch_cons_succ] at h
    rw [cpl, if_pos e, cpl_of m x y (fun t ht => by have := h1 (t + 1) (by omega); rwa [ch_cons_succ, ch_cons_succ] at this) h]
theorem cpl_lcp {s : List UInt8} {a b m : Nat} (h : IsLcp s a b m) : cpl (s.drop a) (s.drop b) = m :=
  cpl_of m _ _ (fun t ht => by rw [ch_drop, ch_drop]; exact h.same t ht) (by rw [ch_drop, ch_drop]; exact h.diff)
theorem cpl_le (x y : List UInt8) : cpl x y ≤ x.length ∧ cpl x y ≤ y.length := by
  induction x generalizing y with
  | nil => simp [cpl]
  | cons a x ih =>
    cases y with
    | nil => simp [cpl]
    | cons b y =>
      have := ih y
      unfold cpl
      split <;> simp <;> omega
theorem bt_nth (t : ByteArray) (i : Nat) (h : i < t.size) : bt t i = ((t.data.toList[i]'(by rw [data_length t]; exact h)).toNat : Int) := by
  have hl : t.data.toList.length = t.size := data_length t
  rw [bt_ch t i h, ch_lt _ _ (by omega)]
  simp
theorem common_l0 (x y : ByteArray) (hx : x.size ≤ 1000000) (hy : y.size ≤ 1000000) (i k : Nat) (hi : i ≤ x.size) (hk : k ≤ y.size) :
    ∀ (d n : Nat), i + n + d = x.size → k + n ≤ y.size → Ev (fun K => silversideref07_Common.l0 K x i y k n) ((n + cpl (x.data.toList.drop (i + n)) (y.data.toList.drop (k + n)) : Nat) : Int) := by
  have hlx := data_length x
  have hly := data_length y
  intro d
  induction d with
  | zero =>
    intro n hd hn
    refine Ev.step (f := fun _ => some (((n + cpl (x.data.toList.drop (i + n)) (y.data.toList.drop (k + n)) : Nat) : Int))) (fun K => ?_) (Ev.now _)
    rw [silversideref07_Common.l0, w64 (by omega) (by omega), if_neg (by omega), List.drop_eq_nil_of_le (by omega)]
    simp [cpl]
  | succ d ih =>
    intro n hd hn
    by_cases h1 : k + n < y.size
    · have e1 : x.data.toList.drop (i + n) = x.data.toList[i + n] :: x.data.toList.drop (i + (n + 1)) := (List.drop_eq_getElem_cons (by omega))
      have e2 : y.data.toList.drop (k + n) = y.data.toList[k + n] :: y.data.toList.drop (k + (n + 1)) := (List.drop_eq_getElem_cons (by omega))
      have b1 := bt_nth x (i + n) (by omega)
      have b2 := bt_nth y (k + n) (by omega)
      push_cast at b1 b2
      by_cases hc : x.data.toList[i + n] = y.data.toList[k + n]
      · have h := ih (n + 1) (by omega) (by omega)
        rw [e1, e2, cpl, if_pos hc, show n + (cpl (x.data.toList.drop (i + (n + 1))) (y.data.toList.drop (k + (n + 1))) + 1) = n + 1 + cpl (x.data.toList.drop (i + (n + 1))) (y.data.toList.drop (k + (n + 1))) by omega]
        refine Ev.step (fun K => ?_) h
        conv => lhs; unfold silversideref07_Common.l0
        rw [w64 (x := (i : Int) + n) (by omega) (by omega), w64 (x := (k : Int) + n) (by omega) (by omega), w64 (x := (n : Int) + 1) (by omega) (by omega), if_pos (by omega), if_pos (by omega), if_pos (by omega), if_pos (by omega), b1, b2, hc, if_pos rfl]
        rfl
      · rw [e1, e2, cpl, if_neg hc]
        refine Ev.step (f := fun _ => some (((n + 0 : Nat) : Int))) (fun K => ?_) (Ev.now _)
        conv => lhs; unfold silversideref07_Common.l0
        rw [w64 (x := (i : Int) + n) (by omega) (by omega), w64 (x := (k : Int) + n) (by omega) (by omega), if_pos (by omega), if_pos (by omega), if_pos (by omega), if_pos (by omega), b1, b2, if_neg (fun e => hc (UInt8.toNat_inj.1 (by omega)))]
        simp
    · rw [show y.data.toList.drop (k + n) = [] from List.drop_eq_nil_of_le (by omega)]
      have e0 : cpl (x.data.toList.drop (i + n)) [] = 0 := by cases x.data.toList.drop (i + n) <;> rfl
      rw [e0]
      refine Ev.step (f := fun _ => some (((n + 0 : Nat) : Int))) (fun K => ?_) (Ev.now _)
      conv => lhs; unfold silversideref07_Common.l0
      rw [w64 (x := (i : Int) + n) (by omega) (by omega), w64 (x := (k : Int) + n) (by omega) (by omega), if_pos (by omega), if_neg (by omega)]
      simp
theorem common_ev (x y : ByteArray) (hx : x.size ≤ 1000000) (hy : y.size ≤ 1000000) (i k : Nat) (hi : i ≤ x.size) (hk : k ≤ y.size) :
    Ev (fun K => silversideref07_Common.f K x i y k) ((cpl (x.data.toList.drop i) (y.data.toList.drop k) : Nat) : Int) := by
  have := common_l0 x y hx hy i k hi hk (x.size - i) 0 (by omega) (by omega)
  simpa [silversideref07_Common.f] using this
theorem less_ev (t : ByteArray) (ht : t.size ≤ 1000000) (i k : Nat) (hi : i < t.size) (hk : k < t.size) (hne : i ≠ k) :
    Ev (fun K => silversideref07_less.f K t i k) (decide (LtW (t.size + 1) (sq t.data.toList i) (sq t.data.toList k))) := by
  have hl := data_length t
  have hm := lcp_is t.data.toList i k (by omega) (by omega) hne
  have hin := hm.inside (by omega) (by omega) hne
  have hc := cpl_lcp hm
  generalize lcp t.data.toList i k = m at *
  have hco := common_ev t t ht ht i k (by omega) (by omega)
  rw [hc] at hco
  unfold silversideref07_less.f
  refine Ev.bind hco ?_
  rw [w64 (x := (i : Int) + m) (by omega) (by omega), w64 (x := (k : Int) + m) (by omega) (by omega)]
  have hw : LtW (t.size + 1) (sq t.data.toList i) (sq t.data.toList k) ↔ ch t.data.toList (i + m) < ch t.data.toList (k + m) := by
    constructor
    · rintro ⟨q, h1, h2, h3⟩
      rcases Nat.lt_trichotomy q m with c | c | c
      · have := hm.same q c; omega
      · subst c; exact h3
      · exact absurd (h2 m c) hm.diff
    · intro h
      exact ⟨m, by omega, hm.same, h⟩
  have hd := hm.diff
  unfold sq at hd
  by_cases h1 : i + m = t.size
  · rw [if_pos (by omega)]
    have z1 := ch_ge t.data.toList (i + m) (by omega)
    have : decide ((i : Int) > (k : Int)) = decide (LtW (t.size + 1) (sq t.data.toList i) (sq t.data.toList k)) := by
      rw [decide_eq_decide, hw]
      have := (ch_zero t.data.toList (k + m))
      omega
    rw [this]; exact Ev.now _
  · by_cases h2 : k + m = t.size
    · rw [if_neg (by omega), if_pos (by omega)]
      have z1 := ch_ge t.data.toList (k + m) (by omega)
      have : decide ((i : Int) > (k : Int)) = decide (LtW (t.size + 1) (sq t.data.toList i) (sq t.data.toList k)) := by
        rw [decide_eq_decide, hw]
        omega
      rw [this]; exact Ev.now _
    · rw [if_neg (by omega), if_neg (by omega), if_pos (by omega), if_pos (by omega), if_pos (by omega), if_pos (by omega)]
      have b1 := bt_ch t (i + m) (by omega)
      have b2 := bt_ch t (k + m) (by omega)
      push_cast at b1 b2
      have : decide (bt t ((i : Int) + m) < bt t ((k : Int) + m)) = decide (LtW (t.size + 1) (sq t.data.toList i) (sq t.data.toList k)) := by
        rw [decide_eq_decide, hw, b1, b2]
        omega
      rw [this]; exact Ev.now _
end Go.Proofs.Ytppelnlocfcgfaa.P
namespace Go.Proofs.Ytppelnlocfcgfaa.P
open Go.RowKit Go.Proofs.YtppelnlocfcgfaaW.PrintWords Go.Proofs.YtppelnlocfcgfaaW.PrintLast Go.Proofs.YtppelnlocfcgfaaW.PrintMore
open Go.Proofs.Fnd
set_option linter.unusedVariables false
set_option linter.unusedSimpArgs false
/-- a list of positions as the program's numbers -/
def nI (l : List Nat) : List Int := l.map Int.ofNat
theorem nI_length (l : List Nat) : (nI l).length = l.length := List.length_map ..
theorem rd_nI (l : List Nat) (k : Nat) (h : k < l.length) : rd (nI l) (k : Int) = ((l[k] : Nat) : Int) := by
  simp only [rd, nI, Int.toNat_natCast, List.getD_eq_getElem?_getD, List.getElem?_map, List.getElem?_eq_getElem h]
  rfl
/-- sorted positions below i -/
structure Ins (t : ByteArray) (i : Nat) (L : List Nat) : Prop where
  perm : L.Perm (List.range i)
  up : L.Pairwise (fun a b => LtW (t.size + 1) (sq t.data.toList a) (sq t.data.toList b))
theorem Ins.len {t : ByteArray} {i : Nat} {L : List Nat} (h : Ins t i L) : L.length = i := by rw [h.perm.length_eq, List.length_range]
theorem Ins.mem {t : ByteArray} {i : Nat} {L : List Nat} (h : Ins t i L) {k : Nat} (hk : k < L.length) : L[k] < i := List.mem_range.1 (h.perm.mem_iff.1 (List.getElem_mem hk))
theorem Ins.put {t : ByteArray} {i lo : Nat} {L : List Nat} (h : Ins t i L) (hi : i < t.size) (hlo : lo ≤ L.length)
    (h1 : ∀ j, (hj : j < L.length) → j < lo → LtW (t.size + 1) (sq t.data.toList L[j]) (sq t.data.toList i))
    (h2 : ∀ j, (hj : j < L.length) → lo ≤ j → ¬ LtW (t.size + 1) (sq t.data.toList L[j]) (sq t.data.toList i)) : Ins t (i + 1) (L.take lo ++ i :: L.drop lo) := by
  have hl := data_length t
  refine ⟨?_, ?_⟩
  · rw [List.range_succ]
    refine List.perm_middle.trans ?_
    rw [List.take_append_drop]
    exact (List.Perm.cons i h.perm).trans (List.perm_append_singleton i _).symm
  · rw [List.pairwise_append]
    refine ⟨h.up.sublist (List.take_sublist _ _), ?_, ?_⟩
    · rw [List.pairwise_cons]
      refine ⟨fun b hb => ?_, h.up.sublist (List.drop_sublist _ _)⟩
      obtain ⟨j, hj, rfl⟩ := List.getElem_of_mem hb
      rw [List.length_drop] at hj
      rw [List.getElem_drop]
      have hm := h.mem (k := lo + j) (by omega)
      rcases tri (t.size + 1) (sq t.data.toList i) (sq t.data.toList L[lo + j]) with q | q | q
      · exact q
      · have := sq_inj t.data.toList t.size i L[lo + j] (by omega) (by omega) (by omega) q
        omega
      · exact absurd q (h2 (lo + j) (by omega) (by omega))
    · intro a ha b hb
      obtain ⟨j, hj, rfl⟩ := List.getElem_of_mem ha
      rw [List.length_take] at hj
      rw [List.getElem_take]
      have c1 := h1 j (by omega) (by omega)
      rcases List.mem_cons.1 hb with rfl | hb
      · exact c1
      · obtain ⟨j2, hj2, rfl⟩ := List.getElem_of_mem hb
        rw [List.length_drop] at hj2
        rw [List.getElem_drop]
        exact List.pairwise_iff_getElem.1 h.up j (lo + j2) (by omega) (by omega) (by omega)
theorem nI_set (L : List Nat) (k : Nat) (x : Nat) : (nI L).set k (x : Int) = nI (L.set k x) := by simp [nI, List.map_set]
theorem set_mid (L : List Nat) (k c x : Nat) (hk : k ≤ L.length) : (L.take k ++ c :: L.drop k).set k x = L.take k ++ x :: L.drop k := by
  have : (L.take k).length = k := by rw [List.length_take]; omega
  rw [List.set_append_right _ _ (by omega), this, Nat.sub_self]; rfl
theorem mid_down (L : List Nat) (k : Nat) (hk : k < L.length) (c : Nat) : L.take (k + 1) ++ c :: L.drop (k + 1) = L.take k ++ L[k] :: c :: L.drop (k + 1) := by
  rw [List.take_succ_eq_append_getElem hk, List.append_assoc]; rfl
/-- the shift and the rest -/
theorem order_l2 (t : ByteArray) (ht : t.size ≤ 4096) (i lo : Nat) (L : List Nat) (r : List Int) (hi : i < t.size) (hL : L.length = i) (hlo : lo ≤ i)
    (hgo : Ev (fun K => silversideref07_Order.l0 K t (nI (L.take lo ++ i :: L.drop lo)) ((i + 1 : Nat) : Int)) r) :
    ∀ (d k c : Nat), lo + d = k → k ≤ i → Ev (fun K => silversideref07_Order.l2 K t (nI (L.take k ++ c :: L.drop k)) (i : Int) (lo : Int) (k : Int)) r := by
  intro d
  induction d with
  | zero =>
    intro k c hk hki
    obtain rfl : lo = k := by omega
    refine Ev.step (fun K => ?_) hgo
    have h1 : (nI (L.take lo ++ c :: L.drop lo)).length = i + 1 := by rw [nI_length]; simp; omega
    conv => lhs; unfold silversideref07_Order.l2
    rw [if_neg (by omega), if_pos (by omega), if_pos (by omega), Int.toNat_natCast, nI_set, set_mid _ _ _ _ (by omega), w64 (by omega) (by omega)]
    rfl
  | succ d ih =>
    intro k c hk hki
    obtain ⟨q, rfl⟩ : ∃ q, k = q + 1 := ⟨k - 1, by omega⟩
    have h := ih q (L[q]'(by omega)) (by omega) (by omega)
    refine Ev.step (fun K => ?_) h
    have h1 : (nI (L.take (q + 1) ++ c :: L.drop (q + 1))).length = i + 1 := by rw [nI_length]; simp; omega
    have h2 : rd (nI (L.take (q + 1) ++ c :: L.drop (q + 1))) (q : Int) = ((L[q]'(by omega) : Nat) : Int) := by
      rw [rd_nI _ _ (by rw [nI_length] at h1; omega)]
      congr 1
      rw [List.getElem_append_left (by rw [List.length_take]; omega), List.getElem_take]
    have e1 : wrap64 (((q + 1 : Nat) : Int) - 1) = (q : Int) := by rw [w64 (by omega) (by omega)]; omega
    conv => lhs; unfold silversideref07_Order.l2
    rw [e1, if_pos (by omega), if_pos (by omega), if_pos (by omega), if_pos (by omega), if_pos (by omega), h2, Int.toNat_natCast, nI_set, set_mid _ _ _ _ (by omega)]
    have e2 : L.take (q + 1) ++ L[q]'(by omega) :: L.drop (q + 1) = L.take q ++ L[q]'(by omega) :: L.drop q := by
      rw [mid_down L q (by omega), ← List.drop_eq_getElem_cons (by omega : q < L.length)]
    rw [e2]
/-- the search and the rest -/
theorem order_l1 (t : ByteArray) (ht : t.size ≤ 4096) (i : Nat) (L : List Nat) (r : List Int) (hi : i < t.size) (hL : Ins t i L)
    (hgo : ∀ L', Ins t (i + 1) L' → Ev (fun K => silversideref07_Order.l0 K t (nI L') ((i + 1 : Nat) : Int)) r) :
    ∀ (d lo hi : Nat), hi - lo < d → lo ≤ hi → hi ≤ i →
      (∀ j, (hj : j < L.length) → j < lo → LtW (t.size + 1) (sq t.data.toList L[j]) (sq t.data.toList i)) →
      (∀ j, (hj : j < L.length) → hi ≤ j → ¬ LtW (t.size + 1) (sq t.data.toList L[j]) (sq t.data.toList i)) →
      Ev (fun K => silversideref07_Order.l1 K t (nI L) (i : Int) (lo : Int) (hi : Int)) r := by
  have hlen := hL.len
  intro d
  induction d with
  | zero => intro lo hi h; omega
  | succ d ih =>
    intro lo hh hd hlh hhi h1 h2
    by_cases hlt : lo < hh
    · have hm1 : lo ≤ (lo + hh) / 2 := by omega
      have hm2 : (lo + hh) / 2 < hh := by omega
      have em : wrap64 (Int.tdiv (wrap64 ((lo : Int) + (hh : Int))) 2) = (((lo + hh) / 2 : Nat) : Int) := by
        rw [w64 (x := (lo : Int) + hh) (by omega) (by omega), Int.tdiv_eq_ediv_of_nonneg (by omega), w64 (by omega) (by omega)]
        omega
      generalize (lo + hh) / 2 = m at *
      have hmi : m < L.length := by omega
      have hne : L[m] ≠ i := by have := hL.mem hmi; omega
      have hle := less_ev t (by omega) L[m] i (by have := hL.mem hmi; omega) hi hne
      have hrd := rd_nI L m hmi
      have hmono : ∀ a b, (ha : a < L.length) → (hb : b < L.length) → a < b → LtW (t.size + 1) (sq t.data.toList L[a]) (sq t.data.toList L[b]) := fun a b ha hb hab => List.pairwise_iff_getElem.1 hL.up a b ha hb hab
      have hlnI := nI_length L
      by_cases hc : LtW (t.size + 1) (sq t.data.toList L[m]) (sq t.data.toList i)
      · have h := ih (m + 1) hh (by omega) (by omega) hhi (fun j hj hjm => by
          by_cases e : j = m
          · subst e; exact hc
          · exact (hmono j m hj hmi (by omega)).trans hc) h2
        rw [decide_eq_true hc] at hle
        refine Ev.step (fun K => ?_) (Ev.bind hle h (f := fun K (b : Bool) => if b = true then silversideref07_Order.l1 K t (nI L) (i : Int) ((m + 1 : Nat) : Int) (hh : Int) else silversideref07_Order.l1 K t (nI L) (i : Int) (lo : Int) (m : Int)))
        conv => lhs; unfold silversideref07_Order.l1
        rw [em, if_pos (by omega), if_pos (by omega), if_pos (by omega), hrd, w64 (x := (m : Int) + 1) (by omega) (by omega)]
        rfl
      · have h := ih lo m (by omega) (by omega) (by omega) h1 (fun j hj hjm => by
          by_cases e : j = m
          · subst e; exact hc
          · exact fun q => hc ((hmono m j hmi hj (by omega)).trans q))
        rw [decide_eq_false hc] at hle
        refine Ev.step (fun K => ?_) (Ev.bind hle h (f := fun K (b : Bool) => if b = true then silversideref07_Order.l1 K t (nI L) (i : Int) ((m + 1 : Nat) : Int) (hh : Int) else silversideref07_Order.l1 K t (nI L) (i : Int) (lo : Int) (m : Int)))
        conv => lhs; unfold silversideref07_Order.l1
        rw [em, if_pos (by omega), if_pos (by omega), if_pos (by omega), hrd, w64 (x := (m : Int) + 1) (by omega) (by omega)]
        rfl
    · obtain rfl : lo = hh := by omega
      have hput := hL.put hi (by omega) h1 h2
      have h := order_l2 t ht i lo L r hi hlen (by omega) (hgo _ hput) (i - lo) i 0 (by omega) (Nat.le_refl _)
      refine Ev.step (fun K => ?_) h
      have e1 : nI L ++ [0] = nI (L.take i ++ 0 :: L.drop i) := by
        rw [List.take_of_length_le (by omega), List.drop_eq_nil_of_le (by omega)]; simp [nI]
      have e2 : (nI (L.take i ++ 0 :: L.drop i)).length = i + 1 := by rw [nI_length]; simp; omega
      conv => lhs; unfold silversideref07_Order.l1
      rw [if_neg (by omega), if_pos (by rw [nI_length]; omega)]
      simp only [Option.bind_some]
      rw [e1, e2, w64 (by omega) (by omega)]
      congr 1
      omega
theorem order_l0 (t : ByteArray) (ht : t.size ≤ 4096) : ∀ (d i : Nat) (L : List Nat), i + d = t.size → Ins t i L → Ev (fun K => silversideref07_Order.l0 K t (nI L) (i : Int)) (ordI t) := by
  have hl := data_length t
  intro d
  induction d with
  | zero =>
    intro i L hd hL
    obtain rfl : i = t.size := by omega
    have e : L = sufOrd t.data.toList := IsOrd.eq ⟨by rw [hl]; exact hL.perm, by rw [hl]; exact hL.up⟩
    refine Ev.step (f := fun _ => some (ordI t)) (fun K => ?_) (Ev.now _)
    conv => lhs; unfold silversideref07_Order.l0
    rw [if_neg (by omega), e]; rfl
  | succ d ih =>
    intro i L hd hL
    have h := order_l1 t ht i L (ordI t) (by omega) hL (fun L' hL' => ih (i + 1) L' (by omega) hL') (i + 1) 0 i (by omega) (by omega) (Nat.le_refl _) (fun j _ h => by omega) (fun j hj h => by have := hL.len; omega)
    refine Ev.step (fun K => ?_) h
    conv => lhs; unfold silversideref07_Order.l0
    rw [if_pos (by omega), nI_length, hL.len]
    rfl
theorem order_ev (t : ByteArray) (ht : t.size ≤ 4096) : Ev (fun K => silversideref07_Order.f K t) (ordI t) :=
  order_l0 t ht t.size 0 [] (by omega) ⟨by simp, List.Pairwise.nil⟩
theorem take_snoc (l : List Int) (k : Nat) (h : k < l.length) : l.take (k + 1) = l.take k ++ [rd l (k : Int)] := by
  rw [List.take_succ_eq_append_getElem h]
  simp [rd, List.getElem?_eq_getElem h]
theorem overlaps_l0 (t : ByteArray) (ht : t.size ≤ 4096) : ∀ (d k : Nat), k + d = t.size → Ev (fun K => silversideref07_Overlaps.l0 K t (ordI t) ((overI t).take k) (k : Int)) (overI t) := by
  have hl := data_length t
  have h4 := ordI_length t
  have h5 := overI_length t
  intro d
  induction d with
  | zero =>
    intro k hd
    obtain rfl : k = t.size := by omega
    refine Ev.step (f := fun _ => some (overI t)) (fun K => ?_) (Ev.now _)
    conv => lhs; unfold silversideref07_Overlaps.l0
    rw [if_neg (by omega), List.take_of_length_le (by omega)]
  | succ d ih =>
    intro k hd
    have h := ih (k + 1) (by omega)
    have hlt : ((overI t).take k).length < 17592186044416 := by rw [List.length_take]; omega
    have hv := rd_overI t k (by omega)
    rw [take_snoc _ _ (by omega), hv] at h
    by_cases hk : k = 0
    · subst hk
      have e0 : (overL t.data.toList).getD 0 0 = 0 := by rw [overL_at _ _ (by omega), if_pos rfl]
      rw [e0] at h
      refine Ev.step (fun K => ?_) h
      conv => lhs; unfold silversideref07_Overlaps.l0
      rw [if_pos (by omega), if_neg (by omega), if_pos hlt, w64 (by omega) (by omega)]
      rfl
    · have e1 : wrap64 ((k : Int) - 1) = ((k - 1 : Nat) : Int) := by rw [w64 (by omega) (by omega)]; omega
      have hc := common_ev t t (by omega) (by omega) ((sufOrd t.data.toList).getD (k - 1) 0) ((sufOrd t.data.toList).getD k 0) (by have := ord_lt t.data.toList (k - 1) (by omega); omega) (by have := ord_lt t.data.toList k (by omega); omega)
      rw [cpl_lcp (over_is t.data.toList k (by omega) hk)] at hc
      have r1 := rd_ordI t k (by omega)
      have r2 := rd_ordI t (k - 1) (by omega)
      refine Ev.step (fun K => ?_) (Ev.bind hc h (f := fun K x => silversideref07_Overlaps.l0 K t (ordI t) ((overI t).take k ++ [x]) ((k + 1 : Nat) : Int)))
      conv => lhs; unfold silversideref07_Overlaps.l0
      rw [e1, if_pos (by omega), if_pos (by omega), if_pos (by omega), if_pos (by omega), if_pos (by omega), r1, r2]
      simp only [if_pos hlt]
      rw [w64 (by omega) (by omega)]
      rfl
theorem overlaps_ev (t : ByteArray) (ht : t.size ≤ 4096) : Ev (fun K => silversideref07_Overlaps.f K t (ordI t)) (overI t) := by
  have := overlaps_l0 t ht t.size 0 (by omega)
  simpa [silversideref07_Overlaps.f] using this
end Go.Proofs.Ytppelnlocfcgfaa.P
namespace Go.Proofs
open Go.Shelf
def Try.lays167_ren : Go.Shelf.Ren := ⟨fun | 167 => 44 | 240 => 57 | 276 => 70 | n => n, fun | 0 => 0 | 4 => 4 | 5 => 5 | 9 => 9 | 20 => 20 | 37 => 66 | 70 => 65 | 72 => 68 | 75 => 70 | 80 => 46 | 164 => 94 | n => n, fun | n => n⟩
theorem Try.lays167 : Go.Proofs.Lays.n167 Try.prog Try.lays167_ren := {
  mixed := by kernel_rfl
  f167 := Try.func44.trans (congrArg some (by kernel_rfl))
  f240 := Try.func57.trans (congrArg some (by kernel_rfl))
  f276 := Try.func70.trans (congrArg some (by kernel_rfl))
  t0 := Try.underlying0
  a0 := Try.isAgg0
  z0 := Try.sizeOf0
  v0 := Try.zeroValue0
  t4 := Try.underlying4
  a4 := Try.isAgg4
  z4 := Try.sizeOf4
  v4 := Try.zeroValue4
  t5 := Try.underlying5
  a5 := Try.isAgg5
  z5 := Try.sizeOf5
  v5 := Try.zeroValue5
  t9 := Try.underlying9
  a9 := Try.isAgg9
  z9 := Try.sizeOf9
  v9 := Try.zeroValue9
  t20 := Try.underlying20
  a20 := Try.isAgg20
  z20 := Try.sizeOf20
  v20 := Try.zeroValue20
  t37 := Try.underlying66
  a37 := Try.isAgg66
  z37 := Try.sizeOf66
  v37 := Try.zeroValue66
  t70 := Try.underlying65
  a70 := Try.isAgg65
  z70 := Try.sizeOf65
  v70 := Try.zeroValue65
  t72 := Try.underlying68
  a72 := Try.isAgg68
  z72 := Try.sizeOf68
  v72 := Try.zeroValue68
  t75 := Try.underlying70
  a75 := Try.isAgg70
  z75 := Try.sizeOf70
  v75 := Try.zeroValue70
  t164 := Try.underlying94
  a164 := Try.isAgg94
  z164 := Try.sizeOf94
  v164 := Try.zeroValue94 }
theorem Try.Builder_Extra_167 : Builder.Extra Try.prog Try.lays167_ren := {
  sizeBuilder := by kernel_rfl
  liesBuilder := by kernel_rfl
  t5 := Try.underlying5
  a5 := Try.isAgg5
  z5 := Try.sizeOf5
  v5 := Try.zeroValue5
  infoByte := by kernel_rfl
  cellsByte := by kernel_rfl
  sizeByte := by kernel_rfl
  neB5 := by decide }
open Go.RowKit in
theorem Try.Builder_WriteByte_k (B b : Nat) (bs : List Value) (c : Int) (w : World) (h : Lib.IsBuilderF 68 5 B b bs w) (hlen : bs.length + 1 ≤ 140737488355328) (hBw : B ≤ w.heap.size) :
    Calls Try.prog 44 #[.pointer (some ⟨b, 0, none⟩), .int .u8 c] w fun e w' => e = .returned .nilIface ∧ (Lib.BuilderAtF 68 5 B b (.pointer (some ⟨b, 0, none⟩)) (bs ++ [.int .u8 c]) w' ∧ Below B w w' ∧ Lib.OthersKept 5 (some b) w w') := Any.Builder_WriteByte_k Try.lays167 Try.Builder_Extra_167 B b bs c w h hlen hBw
open Go.RowKit in
theorem Try.Builder_String_any_k (B b : Nat) (l : List UInt8) (w : World) (h : Lib.IsBuilderF 68 5 B b (Lib.byteCells l) w) (hBw : B ≤ w.heap.size) :
    Calls Try.prog 45 #[.pointer (some ⟨b, 0, none⟩)] w fun e w' => e = .returned (.string ⟨l.toArray⟩) ∧ (Lib.IsBuilderF 68 5 B b (Lib.byteCells l) w' ∧ Below B w w' ∧ Lib.OthersKept 5 (some b) w w') := Any.Builder_String_any_k Try.lays169 Try.Builder_Extra_169 B b l w h hBw
end Go.Proofs
namespace Go.Proofs.Fnd
/-- the last bytes of the first k rotations behind the first one -/
def accN (s : List UInt8) (o : List Nat) : Nat → List UInt8
  | 0 => [s.getD (s.length - 1) 0]
  | k + 1 => accN s o k ++ (if o.getD k 0 = 0 then [] else [s.getD (o.getD k 0 - 1) 0])
def markN (o : List Nat) : Nat → Nat
  | 0 => 0
  | k + 1 => if o.getD k 0 = 0 then k + 1 else markN o k
theorem accN_length (s : List UInt8) (o : List Nat) (k : Nat) : (accN s o k).length ≤ k + 1 := by
  induction k with
  | zero => simp [accN]
  | succ k ih =>
    unfold accN
    rw [List.length_append]
    split <;> simp <;> omega
theorem accN_skip {s : List UInt8} {o : List Nat} {k : Nat} (h : o.getD k 0 = 0) : accN s o (k + 1) = accN s o k := by
  rw [accN, if_pos h, List.append_nil]
theorem accN_take {s : List UInt8} {o : List Nat} {k : Nat} (h : o.getD k 0 ≠ 0) : accN s o (k + 1) = accN s o k ++ [s.getD (o.getD k 0 - 1) 0] := by
  rw [accN, if_neg h]
theorem markN_hit {o : List Nat} {k : Nat} (h : o.getD k 0 = 0) : markN o (k + 1) = k + 1 := by rw [markN, if_pos h]
theorem markN_miss {o : List Nat} {k : Nat} (h : o.getD k 0 ≠ 0) : markN o (k + 1) = markN o k := by rw [markN, if_neg h]
theorem markN_le (o : List Nat) (k : Nat) : markN o k ≤ k := by
  induction k with
  | zero => exact Nat.le_refl _
  | succ k ih => unfold markN; split <;> omega
/-- the turned text of a text that is not empty -/
def bwt (s : List UInt8) : List UInt8 := accN s (sufOrd s) s.length
def bmark (s : List UInt8) : Nat := markN (sufOrd s) s.length
end Go.Proofs.Fnd
namespace Go.Proofs.Fnd
/-- the place of a row's last byte in the turned text -/
def bix (r m : Nat) : Nat := if m < r then r - 1 else r
def lead (s : List UInt8) (m r : Nat) : Nat := if r = m then 0 else 1 + pos s (bix r m)
def rowNo (s : List UInt8) (m : Nat) : Nat → Nat
  | 0 => 0
  | j + 1 => lead s m (rowNo s m j)
theorem bix_lt {r m n : Nat} (hr : r ≤ n) (hm : m ≤ n) (h : r ≠ m) : bix r m < n := by unfold bix; split <;> omega
theorem bix_next {r m : Nat} (h : r ≠ m) : bix (r + 1) m = bix r m + 1 := by unfold bix; split <;> split <;> omega
theorem bix_mark (m : Nat) : bix (m + 1) m = m := by unfold bix; split <;> omega
theorem bix_self (m : Nat) : bix m m = m := by unfold bix; split <;> omega
theorem bix_zero (m : Nat) : bix 0 m = 0 := by unfold bix; split <;> omega
theorem bix_end {n m : Nat} (h : m ≤ n) : bix (n + 1) m = n := by unfold bix; split <;> omega
theorem lead_le (s : List UInt8) {m r : Nat} (hr : r ≤ s.length) (hm : m ≤ s.length) : lead s m r ≤ s.length := by
  unfold lead
  split
  · omega
  · have := pos_lt s (bix r m) (bix_lt hr hm (by assumption)); omega
theorem rowNo_le (s : List UInt8) {m : Nat} (hm : m ≤ s.length) (j : Nat) : rowNo s m j ≤ s.length := by
  induction j with
  | zero => exact Nat.zero_le _
  | succ j ih => exact lead_le s ih hm
/-- the bytes that the way back meets, the last one first -/
def metL (s : List UInt8) (m : Nat) : List UInt8 := (List.range s.length).map fun i => s.getD (bix (rowNo s m (s.length - 1 - i)) m) 0
end Go.Proofs.Fnd
namespace Go.Proofs.Ytppelnlocfcgfaa.P
open Go.RowKit Go.Proofs.YtppelnlocfcgfaaW.PrintWords Go.Proofs.YtppelnlocfcgfaaW.PrintLast Go.Proofs.YtppelnlocfcgfaaW.PrintMore
open Go.Proofs.Fnd
set_option linter.unusedVariables false
set_option linter.unusedSimpArgs false
theorem getD_at (a : ByteArray) (i : Nat) (h : i < a.size) : a.data.toList.getD i 0 = a[i] := by
  have hl : a.data.toList.length = a.size := data_length a
  rw [List.getD_eq_getElem?_getD, List.getElem?_eq_getElem (by omega), Option.getD_some]
  rfl
def IsLead (s : List UInt8) (m k : Nat) (ld : List Int) : Prop := ld.length = s.length + 1 ∧ (∀ r : Nat, r < k → el ld r = (lead s m r : Int)) ∧ ∀ r : Nat, k ≤ r → el ld r = 0
def IsMet (s : List UInt8) (m k : Nat) (out : List Int) : Prop := out.length = s.length ∧ ∀ i : Nat, k ≤ i → i < s.length → el out i = ((s.getD (bix (rowNo s m (s.length - 1 - i)) m) 0).toNat : Int)
theorem el_replicate (n r : Nat) : el (List.replicate n 0) r = 0 := by
  unfold el
  rw [List.getD_eq_getElem?_getD, List.getElem?_replicate]
  split <;> rfl
theorem isLead_zero (s : List UInt8) (m n : Nat) (h : n = s.length + 1) : IsLead s m 0 (List.replicate n 0) := ⟨by simp [h], fun r hr => by omega, fun r _ => el_replicate n r⟩
theorem isLead_skip {s : List UInt8} {m : Nat} {ld : List Int} (h : IsLead s m m ld) : IsLead s m (m + 1) ld := by
  refine ⟨h.1, fun r hr => ?_, fun r hr => h.2.2 r (by omega)⟩
  by_cases e : r = m
  · subst e
    rw [h.2.2 _ (Nat.le_refl _), lead, if_pos rfl]; rfl
  · exact h.2.1 r (by omega)
theorem isLead_step {s : List UInt8} {m k : Nat} {ld : List Int} (h : IsLead s m k ld) (hk : k ≤ s.length) (e : k ≠ m) : IsLead s m (k + 1) (ld.set k (1 + (pos s (bix k m) : Int))) := by
  refine ⟨by simp [h.1], fun r hr => ?_, fun r hr => ?_⟩
  · by_cases e2 : k = r
    · subst e2
      rw [getD_set_same _ _ _ (by rw [h.1]; omega), lead, if_neg e]; push_cast; rfl
    · rw [getD_set_ne _ _ _ _ e2]; exact h.2.1 r (by omega)
  · rw [getD_set_ne _ _ _ _ (by omega)]; exact h.2.2 r (by omega)
theorem isMet_zero (s : List UInt8) (m n : Nat) (h : n = s.length) : IsMet s m s.length (List.replicate n 0) := ⟨by simp [h], fun i h1 h2 => by omega⟩
theorem isMet_step {s : List UInt8} {m k : Nat} {out : List Int} (h : IsMet s m (k + 1) out) (hk : k < s.length) : IsMet s m k (out.set k ((s.getD (bix (rowNo s m (s.length - 1 - k)) m) 0).toNat : Int)) := by
  refine ⟨by simp [h.1], fun i h1 h2 => ?_⟩
  by_cases e : k = i
  · subst e
    rw [getD_set_same _ _ _ (by rw [h.1]; omega)]
  · rw [getD_set_ne _ _ _ _ e]; exact h.2 i (by omega) h2
theorem isMet_str {s : List UInt8} {m : Nat} {out : List Int} (h : IsMet s m 0 out) : strOfNums out = ⟨(metL s m).toArray⟩ := by
  have e : out = (metL s m).map (fun c => (c.toNat : Int)) := by
    refine List.ext_getElem (by simp [metL, h.1]) fun i h1 h2 => ?_
    have h3 : i < s.length := by rw [← h.1]; exact h1
    have h4 := h.2 i (Nat.zero_le _) h3
    unfold el at h4
    rw [List.getD_eq_getElem?_getD, List.getElem?_eq_getElem h1, Option.getD_some] at h4
    rw [h4]
    simp [metL]
  subst e
  unfold strOfNums
  rw [List.map_map]
  congr 2
  conv => rhs; rw [← List.map_id (metL s m)]
  refine List.map_congr_left fun c _ => ?_
  simp
/-- what Restore answers -/
def find_Restore.f (a0 : ByteArray) (a1 : Int) : Option (ByteArray × Int) :=
  some (if 4096 < a0.size ∨ a1 < 0 ∨ (a0.size : Int) < a1 then ((⟨#[]⟩ : ByteArray), 2)
    else if (∀ j, j < a0.size → rowNo a0.data.toList a1.toNat j ≠ a1.toNat) ∧ rowNo a0.data.toList a1.toNat a0.size = a1.toNat then ((⟨(metL a0.data.toList a1.toNat).toArray⟩ : ByteArray), 0)
    else ((⟨#[]⟩ : ByteArray), 70))
set_option maxHeartbeats 2000000 in
set_option maxRecDepth 100000 in
theorem index_calls (r m : Nat) (hr : r ≤ 4096) (w : World) :
    Calls Try.prog 47 #[.int .i64 r, .int .i64 m] w fun e w' => e = .returned (.int .i64 (bix r m : Nat)) ∧ w' = w := by
  by_cases h : m < r
  · have hI : (m : Int) < (r : Int) := by omega
    rw [show ((bix r m : Nat) : Int) = (r : Int) - 1 by unfold bix; rw [if_pos h]; omega]
    go_enter Try.func47, Try.ntmps47
    go_wp2
    go_ret
    exact ⟨rfl, rfl⟩
  · have hI : ¬ (m : Int) < (r : Int) := by omega
    rw [show ((bix r m : Nat) : Int) = (r : Int) by unfold bix; rw [if_neg h]]
    go_enter Try.func47, Try.ntmps47
    go_wp2
    go_ret
    exact ⟨rfl, rfl⟩
set_option maxHeartbeats 2000000 in
set_option maxRecDepth 100000 in
theorem restore_arg_calls (a0 : ByteArray) (a1 : Int) (h : 4096 < a0.size ∨ a1 < 0 ∨ (a0.size : Int) < a1) (w : World) :
    Calls Try.prog 25 #[.string a0, .int .i64 a1] w fun e w' => e = .returned (.tuple #[.string (⟨#[]⟩ : ByteArray), .int .i64 2]) ∧ Below w.heap.size w w' := by
  have HB := Aside0.mk (Below.refl w.heap.size w)
  by_cases h1 : 4096 < a0.size
  · have h1I : (4096 : Int) < (a0.size : Int) := by omega
    go_enter Try.func25, Try.ntmps25
    go_wp2
    go_ret2
    refine ⟨rfl, ?_⟩
    repeat (first | (with_reducible first | exact HB.out | apply below_alloc | apply pw_below_drewN | apply below_drew1) | exact HB.out)
  · have h1I : ¬ (4096 : Int) < (a0.size : Int) := by omega
    by_cases h2 : a1 < 0
    · go_enter Try.func25, Try.ntmps25
      go_wp2
      go_ret2
      refine ⟨rfl, ?_⟩
      repeat (first | (with_reducible first | exact HB.out | apply below_alloc | apply pw_below_drewN | apply below_drew1) | exact HB.out)
    · have h3 : (a0.size : Int) < a1 := by omega
      go_enter Try.func25, Try.ntmps25
      go_wp2
      go_ret2
      refine ⟨rfl, ?_⟩
      repeat (first | (with_reducible first | exact HB.out | apply below_alloc | apply pw_below_drewN | apply below_drew1) | exact HB.out)
end Go.Proofs.Ytppelnlocfcgfaa.P
namespace Go.Proofs.Ytppelnlocfcgfaa.P
open Go.RowKit Go.Proofs.YtppelnlocfcgfaaW.PrintWords Go.Proofs.YtppelnlocfcgfaaW.PrintLast Go.Proofs.YtppelnlocfcgfaaW.PrintMore
open Go.Proofs.Fnd
set_option linter.unusedVariables false
set_option linter.unusedSimpArgs false
theorem builder_new (w : World) : Lib.IsBuilderF 68 5 w.heap.size w.heap.size [] (w.alloc (Obj.cells #[.pointer none, .slice none 0 0] 68)) :=
  .inl ⟨Nat.le_refl _, .slice none 0 0, heap_alloc_new _ _, World.ownsRowF_of (own_nil _ _ _ _), by simp [Value.ownBlock]⟩
theorem R_others {w w' : World} {base B : Nat} {ok : Nat → Prop} {v : Value} {xs : List Int} (h : Kd.R (Kd.int .i64) 3 w base ok v xs) (hk : Lib.OthersKept 5 (some B) w w') (hB : v.ownBlock ≠ some B) : Kd.R (Kd.int .i64) 3 w' base ok v xs := by
  have ho := Kd.own_of_R h
  refine Kd.R_of_own (own_move ho fun k hv => ?_) h.1
  obtain ⟨cells, hc⟩ := own_typed ho k hv
  rw [hc]
  refine hk k _ hc (fun e => hB (by rw [hv]; exact e)) (fun c fz e => ?_)
  simp at e
theorem builder_of {B b : Nat} {bs : List Value} {w : World} (h : Lib.BuilderAtF 68 5 B b (.pointer (some ⟨b, 0, none⟩)) bs w) : Lib.IsBuilderF 68 5 B b bs w := .inr h
theorem byteCells_snoc (l : List UInt8) (c : UInt8) : Lib.byteCells l ++ [.int .u8 (c.toNat : Int)] = Lib.byteCells (l ++ [c]) := by simp [Lib.byteCells]
theorem getD_mem (l : List Nat) (k : Nat) (h : k < l.length) : l.getD k 0 ∈ l := by
  rw [List.getD_eq_getElem?_getD, List.getElem?_eq_getElem h]
  exact List.getElem_mem h
theorem field24_1 (t : ByteArray) (A B : Option Addr) (n c m d : Nat) (w : World) : Sem.run Try.prog (Instr.field 24 (.agg #[.string t, .slice A n c, .slice B m d]) 1) w = .ok (.slice A n c) w := by kernel_rfl
set_option maxHeartbeats 2000000 in
set_option maxRecDepth 100000 in
theorem turn_calls (a0 : ByteArray) (hs : a0.size ≤ 4096) (h0 : 0 < a0.size) (w : World) :
    Calls Try.prog 23 #[.string a0] w fun e w' => e = .returned (.tuple #[.string ⟨(bwt a0.data.toList).toArray⟩, .int .i64 (bmark a0.data.toList : Int), .int .i64 0]) ∧ Below w.heap.size w w' := by
  obtain ⟨kf, hkf⟩ := find_newIndex_is a0 hs
  have HKF := Aside0.mk hkf
  have HBN := Aside0.mk (builder_new w)
  have HSZ := Aside0.mk (show a0.data.toList.length = a0.size from data_length a0)
  have hse : (a0.toList == []) = false := by
    rw [ByteArray.toList_eq, beq_eq_false_iff_ne]
    intro e
    have := HSZ.out
    rw [e] at this
    simp at this; omega
  have HC0 : Aside0 ([] ++ [Value.int .u8 (a0[a0.size - 1].toNat : Int)] = Lib.byteCells (accN a0.data.toList (sufOrd a0.data.toList) 0)) := ⟨by
    rw [accN, HSZ.out, getD_at a0 (a0.size - 1) (by omega)]
    rfl⟩
  have hs4 : ¬ (4096 : Int) < ((a0.size : Nat) : Int) := by omega
  clear hkf
  have hfl := field24_1
  go_enter Try.func23, Try.ntmps23
  go_wp2_with (first | (go_at_call 44; go_must (refine (Try.Builder_WriteByte_k w.heap.size w.heap.size [] _ _ HBN.out (by simp) (by simp)).mono ?_); rintro e w1 ⟨rfl, hb1, hbl1, ho1⟩; rw [HC0.out] at hb1; have HLT := Aside0.mk hb1.lt; have HBU := Aside0.mk (builder_of hb1); have HB1 := Aside0.mk (below_then (Below.refl w.heap.size w) (Nat.le_refl _) (Below.trans ((Below.refl w.heap.size w).alloc (Nat.le_refl _) _) hbl1)); clear hb1 hbl1 ho1) | (go_at_call 41; go_must (refine (find_newIndex.calls kf a0 _ _ _ _ HKF.out).mono ?_); rintro e w2 ⟨v1, v2, rfl, hr1, hr2, hb2⟩; obtain ⟨A1, c1, rfl⟩ := Kd.R_slice hr1; obtain ⟨A2, c2, rfl⟩ := Kd.R_slice hr2; have HR1 := Aside0.mk hr1; have HR2 := Aside0.mk hr2; have HB2 := Aside0.mk hb2; clear hr1 hr2 hb2))
  have HL1 := Aside0.mk (ordI_length a0)
  have HBU2 := Aside0.mk (HBU.out.below HB2.out)
  have HBB := Aside0.mk (below_step HB1.out HB2.out)
  clear HBU HB1 HBN HC0 hs4
  go_loopw [24, 6] (fun v24 v6 wr => ∃ k : Nat, k ≤ a0.size ∧ v24 = .int .i64 k ∧ v6 = .int .i64 ((markN (sufOrd a0.data.toList) k : Nat) : Int) ∧ Aside0 (Lib.IsBuilderF 68 5 w.heap.size w.heap.size (Lib.byteCells (accN a0.data.toList (sufOrd a0.data.toList) k)) wr) ∧ Aside0 (Kd.R (Kd.int .i64) 3 wr w1.heap.size (fun _ => True) (.slice A1 (ordI a0).length c1) (ordI a0)) ∧ Aside0 (Below w.heap.size w wr)) (fun v24 _ _ => a0.size - (intOf v24).toNat)
  case atStart => exact ⟨0, by omega, rfl, rfl, HBU2, ⟨Kd.R_mono HR1.out (fun _ _ => trivial)⟩, HBB⟩
  case round =>
    obtain ⟨k, hk, rfl, rfl, HBU, HR, HB⟩ := hrel
    clear HBU2 HBB HR1 HR2
    by_cases hlt : k < a0.size
    · obtain ⟨ad, rfl, hx⟩ := Kd.at_int (Kd.R_reads' HR.out).2.2 (k : Int) (by omega) (by rw [HL1.out]; omega)
      rw [rd_ordI a0 k hlt, Int.toNat_natCast] at hx
      have hkl : (k : Int) < (((ordI a0).length : Nat) : Int) := by rw [HL1.out]; omega
      have hoi : (sufOrd a0.data.toList).getD k 0 < a0.size := by
        rw [← HSZ.out]
        exact sufOrd_lt _ _ (getD_mem _ k (by rw [sufOrd_length, HSZ.out]; exact hlt))
      by_cases hz : (sufOrd a0.data.toList).getD k 0 = 0
      · have hm := Aside0.mk (markN_hit hz)
        have ha := Aside0.mk (accN_skip (s := a0.data.toList) hz)
        rw [hz] at hx
        go_wp2
        go_roundw
        case rel =>
          refine ⟨k + 1, by omega, by go_num, ?_, ⟨by rw [ha.out]; exact HBU.out⟩, HR, HB⟩
          rw [hm.out]; rfl
        case measure => simp [intOf]; omega
      · have hm := Aside0.mk (markN_miss hz)
        have ha := Aside0.mk (accN_take (s := a0.data.toList) hz)
        generalize (sufOrd a0.data.toList).getD k 0 = i at *
        have hne0 : ((i : Int) == 0) = false := by rw [beq_eq_false_iff_ne]; omega
        have hi1 : ((i : Nat) : Int) < ((a0.size : Nat) : Int) := by omega
        have hi0 : 0 < ((i : Nat) : Int) := by omega
        have hal := accN_length a0.data.toList (sufOrd a0.data.toList) k
        have hby : Aside0 (Lib.byteCells (accN a0.data.toList (sufOrd a0.data.toList) k) ++ [Value.int .u8 (a0[i - 1].toNat : Int)] = Lib.byteCells (accN a0.data.toList (sufOrd a0.data.toList) (k + 1))) := ⟨by rw [byteCells_snoc, ha.out, getD_at a0 (i - 1) (by omega)]⟩
        have hal2 : Aside0 ((Lib.byteCells (accN a0.data.toList (sufOrd a0.data.toList) k)).length + 1 ≤ 140737488355328) := ⟨by simp [Lib.byteCells]; omega⟩
        clear hal
        go_wp2_with (first | (go_at_call 44; go_must (refine (Try.Builder_WriteByte_k w.heap.size w.heap.size _ _ _ HBU.out hal2.out HB.out.size).mono ?_); rintro e w3 ⟨rfl, hb3, hbl3, ho3⟩; have HBU3 := Aside0.mk (builder_of hb3); have HB3 := Aside0.mk (Below.trans HB.out hbl3); have HO3 := Aside0.mk ho3; clear hb3 hbl3 ho3))
        go_roundw
        case rel =>
          have hA := HR.out
          refine ⟨k + 1, by omega, by go_num, ?_, ⟨by rw [← hby.out]; exact HBU3.out⟩, ⟨R_others HR.out HO3.out ?_⟩, HB3⟩
          · rw [hm.out]
          · intro e
            have h1 := own_base (Kd.own_of_R HR.out) _ e
            have h2 := HLT.out
            omega
        case measure => simp [intOf]; omega
    · obtain rfl : k = a0.size := by omega
      have hkl : ¬ ((a0.size : Nat) : Int) < (((ordI a0).length : Nat) : Int) := by rw [HL1.out]; omega
      go_wp2_with (first | (go_at_call 45; go_must (refine (Try.Builder_String_any_k w.heap.size w.heap.size _ _ HBU.out HB.out.size).mono ?_); rintro e w3 ⟨rfl, hb3, hbl3, ho3⟩; have HB3 := Aside0.mk (Below.trans HB.out hbl3); clear hb3 hbl3 ho3))
      refine bodyPost_ret (results_tmp3 rfl _ _ _) rfl ?_
      exact ⟨rfl, HB3.out⟩
end Go.Proofs.Ytppelnlocfcgfaa.P
namespace Go.Proofs.Ytppelnlocfcgfaa.P
open Go.RowKit Go.Proofs.YtppelnlocfcgfaaW.PrintWords Go.Proofs.YtppelnlocfcgfaaW.PrintLast Go.Proofs.YtppelnlocfcgfaaW.PrintMore
open Go.Proofs.Fnd
set_option linter.unusedVariables false
set_option linter.unusedSimpArgs false
/-- what Turn answers -/
def find_Turn.f (a0 : ByteArray) : Option (ByteArray × Int × Int) :=
  some (if 4096 < a0.size then ((⟨#[]⟩ : ByteArray), 0, 2) else if a0.size = 0 then ((⟨#[]⟩ : ByteArray), 0, 0) else ((⟨(bwt a0.data.toList).toArray⟩ : ByteArray), (bmark a0.data.toList : Int), 0))
set_option maxHeartbeats 2000000 in
set_option maxRecDepth 100000 in
theorem turn_long_calls (a0 : ByteArray) (hs : (4096 : Int) < (a0.size : Int)) (w : World) :
    Calls Try.prog 23 #[.string a0] w fun e w' => e = .returned (.tuple #[.string (⟨#[]⟩ : ByteArray), .int .i64 0, .int .i64 2]) ∧ Below w.heap.size w w' := by
  have HB := Aside0.mk (Below.refl w.heap.size w)
  go_enter Try.func23, Try.ntmps23
  go_wp2
  refine bodyPost_ret (results_tmp3 rfl _ _ _) rfl ?_
  refine ⟨rfl, ?_⟩
  repeat (first | (with_reducible first | exact HB.out | apply below_alloc | apply pw_below_drewN | apply below_drew1) | exact HB.out)
set_option maxHeartbeats 2000000 in
set_option maxRecDepth 100000 in
theorem turn_empty_calls (w : World) :
    Calls Try.prog 23 #[.string (⟨#[]⟩ : ByteArray)] w fun e w' => e = .returned (.tuple #[.string (⟨#[]⟩ : ByteArray), .int .i64 0, .int .i64 0]) ∧ Below w.heap.size w w' := by
  have HB := Aside0.mk (Below.refl w.heap.size w)
  have hse : ((⟨#[]⟩ : ByteArray).toList == []) = true := by kernel_rfl
  go_enter Try.func23, Try.ntmps23
  go_wp2
  refine bodyPost_ret (results_tmp3 rfl _ _ _) rfl ?_
  refine ⟨rfl, ?_⟩
  repeat (first | (with_reducible first | exact HB.out | apply below_alloc | apply pw_below_drewN | apply below_drew1) | exact HB.out)
theorem find_Turn.calls (a0 : ByteArray) (r1 : ByteArray) (r2 r3 : Int) (w : World) (h : find_Turn.f a0 = some (r1, r2, r3)) :
    Calls Try.prog 23 #[.string a0] w fun e w' => e = .returned (.tuple #[.string r1, .int .i64 r2, .int .i64 r3]) ∧ Below w.heap.size w w' := by
  rw [find_Turn.f, Option.some.injEq] at h
  by_cases h1 : 4096 < a0.size
  · rw [if_pos h1] at h
    obtain ⟨rfl, rfl, rfl⟩ := h
    exact turn_long_calls a0 (by omega) w
  · rw [if_neg h1] at h
    by_cases h2 : a0.size = 0
    · rw [if_pos h2] at h
      obtain ⟨rfl, rfl, rfl⟩ := h
      obtain rfl : a0 = ⟨#[]⟩ := by
        obtain ⟨d⟩ := a0
        have h3 : d.size = 0 := h2
        rw [Array.eq_empty_of_size_eq_zero h3]
      exact turn_empty_calls w
    · rw [if_neg h2] at h
      obtain ⟨rfl, rfl, rfl⟩ := h
      exact turn_calls a0 (by omega) (by omega) w
end Go.Proofs.Ytppelnlocfcgfaa.P
namespace Go.Proofs.Ytppelnlocfcgfaa.P
open Go.RowKit Go.Proofs.YtppelnlocfcgfaaW.PrintWords Go.Proofs.YtppelnlocfcgfaaW.PrintLast Go.Proofs.YtppelnlocfcgfaaW.PrintMore
open Go.Proofs.Fnd
set_option linter.unusedVariables false
set_option linter.unusedSimpArgs false
set_option maxHeartbeats 4000000 in
set_option maxRecDepth 100000 in
theorem restore_calls (a0 : ByteArray) (m : Nat) (hs : a0.size ≤ 4096) (hm : m ≤ a0.size) (w : World) :
    Calls Try.prog 25 #[.string a0, .int .i64 m] w fun e w' => e = (if (∀ j, j < a0.size → rowNo a0.data.toList m j ≠ m) ∧ rowNo a0.data.toList m a0.size = m then .returned (.tuple #[.string ⟨(metL a0.data.toList m).toArray⟩, .int .i64 0]) else .returned (.tuple #[.string (⟨#[]⟩ : ByteArray), .int .i64 70])) ∧ Below w.heap.size w w' := by
  have hsz : a0.data.toList.length = a0.size := data_length a0
  have HSZ := Aside0.mk hsz
  clear hsz
  have HG0 := Aside0.mk (show (w.alloc (Obj.cells Try.zeroCells73 73)).heap[w.heap.size]? = some (.cells (nums .i64 (List.replicate 256 0)).toArray 73 (0, 0)) by rw [← zero73]; exact heap_alloc_new _ _)
  have HB0 := Aside0.mk ((Below.refl w.heap.size w).alloc (Nat.le_refl _) (Obj.cells Try.zeroCells73 73))
  have hs4 : ¬ (4096 : Int) < ((a0.size : Nat) : Int) := by omega
  have hm1 : ¬ ((a0.size : Nat) : Int) < (m : Int) := by omega
  have hm0 : ¬ (m : Int) < 0 := by omega
  obtain ⟨E, hE⟩ : ∃ E : Ending, (if (∀ j, j < a0.size → rowNo a0.data.toList m j ≠ m) ∧ rowNo a0.data.toList m a0.size = m then .returned (.tuple #[.string ⟨(metL a0.data.toList m).toArray⟩, .int .i64 0]) else .returned (.tuple #[.string (⟨#[]⟩ : ByteArray), .int .i64 70])) = E := ⟨_, rfl⟩
  have HE := Aside0.mk hE
  rw [hE]
  clear hE
  go_enter Try.func25, Try.ntmps25
  go_wp2
  clear hs4 hm0
  go_loopw [30] (fun v30 wr => ∃ (k : Nat) (cur : List Int), k ≤ a0.size ∧ v30 = .int .i64 k ∧ Aside0 (IsOcc a0.data.toList k cur) ∧ Aside0 (wr.heap[w.heap.size]? = some (.cells (nums .i64 cur).toArray 73 (0, 0))) ∧ Aside0 (Below w.heap.size w wr)) (fun v30 _ => a0.size - (intOf v30).toNat)
  case atStart => exact ⟨0, _, by omega, rfl, ⟨isOcc_zero _⟩, HG0, HB0⟩
  case round =>
    obtain ⟨k, cur, hk, rfl, HO, HG, HB⟩ := hrel
    clear HG0 HB0
    by_cases hlt : k < a0.size
    · have hc8 : a0[k].toNat < 256 := a0[k].toNat_lt
      have hcI : ((a0[k].toNat : Nat) : Int) < 256 := by omega
      have hcell : wr.cell? ⟨w.heap.size, a0[k].toNat, none⟩ = some (.int .i64 (el cur a0[k].toNat)) := blk_num HG.out a0[k].toNat (by rw [HO.out.1]; exact hc8)
      have hfr := blk_frozen HG.out a0[k].toNat
      have ho1 := HO.out.2 _ hc8
      have ho2 := occ_le a0.data.toList k a0[k].toNat
      have hge : 0 ≤ el cur a0[k].toNat := by omega
      have hle : el cur a0[k].toNat ≤ 4096 := by omega
      clear ho1 ho2
      have HG' := Aside0.mk (blk_store HG.out a0[k].toNat (el cur a0[k].toNat + 1))
      have HB' := Aside0.mk (below_set HB.out (Nat.le_refl _) : Below w.heap.size w (wr.setCell ⟨w.heap.size, a0[k].toNat, none⟩ (.int .i64 (el cur a0[k].toNat + 1))))
      have HO' : Aside0 (IsOcc a0.data.toList (k + 1) (cur.set a0[k].toNat (el cur a0[k].toNat + 1))) := ⟨isOcc_step HO.out (by rw [HSZ.out]; exact hlt)⟩
      go_wp2
      go_roundw
      case rel => exact ⟨k + 1, _, by omega, by go_num, HO', HG', HB'⟩
      case measure => simp [intOf]; omega
    · obtain rfl : k = a0.size := by omega
      have hb := HO.out.2
      have hbd : ∀ i, 0 ≤ rd cur i ∧ rd cur i ≤ 1099511627776 := fun i => by
        rw [show rd cur i = el cur i.toNat from rfl]
        by_cases hi : i.toNat < 256
        · rw [hb _ hi]
          have := occ_le a0.data.toList a0.size i.toNat
          omega
        · unfold el; rw [List.getD_eq_getElem?_getD, List.getElem?_eq_none (by rw [HO.out.1]; omega)]
          simp
      have HBD := Aside0.mk hbd
      clear hb hbd
      have HCL := Aside0.mk (show cur.length = 256 from HO.out.1)
      have hz1 : 0 ≤ ((a0.size : Nat) : Int) + 1 := by omega
      have hz2 : (((a0.size : Nat) : Int) + 1).toNat * 8 ≤ 281474976710656 := by omega
      go_wp2_with (first | (go_at_call 46; go_must (with_reducible refine (find_buckets_starts_calls cur HCL.out HBD.out _).mono ?_); rintro e w1 ⟨rfl, hb1⟩; have HB1 := Aside0.mk (below_step HB.out hb1); clear hb1) | (refine wpList_load_row rfl 73 (.tmp 7) rfl w.heap.size rfl 73 (nums .i64 cur).toArray (0, 0) _ HG.out Try.underlying73 rfl ?hi ?_) | (refine wpList_store_row rfl 73 (.tmp 9) (.tmp 42) rfl w1.heap.size (nums .i64 (startsL cur)).toArray rfl rfl 73 Try.zeroCells73 (heap_alloc_new _ _) ?hi2 ?hi3 (nums_one _) ?_) | ((with_reducible refine gate_dst (N := 45) rfl ?_); go_must (refine Kd.R_make (Kd.int .i64) _ 3 rfl (N := 45) rfl 22 _ _ rfl ((a0.size : Int) + 1) rfl rfl Try.underlying22 (.int .i64 0) 8 info3 rfl (by decide) (by omega) 0 (ok := fun _ => True) (okp := fun _ => True) rfl (fun _ hk => hk) trivial hz1 hz2 (Below.refl _ _) (Nat.le_refl _) ?_); intro v2 w2 ho2 hb2 hg2_ hnew2_))
      case hi => rw [info73, nums_size, HCL.out]
      case hi2 => rw [info73, nums_size, startsL, List.length_map, List.length_range, HCL.out]
      case hi3 => rw [zero73, nums_size, nums_size, List.length_replicate, startsL, List.length_map, List.length_range, HCL.out]
      have hbx := below_setRow (below_alloc HB1.out (Obj.cells Try.zeroCells73 73)) HB1.out.size (nums IntKind.i64 (startsL cur)).toArray
      have HB2 := Aside0.mk (below_step hbx hb2)
      have hax : ((w1.alloc (Obj.cells Try.zeroCells73 73)).setRow w1.heap.size (nums IntKind.i64 (startsL cur)).toArray).heap[w1.heap.size]? = some (.cells (nums .i64 (startsL cur)).toArray 73 (0, 0)) := setRow_heap _ _ _ _ _ _ (heap_alloc_new _ _)
      have HA2 := Aside0.mk (blk_below hax hb2)
      have HO2 := Aside0.mk (Kd.R_lower ho2 hbx.size)
      have HI2 : Aside0 (IsAt a0.data.toList 0 (startsL cur)) := ⟨isAt_starts (by rw [HSZ.out]; exact HO.out)⟩
      have HU2 : Aside0 (IsLead a0.data.toList m 0 (List.replicate (((a0.size : Nat) : Int) + 1).toNat 0)) := ⟨isLead_zero _ _ _ (by rw [HSZ.out]; omega)⟩
      have HG1 := Aside0.mk (HB1.out.size)
      clear ho2 hb2 hg2_ hnew2_ hbx hax HO HBD HG HB hz1 hz2 HCL HB1
      have hbix0 : bix 0 m = 0 := bix_zero m
      go_loopw [48] (fun v48 wr => ∃ (k : Nat) (acur ld : List Int), k ≤ a0.size + 1 ∧ v48 = .int .i64 k ∧ Aside0 (IsAt a0.data.toList (bix k m) acur) ∧ Aside0 (IsLead a0.data.toList m k ld) ∧ Aside0 (wr.heap[w1.heap.size]? = some (.cells (nums .i64 acur).toArray 73 (0, 0))) ∧ Aside0 (Kd.R (Kd.int .i64) 3 wr w.heap.size (fun _ => True) v2 ld) ∧ Aside0 (Below w.heap.size w wr)) (fun v48 _ => a0.size + 1 - (intOf v48).toNat)
      case atStart => exact ⟨0, _, _, by omega, rfl, (by rw [hbix0]; exact HI2), HU2, HA2, HO2, HB2⟩
      case round =>
        obtain ⟨k, acur, ld, hk, rfl, HI, HU, HA, HO, HB⟩ := hrel
        clear HI2 HU2 HA2 HO2 HB2 hbix0
        by_cases hlt : k < a0.size + 1
        · have hltI : ((k : Nat) : Int) < ((a0.size : Nat) : Int) + 1 := by omega
          by_cases hkm : k = m
          · subst hkm
            have hU' : Aside0 (IsLead a0.data.toList k (k + 1) ld) := ⟨isLead_skip HU.out⟩
            have hI' : Aside0 (IsAt a0.data.toList (bix (k + 1) k) acur) := ⟨by rw [bix_mark, ← bix_self k]; exact HI.out⟩
            clear HI HU
            go_wp2
            go_roundw
            case rel => exact ⟨k + 1, _, _, by omega, by go_num, hI', hU', HA, HO, HB⟩
            case measure => simp [intOf]; omega
          · have hkmI : ((k : Nat) : Int) ≠ (m : Int) := by omega
            have hkmB : (((k : Nat) : Int) == (m : Int)) = false := by rw [beq_eq_false_iff_ne]; exact hkmI
            have hbl : bix k m < a0.size := bix_lt (by omega) hm hkm
            have hbn : bix (k + 1) m = bix k m + 1 := bix_next hkm
            have hU' : Aside0 (IsLead a0.data.toList m (k + 1) (ld.set k (1 + (pos a0.data.toList (bix k m) : Int)))) := ⟨isLead_step HU.out (by rw [HSZ.out]; omega) hkm⟩
            have HIX := Aside0.mk (index_calls k m (by omega))
            obtain ⟨j, hj⟩ : ∃ j, bix k m = j := ⟨_, rfl⟩
            rw [hj] at hbl hbn hU' HI HIX
            have hks : j < a0.data.toList.length := by rw [HSZ.out]; exact hbl
            have hc8 : a0[j].toNat < 256 := a0[j].toNat_lt
            have hcI : ((a0[j].toNat : Nat) : Int) < 256 := by omega
            have hp := pos_eq a0.data.toList j hks
            have hpl := pos_lt a0.data.toList j hks
            have he : el acur a0[j].toNat = (pos a0.data.toList j : Int) := by rw [HI.out.2 _ hc8, hp]; simp; rfl
            have hcell : wr.cell? ⟨w1.heap.size, a0[j].toNat, none⟩ = some (.int .i64 (pos a0.data.toList j : Int)) := by
              rw [← he]; exact blk_num HA.out a0[j].toNat (by rw [HI.out.1]; exact hc8)
            have hll : ld.length = a0.size + 1 := by rw [HU.out.1, HSZ.out]
            obtain ⟨g, cp, rfl, hg1, hg2, cl, hgc⟩ := Kd.R_form HO.out (by omega)
            obtain ⟨hx, hf⟩ := Kd.R_celln 0 HO.out (k : Int) (by omega) (by omega)
            have HP := Kd.R_putg HO.out (k : Int) (1 + (pos a0.data.toList j : Int))
            have hne : g ≠ w1.heap.size := fun e => by rw [e, HA.out] at hgc; simp at hgc
            have hps : pos a0.data.toList j ≤ 4096 := by
              have h1 := HSZ.out
              omega
            have hI' : Aside0 (IsAt a0.data.toList (bix (k + 1) m) (acur.set a0[j].toNat ((pos a0.data.toList j : Int) + 1))) := ⟨by
              have h1 := isAt_step HI.out hks
              rw [show el acur (a0.data.toList[j]).toNat = (pos a0.data.toList j : Int) from he] at h1
              rw [hbn]
              exact h1⟩
            generalize pos a0.data.toList j = p at *
            simp only [Int.toNat_natCast] at hx hf HP
            have hfr2 : (wr.setCell ⟨g, k, none⟩ (.int .i64 (1 + (p : Int)))).frozen? ⟨w1.heap.size, a0[j].toNat, none⟩ = false := blk_frozen (blk_far HA.out (p := ⟨g, k, none⟩) (fun e => hne e.symm) _) _
            have hA1 := blk_far HA.out (p := ⟨g, k, none⟩) (fun e => hne e.symm) (.int .i64 (1 + (p : Int)))
            have hcell2 : (wr.setCell ⟨g, k, none⟩ (.int .i64 (1 + (p : Int)))).cell? ⟨w1.heap.size, a0[j].toNat, none⟩ = some (.int .i64 (p : Int)) := by
              rw [blk_cell hA1, ← blk_cell HA.out]; exact hcell
            have HA' := Aside0.mk (blk_store hA1 a0[j].toNat ((p : Int) + 1))
            have HO' := Aside0.mk (Kd.R_set HP.1 hA1 (by intro q hq; simp [Kd.int, Kd.scalar] at hq; omega) a0[j].toNat (.int .i64 ((p : Int) + 1)))
            have HB' : Aside0 (Below w.heap.size w ((wr.setCell ⟨g, k, none⟩ (.int .i64 (1 + (p : Int)))).setCell ⟨w1.heap.size, a0[j].toNat, none⟩ (.int .i64 ((p : Int) + 1)))) := ⟨below_set (below_set HB.out hg1) HG1.out⟩
            have hpl3 : ((k : Nat) : Int) < (ld.length : Int) := by omega
            have hjI : ((j : Nat) : Int) < ((a0.size : Nat) : Int) := by omega
            clear HP hA1 hgc he HI HU HO HB HA hp hpl hj hbn hll
            go_wp2_with (first | (go_at_call 47; go_must (refine (HIX.out _).mono ?_); rintro e w9 ⟨rfl, rfl⟩))
            go_roundw
            case rel => exact ⟨k + 1, _, _, by omega, by go_num, hI', hU', HA', HO', HB'⟩
            case measure => simp [intOf]; omega
        · obtain rfl : k = a0.size + 1 := by omega
          have hltI : ¬ (((a0.size + 1 : Nat) : Nat) : Int) < ((a0.size : Nat) : Int) + 1 := by omega
          clear HI HA
          have hz1 : 0 ≤ ((a0.size : Nat) : Int) := by omega
          have hz2 : ((a0.size : Nat) : Int).toNat * 1 ≤ 281474976710656 := by omega
          have HLL := Aside0.mk (show ld.length = a0.size + 1 by rw [HU.out.1, HSZ.out])
          go_wp2_with (first | ((with_reducible refine gate_dst (N := 73) rfl ?_); go_must (refine Kd.R_make (Kd.int .u8) _ 5 rfl (N := 73) rfl 66 _ _ rfl (a0.size : Int) rfl rfl Try.underlying66 (.int .u8 0) 1 info5 rfl (by decide) (by omega) 0 (ok := fun k => wr.heap.size ≤ k) (okp := fun k => wr.heap.size ≤ k) rfl (fun _ hk => hk) (Nat.le_refl _) hz1 hz2 (Below.refl _ _) (Nat.le_refl _) ?_); intro v3 w3 ho3 hb3 hg3_ hnew3_))
          have HB3 := Aside0.mk (below_step HB.out hb3)
          have HO3 := Aside0.mk (Kd.R_below (Kd.R_mono (ok' := fun k => k < wr.heap.size) (Kd.R_bound HO.out) (fun k hk => hk.2.2.1)) hb3)
          have HK3 := Aside0.mk (Kd.R_lower ho3 HB.out.size)
          have HM3 : Aside0 (IsMet a0.data.toList m a0.size (List.replicate ((a0.size : Nat) : Int).toNat 0)) := ⟨by
            have h := isMet_zero a0.data.toList m ((a0.size : Nat) : Int).toNat (by rw [HSZ.out]; omega)
            rwa [HSZ.out] at h⟩
          have HWS := Aside0.mk HB.out.size
          clear ho3 hb3 hg3_ hnew3_ hz1 hz2 HB HO
          obtain ⟨W, hW⟩ : ∃ W : World, W = wr := ⟨_, rfl⟩
          subst hW
          go_loopw [4, 5, 14, 15] (fun v4 v5 v14 v15 wx => ∃ (k : Nat) (out : List Int), k ≤ a0.size ∧ v4 = .string ⟨#[]⟩ ∧ v5 = .int .i64 0 ∧ v15 = .int .i64 ((k : Int) - 1) ∧ v14 = .int .i64 ((rowNo a0.data.toList m (a0.size - k) : Nat) : Int) ∧ Aside0 (∀ j, j < a0.size - k → rowNo a0.data.toList m j ≠ m) ∧ Aside0 (IsMet a0.data.toList m k out) ∧ Aside0 (Kd.R (Kd.int .i64) 3 wx w.heap.size (fun k => k < W.heap.size) v2 ld) ∧ Aside0 (Kd.R (Kd.int .u8) 5 wx w.heap.size (fun k => W.heap.size ≤ k) v3 out) ∧ Aside0 (Below w.heap.size w wx)) (fun _ _ _ v15 _ => (intOf v15 + 1).toNat)
          case atStart => exact ⟨a0.size, _, by omega, rfl, rfl, by rfl, by rw [Nat.sub_self]; rfl, ⟨fun j hj => by omega⟩, HM3, HO3, HK3, HB3⟩
          case round =>
            obtain ⟨k, out, hk, rfl, rfl, rfl, rfl, HN, HM, HO, HK, HB⟩ := hrel
            clear HO3 HK3 HM3 HB3
            have hrl := rowNo_le a0.data.toList (m := m) (by rw [HSZ.out]; exact hm) (a0.size - k)
            rw [HSZ.out] at hrl
            rcases k with _ | k
            · have hcvt := own_string (P := Try.prog) Try.underlying66 Try.underlying5 Try.underlying9 (Kd.own_of_R HK.out)
              by_cases hrm : rowNo a0.data.toList m (a0.size - 0) = m
              · have HEE := Aside0.mk (HE.out.symm.trans (if_pos ⟨fun j hj => HN.out j (by omega), hrm⟩))
                have HST := Aside0.mk (isMet_str HM.out)
                rw [hrm]
                clear HM HN HO HE hrm hrl
                go_wp2
                go_ret2
                refine ⟨?_, HB.out⟩
                rw [← HST.out] at HEE
                exact HEE.out.symm
              · have HEE := Aside0.mk (HE.out.symm.trans (if_neg (fun h => hrm h.2)))
                have hne : ¬ ((rowNo a0.data.toList m (a0.size - 0) : Nat) : Int) = (m : Int) := by omega
                generalize rowNo a0.data.toList m (a0.size - 0) = r at *
                clear HM HN HO HE hrm
                go_wp2
                go_ret2
                exact ⟨HEE.out.symm, HB.out⟩
            · by_cases hrm : rowNo a0.data.toList m (a0.size - (k + 1)) = m
              · have HEE := Aside0.mk (HE.out.symm.trans (if_neg (fun h => h.1 (a0.size - (k + 1)) (by omega) hrm)))
                rw [hrm]
                clear HM HN HO HE hrm hrl
                go_wp2
                go_ret2
                exact ⟨HEE.out.symm, HB.out⟩
              · have hne : ¬ ((rowNo a0.data.toList m (a0.size - (k + 1)) : Nat) : Int) = (m : Int) := by omega
                have HN' : Aside0 (∀ j, j < a0.size - k → rowNo a0.data.toList m j ≠ m) := ⟨fun j hj => by
                  by_cases e : j = a0.size - (k + 1)
                  · rw [e]; exact hrm
                  · exact HN.out j (by omega)⟩
                have hstep : rowNo a0.data.toList m (a0.size - k) = lead a0.data.toList m (rowNo a0.data.toList m (a0.size - (k + 1))) := by
                  rw [show a0.size - k = (a0.size - (k + 1)) + 1 by omega]; rfl
                have hbl : bix (rowNo a0.data.toList m (a0.size - (k + 1))) m < a0.size := bix_lt hrl hm hrm
                have hM' := isMet_step HM.out (by rw [HSZ.out]; omega)
                rw [HSZ.out, show a0.size - 1 - k = a0.size - (k + 1) by omega] at hM'
                have hldr := HU.out.2.1 (rowNo a0.data.toList m (a0.size - (k + 1))) (by omega)
                rw [← hstep] at hldr
                have HST := Aside0.mk hstep
                clear hstep
                have hoL : out.length = a0.size := by rw [HM.out.1, HSZ.out]
                generalize rowNo a0.data.toList m (a0.size - (k + 1)) = r at *
                obtain ⟨r', hr'⟩ : ∃ r', rowNo a0.data.toList m (a0.size - k) = r' := ⟨_, rfl⟩
                rw [hr'] at hldr HST
                have HR' := Aside0.mk hr'
                clear hr'
                have HIX := Aside0.mk (index_calls r m (by omega))
                generalize bix r m = j at *
                rw [getD_at a0 j hbl] at hM'
                have hjI : ((j : Nat) : Int) < ((a0.size : Nat) : Int) := by omega
                obtain ⟨g, cp, rfl, hg1, hg2, cl, hgc⟩ := Kd.R_form HK.out (by omega)
                obtain ⟨g4, cp4, rfl, hg41, hg42, cl4, hgc4⟩ := Kd.R_form HO.out (by rw [HLL.out]; omega)
                obtain ⟨hx, hf⟩ := Kd.R_celln 0 HK.out (k : Int) (by omega) (by omega)
                have hne2 : g4 ≠ g := by
                  have h1 := HO.out.1 g4 rfl
                  have h2 := HK.out.1 g rfl
                  omega
                have HP := Kd.R_putg HK.out (k : Int) ((a0[j].toNat : Nat) : Int)
                have HO' := Aside0.mk (Kd.R_far HO.out (p := ⟨g, k, none⟩) (fun q hq => by have h2 := HK.out.1 g rfl; simp; omega) (.int .u8 ((a0[j].toNat : Nat) : Int)))
                have HB' : Aside0 (Below w.heap.size w (wr.setCell ⟨g, k, none⟩ (.int .u8 ((a0[j].toNat : Nat) : Int)))) := ⟨below_set HB.out hg1⟩
                obtain ⟨hx4, hf4⟩ := Kd.R_celln 0 HO'.out (r : Int) (by omega) (by rw [HLL.out]; omega)
                simp only [Int.toNat_natCast] at hx hf HP hx4 hf4
                rw [show rdOf 0 ld (r : Int) = el ld r from by simp [rdOf, el], hldr] at hx4
                have HP' := Aside0.mk HP.1
                have HM' := Aside0.mk hM'
                have hLI : ((r : Nat) : Int) < ((ld.length : Nat) : Int) := by rw [HLL.out]; omega
                have hkI : ((k : Nat) : Int) < ((out.length : Nat) : Int) := by omega
                clear HP hM' HM HN HO HK HB hgc hgc4 hldr HU hoL
                go_wp2_with (first | (go_at_call 47; go_must (refine (HIX.out _).mono ?_); rintro e w9 ⟨rfl, rfl⟩))
                go_roundw
                case rel =>
                  exact ⟨k, _, by omega, rfl, rfl, by go_num, by rw [HR'.out], HN', HM', HO', HP', HB'⟩
                case measure => simp [intOf] <;> omega
theorem find_Restore.calls (a0 : ByteArray) (a1 : Int) (r1 : ByteArray) (r2 : Int) (w : World) (h : find_Restore.f a0 a1 = some (r1, r2)) :
    Calls Try.prog 25 #[.string a0, .int .i64 a1] w fun e w' => e = .returned (.tuple #[.string r1, .int .i64 r2]) ∧ Below w.heap.size w w' := by
  rw [find_Restore.f, Option.some.injEq] at h
  by_cases h1 : 4096 < a0.size ∨ a1 < 0 ∨ (a0.size : Int) < a1
  · rw [if_pos h1] at h
    obtain ⟨rfl, rfl⟩ := h
    exact restore_arg_calls a0 a1 h1 w
  · rw [if_neg h1] at h
    obtain ⟨m, rfl⟩ : ∃ m : Nat, a1 = (m : Int) := ⟨a1.toNat, by omega⟩
    have h2 := restore_calls a0 m (by omega) (by omega) w
    rw [Int.toNat_natCast] at h
    refine h2.mono ?_
    rintro e w' ⟨rfl, hb⟩
    refine ⟨?_, hb⟩
    split at h <;> (rename_i hc; obtain ⟨rfl, rfl⟩ := h)
    · rw [if_pos hc]
    · rw [if_neg hc]
end Go.Proofs.Ytppelnlocfcgfaa.P
