/- Proved here: what functions that the law reaches compute, and plain laws of that. -/
import Derived.Test.YtmnhcbaocoofoaaDoorBQ11
import Derived.Deep.DeepMust
import Derived.IntWalk
import Derived.Test.YtmnhcbaocoofoaaDoorBQ12
import Derived.BigQuiet
import Derived.Deep.LoopGhost
import Derived.Outline
import Derived.Sort.LotA
set_option linter.unusedVariables false
set_option linter.unusedSimpArgs false
namespace Go.Proofs.YtmnhcbaocoofoaaDoor.P
open Go.RowKit YtmnhcbaocoofoaaDoorW.PrintWords YtmnhcbaocoofoaaDoorW.PrintLast YtmnhcbaocoofoaaDoorW.PrintMore
theorem info97 : (Tryd.prog.info? 97).map (fun i => (i.zero, i.size, i.bytes)) = some (some (.agg #[(.int .i64 0), (.int .i64 0)]), 2, 16) := by kernel_rfl
def gJ (js : List S40) (k : Nat) : Ben.J := ⟨(js.getD k z40).f0, (js.getD k z40).f1, (js.getD k z40).f2⟩
theorem job_at {w W : World} {A : Option Addr} {js : List S40} (h : Kd.C k40 w A js.length js) (hB : Below w.heap.size w W) (k : Nat) (hk : k < js.length) : ∃ ad, A = some ad ∧ W.cell? (ad.add (k * 3)) = some (.int .i64 (gJ js k).ready) ∧
    W.cell? ⟨(ad.add (k * 3)).block, (ad.add (k * 3)).off + 1, none⟩ = some (.int .i64 (gJ js k).due) ∧ W.cell? ⟨(ad.add (k * 3)).block, (ad.add (k * 3)).off + 2, none⟩ = some (.int .i64 (gJ js k).work) := by
  obtain ⟨ad, e, h0, h1, h2⟩ := at_T40 h (k : Int) (by omega) (by omega)
  unfold rd_T40 at h0 h1 h2
  rw [Int.toNat_natCast] at h0 h1 h2
  exact ⟨ad, e, cB hB h0, cB hB h1, cB hB h2⟩
def spUp (l : List Int) (n : Nat) : List S34 := (List.range n).map fun i => ⟨l.getD i 0, l.getD (i + 1) 0⟩
def spL (l : List Int) : List S34 := spUp l (l.length - 1)
theorem spUp_len (l : List Int) (n : Nat) : (spUp l n).length = n := by simp [spUp]
theorem spUp_succ (l : List Int) (n : Nat) : spUp l (n + 1) = spUp l n ++ [⟨l.getD n 0, l.getD (n + 1) 0⟩] := by simp [spUp, List.range_succ]
theorem ints_at {w : World} {base : Nat} {A : Option Addr} {c : Nat} {xs : List Int} (h : Kd.R (Kd.int .i64) 3 w base (fun _ => True) (.slice A xs.length c) xs) (k : Nat) (hk : k < xs.length) : ∃ ad, A = some ad ∧ w.cell? (ad.add k) = some (.int .i64 (xs.getD k 0)) := by
  obtain ⟨ad, c', e, _, hK, hc0⟩ := Kd.C_get (Kd.R_reads' h).2.2 (0 : Int) (k : Int) (by omega) (by omega)
  have hc : ∀ j u, c'[j]? = some u → w.cell? (ad.add ((k : Int).toNat * 1 + j)) = some u := hc0
  obtain rfl : c' = [.int .i64 _] := hK
  refine ⟨ad, e, ?_⟩
  have := hc 0 _ rfl
  rw [Int.toNat_natCast, Nat.mul_one, Nat.add_zero] at this
  exact this
theorem two_C {w : World} {g : Nat} {a b : Int} (h : w.heap[g]? = some (.cells #[.int .i64 a, .int .i64 b] 3 (0, 0))) : Kd.C (Kd.int .i64) w (some ⟨g, 0, none⟩) 2 [a, b] :=
  (Kd.R_reads' (show Kd.R (Kd.int .i64) 3 w 0 (fun _ => True) (.slice (some ⟨g, 0, none⟩) 2 2) [a, b] from Kd.R_of_own ⟨rfl, .inr ⟨g, 2, _, rfl, Nat.zero_le _, h, Nat.le_refl _, by unfold maxLen; omega, rfl, rfl⟩⟩ (fun _ _ => trivial))).2.2
theorem alloc_at {w : World} {o : Obj} {n : Nat} (h : n = w.heap.size) : (w.alloc o).heap[n]? = some o := by rw [h]; exact heap_alloc_new w o
def spansR.T13 : Bool × List (List Nat × List Nat) := (true, [([], []), ([], []), ([], []), ([2], [2]), ([1, 3], [1, 3]), ([4], [4]), ([], []), ([], []), ([6, 7], [6, 7]), ([8], [8]), ([5, 9], [5, 9]), ([10], [10]), ([0, 11], [0, 11]), ([12, 12, 0, 1, 2, 3, 4, 5, 6, 7, 8, 9, 10, 11, 12], [0, 12])])
def spansR.B13 : List Nat := [0, 0, 0, 4, 14, 30, 0, 0, 192, 448, 1022, 2046, 4095, 8191]
theorem spansR.tab13 : rtab .any (opsOf Tryd.f57 13) = spansR.T13 := by kernel_rfl
theorem spansR.bits13 : waitsOk spansR.T13.2 spansR.B13 = true := by kernel_rfl
set_option maxHeartbeats 8000000 in
set_option maxRecDepth 100000 in
theorem spans_calls (B : Int) (A : Option Addr) (c : Nat) (js : List S40) (w : World) (hr : Kd.C k40 w A js.length js) (hm : js.length ≤ 1000) :
    Calls Tryd.prog 57 #[.agg #[.int .i64 B, .slice A js.length c]] w fun e w' => ∃ v, e = .returned v ∧ Kd.R k34 97 w' w.heap.size (fun _ => True) v (spL (Ben.cutsW (gJ js) js.length)) ∧ Below w.heap.size w w' := by
  have HR := Aside0.mk hr
  have HM := Aside0.mk hm
  have hmI : ((js.length : Nat) : Int) ≤ 1000 := by omega
  have HB := Aside0.mk (Below.refl w.heap.size w)
  have HT0 : Aside0 (Kd.R (Kd.int .i64) 3 w w.heap.size (fun _ => True) (.slice none 0 0) (Ben.timesOf (gJ js) 0)) := ⟨Kd.R_nil _ _ _ _ _⟩
  have HCU := Aside0.mk (cuts_are (gJ js) js.length)
  have HLL := Aside0.mk (show (Ben.cutsW (gJ js) js.length).length ≤ 2000 by have := (Ben.cutsW_is (gJ js) js.length).len; omega)
  generalize Ben.cutsW (gJ js) js.length = l at *
  have hu55 := Tryd.underlying55
  have hu40 := Tryd.underlying40
  have hu97 := Tryd.underlying97
  clear hr hm
  go_enter Tryd.func57, Tryd.ntmps57
  go_wp2_with (first | ((with_reducible refine gate_dst (N := 1) rfl ?_); refine bxe 1 #[.int .i64 B, .slice A js.length c] 55 ?_; intro gt hgt w1 hbox1 hb1; have HX := Aside0.mk hbox1; have HB1 := Aside0.mk (below_step HB.out hb1); have HT1 := Aside0.mk (Kd.R_below HT0.out hb1); clear hgt hbox1 hb1; have hx1 := (blk_cell HX.out 1).trans rfl))
  go_loopw [3, 11] (fun v3 v11 wr => ∃ k : Nat, k ≤ js.length ∧ v11 = .int .i64 (k : Int) ∧ Aside0 (Kd.R (Kd.int .i64) 3 wr w.heap.size (fun _ => True) v3 (Ben.timesOf (gJ js) k)) ∧ Aside0 (Below w.heap.size w wr)) (fun _ v11 _ => js.length - (intOf v11).toNat)
  case atStart => exact ⟨0, by omega, rfl, HT1, HB1⟩
  case round =>
    obtain ⟨k, hk, rfl, HT, HB2⟩ := hrel
    clear HT0 HT1 HB HB1 HX hx1
    by_cases hlt : k < js.length
    · have hltI : ((k : Nat) : Int) < ((js.length : Nat) : Int) := by omega
      obtain ⟨ad, rfl, hx0, hx1, hx2⟩ := job_at HR.out HB2.out k hlt
      go_wp2_with (first
        | ((with_reducible refine gate_dst (N := 5) rfl ?_); refine bxe 5 #[.int .i64 0, .int .i64 0, .int .i64 0] 40 ?_; intro gj hgj w3 hbox3 hb3; have HX3 := Aside0.mk hbox3; have HG3 := Aside0.mk (show w.heap.size ≤ gj by rw [hgj]; exact HB2.out.size); have HB3 := Aside0.mk (below_step HB2.out hb3); have HT3 := Aside0.mk (Kd.R_below HT.out hb3); have HBr := Aside0.mk hb3; have HGr := Aside0.mk (show wr.heap.size ≤ gj by rw [hgj]; exact Nat.le_refl _); have c0 : w3.cell? ⟨gj, 0, none⟩ = some (.int .i64 0) := (blk_cell HX3.out 0).trans rfl; have c1 : w3.cell? ⟨gj, 1, none⟩ = some (.int .i64 0) := (blk_cell HX3.out 1).trans rfl; have c2 : w3.cell? ⟨gj, 2, none⟩ = some (.int .i64 0) := (blk_cell HX3.out 2).trans rfl; have f0 := blk_frozen HX3.out 0; have f1 := blk_frozen HX3.out 1; have f2 := blk_frozen HX3.out 2; clear hgj hbox3 hb3)
        | ((with_reducible refine gate_builtin (b := .append) (xs := #[.tmp 15, .tmp 20]) rfl ?_); at_builtin; refine Kd.R_append_rows (Kd.int .i64) (w0 := w) w.heap.size rfl (.tmp 15) (.tmp 20) 43 3 (.int .i64 0) 8 rfl Tryd.underlying43 info3 rfl (by decide) (by omega) _ (Ben.timesOf (gJ js) k) [(gJ js k).ready, (gJ js k).due] _ _ _ (fun _ => True) (fun _ => False) rfl rfl ?aO ?aR (fun _ _ h => h) (fun _ h => h.elim) ?aF ?aB ?aS ?aL ?_; (case aR => exact two_C (alloc_at (by simp))); (case aB => repeat (first | exact HB3.out | apply lA | refine lS ?_ HG3.out)); (case aF => exact (fun _ _ => trivial)); (case aO => exact Kd.R_below HT.out (by repeat (first | exact HBr.out | apply lA | refine lS ?_ HGr.out))); (case aS => exact below_size (by repeat (first | exact HB3.out | apply lA | refine lS ?_ HG3.out))); (case aL => have := HM.out; rw [Ben.timesOf_len]; omega); intro v4 w4 ho4 hb4 hg4 hat4; have HT4 := Aside0.mk ho4; have HB4 := Aside0.mk hb4; clear ho4 hb4 hg4 hat4))
      go_roundw
      case rel => exact ⟨k + 1, by omega, by go_num, HT4, HB4⟩
      case measure => simp [intOf]; omega
    · have hge : ¬ ((k : Nat) : Int) < ((js.length : Nat) : Int) := by omega
      obtain rfl : k = js.length := by omega
      go_wp2_with (first
        | (go_at_call 71; go_must (refine (sortI_calls _ _ w _ HT.out HB2.out (by rw [Ben.timesOf_len]; have := HM.out; omega)).mono ?_); rintro e w5 ⟨rfl, ht5, hb5⟩; have HT5 := Aside0.mk ht5; have HB5 := Aside0.mk hb5; clear ht5 hb5)
        | (go_at_call 72; go_must (refine (compI_calls _ _ w _ HT5.out HB5.out (by rw [List.length_mergeSort, Ben.timesOf_len]; have := HM.out; omega)).mono ?_); rintro e w6 ⟨v6, rfl, ht6, hb6⟩; rw [HCU.out] at ht6; obtain ⟨A6, c6, rfl⟩ := Kd.R_slice ht6; have HT6 := Aside0.mk ht6; have HB6 := Aside0.mk hb6; clear ht6 hb6))
      have HO0 : Aside0 (Kd.R k34 97 w6 w.heap.size (fun _ => True) (.slice none 0 0) (spUp l 0)) := ⟨Kd.R_nil _ _ _ _ _⟩
      clear hmI hge
      have hlI : ((l.length : Nat) : Int) ≤ 2000 := by have := HLL.out; omega
      go_loopw [6, 7] (fun v6 v7 wr => ∃ j : Nat, v7 = .int .i64 (j : Int) ∧ Aside0 (1 ≤ j ∧ (j ≤ l.length ∨ j = 1)) ∧ Aside0 (Kd.R k34 97 wr w.heap.size (fun _ => True) v6 (spUp l (j - 1))) ∧ Aside0 (Kd.R (Kd.int .i64) 3 wr w.heap.size (fun _ => True) (.slice A6 l.length c6) l) ∧ Aside0 (Below w.heap.size w wr)) (fun _ v7 _ => l.length - (intOf v7).toNat)
      case atStart => exact ⟨1, rfl, ⟨by omega⟩, HO0, HT6, HB6⟩
      case round =>
        obtain ⟨j, rfl, HJ, HO, HT, HB⟩ := hrel
        clear HO0 HT6 HB6 HT5 HB5
        have hj2 : ((j : Nat) : Int) ≤ 2000 := by have := HJ.out; have := HLL.out; omega
        by_cases hlt : j < l.length
        · have hltI : ((j : Nat) : Int) < ((l.length : Nat) : Int) := by omega
          obtain ⟨ad, rfl, hx1⟩ := ints_at HT.out j hlt
          obtain ⟨ad', e', hx0⟩ := ints_at HT.out (j - 1) (by omega)
          cases e'
          obtain ⟨j1, hj1⟩ : ∃ j1, j1 = j - 1 := ⟨_, rfl⟩
          rw [← hj1] at hx0 HO
          have hjj : ((j : Nat) : Int) - 1 = ((j1 : Nat) : Int) := by have := HJ.out; omega
          have hj1l : ((j1 : Nat) : Int) < ((l.length : Nat) : Int) := by omega
          have HSU : Aside0 (spUp l (j + 1 - 1) = spUp l j1 ++ [⟨l.getD j1 0, l.getD j 0⟩]) := ⟨by rw [show j + 1 - 1 = j1 + 1 by have := HJ.out; omega, spUp_succ, show j1 + 1 = j by have := HJ.out; omega]⟩
          generalize l.getD j 0 = y1 at *
          generalize l.getD j1 0 = y0 at *
          have HOD := Aside0.mk (Kd.R_drew HO.out)
          have HTD := Aside0.mk (Kd.R_drew HT.out)
          have HBD := Aside0.mk (below_drew HB.out)
          have HJ1 := Aside0.mk hj1
          have hw1 : wrap64 ((j1 : Nat) : Int) = ((j1 : Nat) : Int) := w64i (by omega) (by omega)
          clear HO HT HB hj1
          go_wp2
          refine start_ (n := 14) (S := fun w' => w'.cell? (ad.add j1) = some (.int .i64 y0) ∧ w'.cell? (ad.add j) = some (.int .i64 y1)) (ds := [11, 12]) (Bs 0 14) (by kernel_rfl) rfl rfl ⟨hx0, hx1⟩ (fun hHeld => ?_)
          generalize wr.drew = w4 at HOD HTD HBD hx0 hx1 hHeld ⊢
          refine with_tabW spansR.tab13 spansR.bits13 (fun HT_ HW_ => ?_)
          refine pu 0 33 (Bs 1 14) HT_ ?_
          refine pu 1 34 (Bs 2 14) HT_ ?_
          refine pu 2 35 (Bs 3 14) HT_ ?_
          refine pu 3 36 (Bs 4 14) HT_ ?_
          refine pu 4 37 (Bs 5 14) HT_ ?_
          refine pu 6 39 (Br [5,1,1,7]) HT_ ?_
          refine pu 7 40 (Br [5,1,2,6]) HT_ ?_
          refine pu 8 41 (Br [5,1,3,5]) HT_ ?_
          refine ta 5 38 (Bs 9 14) HT_ HW_ hHeld ?_
          refine ta 9 42 (Bs 10 14) HT_ HW_ hHeld ?_
          refine pu 10 43 (Bs 11 14) HT_ ?_
          refine last_ (i := 11) (N := some 44) (Bs 12 14) rfl rfl (one_of HT_.out (by kernel_rfl)) (by decide) (fun K hK => ?_)
          refine value_ (w1 := ?_) (v := ?_) (by rfl) rfl ?_ ?_
          rotate_left 2
          · go_simp
            constructor
            · rfl
            · rfl
          refine hK.out _ _ ?_
          clear hK K
          refine nm 44 ?_
          refine last_ (i := 12) (N := some 45) (Bs 13 14) rfl rfl (one_of HT_.out (by kernel_rfl)) (by decide) (fun K hK => ?_)
          refine Kd.R_append_step k34 (w0 := w) w.heap.size (by rfl) (.tmp 33) (.tmp 44) 77 97 (.agg #[.int .i64 0, .int .i64 0]) 16 rfl Tryd.underlying77 info97 rfl (by decide) (by omega) _ (spUp l j1) ⟨y0, y1⟩ [.int .i64 y0, .int .i64 y1] (fun _ => True) (fun _ => False) rfl rfl ?aP (fun _ hk => hk.elim) ?aF ?aO ?aB ?aS ?aL ?_
          case aP => exact k34_mkM _ _ _ _
          case aF => exact (fun _ _ => trivial)
          case aO => exact HOD.out
          case aB => exact HBD.out
          case aS => exact HBD.out.size
          case aL => rw [spUp_len]; have := HLL.out; have := HJ.out; have := HJ1.out; omega
          intro v7 w5 ho5 hb5 hg5 hat5
          have HO7 := Aside0.mk ho5
          have HT7 := Aside0.mk (Kd.R_over HTD.out HOD.out (by decide) hg5)
          have HB7 := Aside0.mk hb5
          clear ho5 hb5 hg5 hat5
          refine hK.out _ _ ?_
          clear hK K
          refine nm 45 ?_
          refine pu 13 6 (Bs 14 14) HT_ ?_
          refine done_ (done_of HT_.out (by kernel_rfl)) ?_
          go_wp2
          go_roundw
          case rel => exact ⟨j + 1, by go_num, ⟨by have := HJ.out; omega⟩, ⟨by rw [HSU.out]; exact HO7.out⟩, HT7, HB7⟩
          case measure => simp [intOf]; omega
        · have hge : ¬ ((j : Nat) : Int) < ((l.length : Nat) : Int) := by omega
          go_wp2
          go_ret
          refine ⟨_, rfl, ?_, HB.out⟩
          unfold spL
          rw [show l.length - 1 = j - 1 by have := HJ.out; omega]
          exact HO.out
def Pb (w : World) (p : Nat) (B : Int) (A : Option Addr) (m c : Nat) (vx vp : Value) (wk : Int) : Prop := w.heap[p]? = some (.cells #[.int .i64 B, .slice A m c, vx, vp, .int .i64 wk] 79 (0, 0))
theorem Pb.at {w : World} {p : Nat} {B : Int} {A : Option Addr} {m c : Nat} {vx vp : Value} {wk : Int} (h : Pb w p B A m c vx vp wk) :
    w.cell? ⟨p, 0, none⟩ = some (.int .i64 B) ∧ w.cell? ⟨p, 1, none⟩ = some (.slice A m c) ∧ w.cell? ⟨p, 2, none⟩ = some vx ∧ w.cell? ⟨p, 3, none⟩ = some vp ∧ w.cell? ⟨p, 4, none⟩ = some (.int .i64 wk) ∧ ∀ o, w.frozen? ⟨p, o, none⟩ = false :=
  ⟨(blk_cell h 0).trans rfl, (blk_cell h 1).trans rfl, (blk_cell h 2).trans rfl, (blk_cell h 3).trans rfl, (blk_cell h 4).trans rfl, fun o => blk_frozen h o⟩
theorem Pb.below {w w' : World} {p N : Nat} {B : Int} {A : Option Addr} {m c : Nat} {vx vp : Value} {wk : Int} (h : Pb w p B A m c vx vp wk) (hb : Below N w w') (hp : p < N) : Pb w' p B A m c vx vp wk := (hb.block p hp).trans h
theorem Pb.lt {w : World} {p : Nat} {B : Int} {A : Option Addr} {m c : Nat} {vx vp : Value} {wk : Int} (h : Pb w p B A m c vx vp wk) : p < w.heap.size := blk_lt h
theorem job_calls (p k : Nat) (hk : k ≤ 10000) (w : World) : Calls Tryd.prog 60 #[.pointer (some ⟨p, 0, none⟩), .int .i64 (k : Int)] w fun e w' => e = .returned (.int .i64 ((1 + k : Nat) : Int)) ∧ Below w.heap.size w w' := by
  have hkI : (k : Int) ≤ 10000 := by omega
  go_enter Tryd.func60, Tryd.ntmps60
  go_wp2
  go_ret
  exact ⟨by simp, Below.refl _ _⟩
theorem part_calls (p k : Nat) (hk : k ≤ 10000) {B : Int} {A : Option Addr} {m c : Nat} {vx vp : Value} {wk : Int} (hm : m ≤ 10000) (w : World) (hp : Pb w p B A m c vx vp wk) : Calls Tryd.prog 61 #[.pointer (some ⟨p, 0, none⟩), .int .i64 (k : Int)] w fun e w' => e = .returned (.int .i64 ((1 + m + k : Nat) : Int)) ∧ Below w.heap.size w w' := by
  have hkI : (k : Int) ≤ 10000 := by omega
  have hmI : (m : Int) ≤ 10000 := by omega
  obtain ⟨_, h1, _, _, _, _⟩ := hp.at
  have hu79 := Tryd.underlying79
  have hu55 := Tryd.underlying55
  go_enter Tryd.func61, Tryd.ntmps61
  go_wp2
  go_ret
  exact ⟨by simp [Int.add_assoc], Below.refl _ _⟩
theorem last_calls (p : Nat) {B : Int} {A Ap : Option Addr} {m c K cp : Nat} {vx : Value} {wk : Int} (hm : m ≤ 10000) (hK : K ≤ 10000) (w : World) (hp : Pb w p B A m c vx (.slice Ap K cp) wk) : Calls Tryd.prog 45 #[.pointer (some ⟨p, 0, none⟩)] w fun e w' => e = .returned (.int .i64 ((1 + m + K : Nat) : Int)) ∧ Below w.heap.size w w' := by
  have hkI : (K : Int) ≤ 10000 := by omega
  have hmI : (m : Int) ≤ 10000 := by omega
  obtain ⟨_, h1, _, h3, _, _⟩ := hp.at
  have hu79 := Tryd.underlying79
  have hu55 := Tryd.underlying55
  go_enter Tryd.func45, Tryd.ntmps45
  go_wp2
  go_quiet (fail)
  go_wp2
  go_ret
  exact ⟨by simp [Int.add_assoc], lN (Below.refl _ _) _⟩
end Go.Proofs.YtmnhcbaocoofoaaDoor.P
namespace Go.Proofs.YtmnhcbaocoofoaaDoor.P
open Go.RowKit YtmnhcbaocoofoaaDoorW.PrintWords YtmnhcbaocoofoaaDoorW.PrintLast YtmnhcbaocoofoaaDoorW.PrintMore
open Go.Proofs.YtmnhcbaocoofoaaDoor.Ben (Rm putR addF)
attribute [local go_sem] max2_int min2_int max_two min_two
attribute [local go_sem high] eqA106
structure Fit (N s t : Nat) (st : Ben.St) (n : Nat) : Prop where
  hs : s < N
  ht : t < N
  hst : s ≠ t
  hN : N ≤ 1000
  adj : ∀ v u, v < N → u ∈ st.next v → u < N
  len : ∀ j, (st.next j).length ≤ 100000
  R : ∀ u v, 0 ≤ st.R u v ∧ st.R u v ≤ 1099511627776
  n : n ≤ 1099511627776
theorem net_put {w : World} {base x b g N n : Nat} {st : Ben.St} (h : Net w base x b g N n st) (hn : n < maxLen) {p v : Nat} (hp : nd p) (hv : nd v) (r : Int) (hr : ok64 r) :
    ∃ (v0 s1 : Value) (w1 w2 : World), (Instr.mapEntry 109 (.map (some b)) (kv p v)).run Tryd.prog w = .ok (.tuple #[v0, s1]) w1 ∧ (Instr.entryStore 109 (.map (some b)) s1 (.int .i64 r)).run Tryd.prog w1 = .ok () w2 ∧
      Net w1 base x b g N (n + 1) st ∧ w.grownBy w1 (some b) ∧ Net w2 base x b g N (n + 1) ⟨putR st.R p v r, st.next⟩ ∧ w1.grownBy w2 (some b) := by
  obtain ⟨v0, s1, w1, r1, m1, g1, r3⟩ := mp_entry h.map hn hp hv
  obtain ⟨w2, r4, m2, g2⟩ := r3 w1 r hr rfl
  have h1 : Net w1 base x b g N (n + 1) st := h.turned g1 m1
  exact ⟨v0, s1, w1, w2, r1, r4, h1, g1, h1.turned g2 m2, g2⟩
theorem nd_lt {N : Nat} (h : N ≤ 1000) (v : Nat) (hv : v < N) : nd v := by unfold nd; omega
theorem grown_blk {W W1 : World} {r : Option Nat} {g : Nat} {o : Obj} (k : W.grownBy W1 r) (h : W.heap[g]? = some o) (n : some g ≠ r) : W1.heap[g]? = some o := (k.block g (blk_lt h) n).trans h
theorem Net.ne_map {w : World} {base x b g N n : Nat} {st : Ben.St} (h : Net w base x b g N n st) {k t : Nat} {cs : Array Value} {fr : Nat × Nat} (hk : w.heap[k]? = some (.cells cs t fr)) : some k ≠ some b := by
  intro e
  injection e with e
  obtain ⟨es, cl, he⟩ := h.map.isMap
  rw [e, he] at hk
  cases hk
theorem row_map {w w' w0 : World} {base x b g N n g1 t m : Nat} {st : Ben.St} {f : Nat → Value} (h : w.rowIs g1 t m f) (hg : w.grownBy w' (some b)) (hN : Net w0 base x b g N n st) (he : w0.heap = w.heap := by rfl) : w'.rowIs g1 t m f := by
  obtain ⟨c, hb, _⟩ := h
  refine row_grown ⟨c, hb, ‹_›⟩ hg (hN.ne_map (cs := c) (t := t) (fr := (0, 0)) (by rw [he]; exact hb))
theorem below_map {w0 w w' wn : World} {base x b g N n : Nat} {st : Ben.St} (h : Below base w0 w) (hN : Net wn base x b g N n st) (hg : w.grownBy w' (some b)) (he : wn.heap = w.heap := by rfl) : Below base w0 w' :=
  ⟨hg.os.trans h.os, hg.tape.trans h.tape, hg.output.trans h.output, Nat.le_trans h.size hg.size, fun k hk => by
    by_cases e : k < w.heap.size
    · exact (hg.block k e (fun e2 => by injection e2 with e2; have := hN.lb; omega)).trans (h.block k hk)
    · exfalso; have h1 := blk_lt hN.head; have h2 := hN.lx; rw [he] at h1; omega⟩
def pushR.T4 : Bool × List (List Nat × List Nat) := (true, [([], []), ([0], [0]), ([1], [1]), ([2], [2]), ([], []), ([], []), ([4, 5], [4, 5]), ([6], [6]), ([3, 7], [3, 7]), ([8, 0, 1, 2, 3, 4, 5, 6, 7, 8], [8])])
def pushR.B4 : List Nat := [0, 1, 3, 7, 0, 0, 48, 112, 255, 511]
theorem pushR.tab4 : rtab .any (opsOf Tryd.f63 4) = pushR.T4 := by kernel_rfl
theorem pushR.bits4 : waitsOk pushR.T4.2 pushR.B4 = true := by kernel_rfl
def pushR.T13 : Bool × List (List Nat × List Nat) := (true, [([], []), ([0], [0]), ([1], [1]), ([2], [2]), ([], []), ([3, 4], [3, 4]), ([], []), ([5, 6], [5, 6]), ([3, 4, 0, 1, 2, 3, 4, 6], [3, 4]), ([8], [8]), ([3, 9, 7, 8, 0, 1, 2, 3, 4, 5, 6, 7, 8, 9], [3, 7, 9])])
def pushR.B13 : List Nat := [0, 1, 3, 7, 0, 31, 0, 127, 95, 351, 1023]
theorem pushR.tab13 : rtab .any (opsOf Tryd.f63 13) = pushR.T13 := by kernel_rfl
theorem pushR.bits13 : waitsOk pushR.T13.2 pushR.B13 = true := by kernel_rfl
def pushR.T14 : Bool × List (List Nat × List Nat) := (true, [([], []), ([0], [0]), ([1], [1]), ([2], [2]), ([], []), ([3, 4], [3, 4]), ([5], [5])])
def pushR.B14 : List Nat := [0, 1, 3, 7, 0, 31, 63]
theorem pushR.tab14 : rtab .any (opsOf Tryd.f63 14) = pushR.T14 := by kernel_rfl
theorem pushR.bits14 : waitsOk pushR.T14.2 pushR.B14 = true := by kernel_rfl
def pushR.T15 : Bool × List (List Nat × List Nat) := (true, [([], []), ([0], [0]), ([1], [1]), ([2], [2]), ([], []), ([3, 4], [3, 4])])
def pushR.B15 : List Nat := [0, 1, 3, 7, 0, 31]
theorem pushR.tab15 : rtab .any (opsOf Tryd.f63 15) = pushR.T15 := by kernel_rfl
theorem pushR.bits15 : waitsOk pushR.T15.2 pushR.B15 = true := by kernel_rfl
def pushR.T16 : Bool × List (List Nat × List Nat) := (true, [([], []), ([0], [0]), ([1], [1]), ([2], [2]), ([], []), ([4], [4]), ([], []), ([6], [6]), ([5, 7], [5, 7]), ([3, 8], [3, 8]), ([], []), ([9, 10], [9, 10]), ([3, 8, 0, 1, 2, 3, 4, 5, 6, 7, 8, 10], [3, 8]), ([12], [12]), ([3, 13, 11, 12, 0, 1, 2, 3, 4, 5, 6, 7, 8, 9, 10, 11, 12, 13], [3, 11, 13])])
def pushR.B16 : List Nat := [0, 1, 3, 7, 0, 16, 0, 64, 240, 511, 0, 2047, 1535, 5631, 16383]
theorem pushR.tab16 : rtab .any (opsOf Tryd.f63 16) = pushR.T16 := by kernel_rfl
theorem pushR.bits16 : waitsOk pushR.T16.2 pushR.B16 = true := by kernel_rfl
def pushR.T8 : Bool × List (List Nat × List Nat) := (true, [([], []), ([], []), ([1], [1]), ([2], [2]), ([3], [3]), ([], []), ([], []), ([5, 6], [5, 6]), ([7], [7]), ([4, 8], [4, 8]), ([0, 9], [0, 9]), ([10, 0, 1, 2, 3, 4, 5, 6, 7, 8, 9, 10], [0, 10])])
def pushR.B8 : List Nat := [0, 0, 2, 6, 14, 0, 0, 96, 224, 510, 1023, 2047]
theorem pushR.tab8 : rtab .any (opsOf Tryd.f63 8) = pushR.T8 := by kernel_rfl
theorem pushR.bits8 : waitsOk pushR.T8.2 pushR.B8 = true := by kernel_rfl
set_option maxHeartbeats 4000000 in
set_option maxRecDepth 100000 in
theorem push_no (base x b g N n : Nat) (st : Ben.St) (s t : Nat) (w : World) (h : Net w base x b g N n st) (hf : Fit N s t st n) (hno : None_ w) (hp : Ben.waysF N st.R st.next s t = none) :
    Calls Tryd.prog 63 #[.pointer (some ⟨x, 0, none⟩), .int .i64 (s : Int), .int .i64 (t : Int)] w fun e w' => e = .returned (.tuple #[.int .i64 0, .bool false]) ∧ Below w.heap.size w w' := by
  have HF := Aside0.mk hf
  have HO := Aside0.mk hno
  have HP := Aside0.mk hp
  have HW := Aside0.mk (ways_calls base x b g N n st s w h hf.hs hf.hN hf.adj hf.len hno)
  have htI : ((t : Nat) : Int) < ((N : Nat) : Int) := by have := hf.ht; omega
  clear h hf hno hp
  go_enter Tryd.func63, Tryd.ntmps63
  go_wp2_with (first | (go_at_call 69; go_must (refine HW.out.mono ?_); rintro e w1 ⟨g1, rfl, hg1, hw1, hb1⟩; have HG := Aside0.mk hg1; have HWR := Aside0.mk hw1; have HB := Aside0.mk hb1; clear hg1 hw1 hb1))
  obtain ⟨hy0, hy1, _, _⟩ := HWR.out.at HF.out.ht
  obtain ⟨hn0, hn1⟩ := HO.out.below HB.out
  have hB1 : (wayF (Ben.waysF N st.R st.next s) t == -1 && wayT (Ben.waysF N st.R st.next s) t == -1) = true := by rw [way_none, HP.out]; rfl
  generalize wayF (Ben.waysF N st.R st.next s) t = ya at *
  generalize wayT (Ben.waysF N st.R st.next s) t = yb at *
  go_quiet (fail)
  go_wp2
  go_ret2
  exact ⟨rfl, lN HB.out _⟩
def Lim (B : Int) (R : Rm) : Prop := ∀ u v, -B ≤ R u v ∧ R u v ≤ B
theorem Lim.put {B d : Int} {R : Rm} (h : Lim B R) (hd : 0 ≤ d) (x y : Nat) {v : Int} (hv : v = R x y - d ∨ v = R x y + d) : Lim (B + d) (putR R x y v) := by
  intro a c
  unfold putR
  have h1 := h x y
  have h2 := h a c
  split <;> omega
theorem least_cons (R : Rm) (a : Nat × Nat) (l : List (Nat × Nat)) (m : Int) : Ben.least R (a :: l) m = Ben.least R l (min m (R a.1 a.2)) := rfl
set_option maxHeartbeats 8000000 in
set_option maxRecDepth 100000 in
theorem push_yes (base x b g N n : Nat) (st : Ben.St) (s t p0 : Nat) (rk : Nat → Nat) (w : World) (h : Net w base x b g N n st) (hf : Fit N s t st n) (hno : None_ w) (hb : base ≤ w.heap.size) (h0 : 0 < base)
    (hp : Ben.waysF N st.R st.next s t = some p0) (hT : Ben.Tree st.R N s (Ben.waysF N st.R st.next s) rk) :
    Calls Tryd.prog 63 #[.pointer (some ⟨x, 0, none⟩), .int .i64 (s : Int), .int .i64 (t : Int)] w fun e w' =>
      e = .returned (.tuple #[.int .i64 (Ben.least st.R (Ben.path (Ben.waysF N st.R st.next s) s N t) (st.R p0 t)), .bool true]) ∧
      Net w' base x b g N (n + 2 * N) ⟨Ben.along (Ben.least st.R (Ben.path (Ben.waysF N st.R st.next s) s N t) (st.R p0 t)) st.R (Ben.path (Ben.waysF N st.R st.next s) s N t), st.next⟩ ∧ Below base w w' := by
  have hw0 := ways_calls base x b g N n st s w h hf.hs hf.hN hf.adj hf.len hno
  generalize Ben.waysF N st.R st.next s = way at *
  obtain ⟨dd, hdd⟩ : ∃ dd, dd = Ben.least st.R (Ben.path way s N t) (st.R p0 t) := ⟨_, rfl⟩
  rw [← hdd]
  have HDD := Aside0.mk hdd
  have HW := Aside0.mk hw0
  have HD0 : Aside0 (Ben.least st.R (Ben.path way s N t) (st.R p0 t) = dd) := ⟨hdd.symm⟩
  have HF := Aside0.mk hf
  have HO := Aside0.mk hno
  have HP := Aside0.mk hp
  have HTR := Aside0.mk hT
  have HBS := Aside0.mk (show base ≤ w.heap.size ∧ 0 < base from ⟨hb, h0⟩)
  have HN := Aside0.mk h
  have htI : ((t : Nat) : Int) < ((N : Nat) : Int) := by have := hf.ht; omega
  clear h hf hno hp hT hb h0 hw0 hdd
  go_enter Tryd.func63, Tryd.ntmps63
  go_wp2_with (first | (go_at_call 69; go_must (refine HW.out.mono ?_); rintro e w1 ⟨g1, rfl, hg1, hw1, hb1⟩; have HG := Aside0.mk hg1; have HWR := Aside0.mk hw1; have HB := Aside0.mk hb1; clear hg1 hw1 hb1))
  clear HW
  obtain ⟨hy0, hy1, _, _⟩ := HWR.out.at HF.out.ht
  obtain ⟨hn0, hn1⟩ := HO.out.below HB.out
  have hB1 : (wayF way t == -1 && wayT way t == -1) = false := by rw [way_none, HP.out]; rfl
  have e0 : wayF way t = ((p0 : Nat) : Int) := by unfold wayF; rw [HP.out]
  have e1 : wayT way t = ((t : Nat) : Int) := by unfold wayT; rw [HP.out]
  rw [e0] at hy0 hB1
  rw [e1] at hy1 hB1
  clear e0 e1
  go_quiet (fail)
  clear hB1 hn0 hn1
  have hN1 := HN.out.below (lD (lN HB.out nq))
  have hx0 : (w1.drewN nq).drew.cell? ⟨x, 0, none⟩ = some (.map (some b)) := (blk_cell hN1.head 0).trans rfl
  have hNd := Aside0.mk (nd_lt HF.out.hN)
  have hTI := Aside0.mk (show ∀ v, (way v).isSome → v < N from fun v hv => (HTR.out.lt v hv).1)
  have hp0 : p0 < N := by
    by_cases e : t = s
    · have h1 := HTR.out.start
      rw [← e, HP.out] at h1
      injection h1 with h1
      rw [h1]; exact HF.out.ht
    · exact hTI.out p0 (HTR.out.par t p0 e HP.out).2.1
  have hlk := mp_look hN1.map (x := p0) (y := t) (hNd.out _ hp0) (hNd.out _ HF.out.ht)
  unfold kv at hlk
  have hy0 : (w1.drewN nq).drew.cell? ⟨g1, t * 2, none⟩ = some (.int .i64 ((p0 : Nat) : Int)) := hy0
  have hy1 : (w1.drewN nq).drew.cell? ⟨g1, t * 2 + 1, none⟩ = some (.int .i64 ((t : Nat) : Int)) := hy1
  have HWR2 : Aside0 (WayR (w1.drewN nq).drew g1 N way) := ⟨HWR.out⟩
  have HB2 := Aside0.mk (lD (lN HB.out nq))
  clear hp0 hN1
  go_wp2
  refine start_ (n := 10) (S := fun w' => w'.cell? ⟨x, 0, none⟩ = some (.map (some b)) ∧ w'.cell? ⟨g1, t * 2, none⟩ = some (.int .i64 ((p0 : Nat) : Int)) ∧ w'.cell? ⟨g1, t * 2 + 1, none⟩ = some (.int .i64 ((t : Nat) : Int)) ∧ (Instr.lookup 109 (.map (some b)) (.agg #[.int .i64 ((p0 : Nat) : Int), .int .i64 ((t : Nat) : Int)]) false).run Tryd.prog w' = .ok (.int .i64 (st.R p0 t)) w') (ds := []) (Bs 0 10) (by kernel_rfl) rfl rfl ⟨hx0, hy0, hy1, hlk⟩ (fun hHeld => ?_)
  refine with_tabW pushR.tab4 pushR.bits4 (fun HT_ HW_ => ?_)
  refine pu 0 22 (Bs 1 10) HT_ ?_
  refine pu 1 23 (Bs 2 10) HT_ ?_
  refine pu 2 24 (Bs 3 10) HT_ ?_
  refine pu 4 26 #[τ,τ,τ,φ,τ,φ,φ,φ,φ,φ] HT_ ?_
  refine pu 5 27 #[τ,τ,τ,φ,τ,τ,φ,φ,φ,φ] HT_ ?_
  refine pu 6 28 #[τ,τ,τ,φ,τ,τ,τ,φ,φ,φ] HT_ ?_
  refine ta 3 25 (Bs 7 10) HT_ HW_ hHeld ?_
  refine ta 7 29 (Bs 8 10) HT_ HW_ hHeld ?_
  refine ta 8 30 (Bs 9 10) HT_ HW_ hHeld ?_
  refine pu 9 9 (Bs 10 10) HT_ ?_
  refine done_ (done_of HT_.out (by kernel_rfl)) ?_
  generalize (w1.drewN nq).drew = w2 at *
  go_wp2
  have HV0 := Aside0.mk (show (way t).isSome from by rw [HP.out]; rfl)
  have HK0 := Aside0.mk (show rk t ≤ N from Nat.le_of_lt (HTR.out.lt t HV0.out).2)
  clear hx0 hy0 hy1 hlk
  go_loopg [9, 10] N (fun f v9 v10 wr => ∃ (m : Int) (v q : Nat), v9 = .int .i64 m ∧ v10 = .int .i64 ((v : Nat) : Int) ∧ Aside0 ((way v).isSome = true) ∧ Aside0 (rk v ≤ f) ∧ Aside0 (Ben.least st.R (Ben.path way s f v) m = dd) ∧ wr = w2.drewN q)
  case atStart => exact ⟨_, t, 0, rfl, rfl, HV0, HK0, HD0, rfl⟩
  case round =>
    obtain ⟨m, v, q, rfl, rfl, HV, HK, HD, rfl⟩ := hrel
    have HWR3 : Aside0 (WayR (w2.drewN q).drew g1 N way) := ⟨HWR2.out⟩
    have hvN : v < N := hTI.out v HV.out
    by_cases hvs : v = s
    · subst hvs
      have hB : (v != v) = false := by simp
      have HD1 : Aside0 (m = dd) := ⟨by
        have h := HD.out
        cases gk with
        | zero => exact h
        | succ f => unfold Ben.path at h; rw [if_pos rfl] at h; exact h⟩
      have hm := HD1.out
      subst hm
      have HHD : Aside0 (0 ≤ m ∧ m ≤ 1099511627776) := ⟨by
        rw [HDD.out]
        have h1 := (Ben.least_le st.R (Ben.path way v N t) (st.R p0 t)).1
        have h2 := (HF.out.R p0 t).2
        have h3 := Ben.least_pos st.R (Ben.path way v N t) (st.R p0 t) (HTR.out.par t p0 (fun e => HF.out.hst e.symm) HP.out).1 (fun a ha => (Ben.path_mem HTR.out N t HV0.out a ha).1)
        omega⟩
      have HG1 := Aside0.mk (show base ≤ g1 from Nat.le_trans HBS.out.1 HG.out)
      have HNL : Aside0 (Net (w2.drewN q) base x b g N (n + 2 * 0) ⟨st.R, st.next⟩) := ⟨HN.out.below (lN HB2.out q)⟩
      have HWL : Aside0 (WayR (w2.drewN q) g1 N way) := ⟨HWR2.out⟩
      have HBL : Aside0 (Below base w (w2.drewN q)) := ⟨(lN HB2.out q).mono HBS.out.1⟩
      have HLL : Aside0 (Lim (1099511627776 * (1 + 2 * ((0 : Nat) : Int))) st.R) := ⟨fun u v => by have := HF.out.R u v; omega⟩
      clear hvN HD HD1 HK HV HWR3 HD0
      go_wp2
      go_loopg [11] N (fun f v11 wr => ∃ (v' c : Nat) (R' : Rm), v11 = .int .i64 ((v' : Nat) : Int) ∧ Aside0 (c + f = N) ∧ Aside0 ((way v').isSome = true) ∧ Aside0 (rk v' ≤ f) ∧ Aside0 (Ben.along m R' (Ben.path way v f v') = Ben.along m st.R (Ben.path way v N t)) ∧ Aside0 (Lim (1099511627776 * (1 + 2 * (c : Int))) R') ∧ Aside0 (Net wr base x b g N (n + 2 * c) ⟨R', st.next⟩) ∧ Aside0 (WayR wr g1 N way) ∧ Aside0 (Below base w wr))
      case atStart => exact ⟨t, 0, st.R, rfl, ⟨Nat.zero_add _⟩, HV0, HK0, ⟨rfl⟩, HLL, HNL, HWL, HBL⟩
      case round =>
        obtain ⟨v', c, R', rfl, HC, HV, HK, HD, HL, HNR, HWR3, HBR⟩ := hrel
        clear HLL HNL HWL HBL
        obtain ⟨s, hs⟩ : ∃ s, s = v := ⟨_, rfl⟩
        have hvN : v' < N := hTI.out v' HV.out
        by_cases hvs : v' = v
        · subst hvs
          have hB : (v' != v') = false := by simp
          have HE1 : Aside0 (R' = Ben.along m st.R (Ben.path way v' N t)) := ⟨by
            have h := HD.out
            cases gk with
            | zero => exact h
            | succ f =>
              have e : Ben.path way v' (f + 1) v' = [] := by rw [Ben.path, if_pos rfl]
              rw [e] at h
              exact h⟩
          have HNQ : Aside0 (Net wr base x b g N (n + 2 * N) ⟨R', st.next⟩) := ⟨HNR.out.mono (by have := HC.out; omega)⟩
          clear hvN hs
          go_wp2
          go_ret2
          exact ⟨rfl, by rw [← HE1.out]; exact HNQ.out, HBR.out⟩
        · obtain ⟨hw1, hpos, hps, hrk⟩ := HTR.out.step HV.out hvs
          obtain ⟨f, rfl⟩ : ∃ f, gk = f + 1 := ⟨gk - 1, by have := HK.out; omega⟩
          have HD1 : Aside0 (Ben.along m (Ben.arcStep m R' (Ben.par way v', v')) (Ben.path way v f (Ben.par way v')) = Ben.along m st.R (Ben.path way v N t)) := ⟨by
            have h := HD.out
            rw [Ben.path, if_neg hvs] at h
            exact h⟩
          have HK1 : Aside0 (rk (Ben.par way v') ≤ f) := ⟨by have := HK.out; omega⟩
          have HV1 := Aside0.mk hps
          have hB : (v' != v) = true := by simpa using hvs
          have hB2 : (((v' : Nat) : Int) != ((v : Nat) : Int)) = true := by rw [bne_iff_ne]; omega
          have hvI : ((v' : Nat) : Int) < ((N : Nat) : Int) := by omega
          obtain ⟨hy0, hy1, _, _⟩ := HWR3.out.at hvN
          have e0 : wayF way v' = ((Ben.par way v' : Nat) : Int) := by unfold wayF; rw [hw1]
          have e1 : wayT way v' = ((v' : Nat) : Int) := by unfold wayT; rw [hw1]
          rw [e0] at hy0
          rw [e1] at hy1
          clear e0 e1
          have hpN : Ben.par way v' < N := hTI.out _ hps
          have HVN := Aside0.mk (show v' < N ∧ Ben.par way v' < N ∧ v' ≠ Ben.par way v' from ⟨hvN, hpN, fun e => by rw [← e] at hrk; omega⟩)
          have HZF : Aside0 (wayF way v' = ((Ben.par way v' : Nat) : Int)) := ⟨by unfold wayF; rw [hw1]⟩
          have HCF : Aside0 (c + 1 + f = N) := ⟨by have := HC.out; omega⟩
          have HCC := Aside0.mk (show c ≤ 1000 ∧ c + 1 + f = N from ⟨by have := HC.out; have := HF.out.hN; omega, by have := HC.out; omega⟩)
          generalize Ben.par way v' = p at *
          have hz0 : ∀ W, Below wr.heap.size wr W → W.cell? ⟨g1, v' * 2, none⟩ = some (.int .i64 ((p : Nat) : Int)) := fun W hW => cB hW hy0
          have HZ := Aside0.mk hz0
          go_wp2
          clear hy0 hy1 hz0 hB hB2 hvI hw1 hpos hps hrk hvs hvN hpN HD HK HV
          have hbx := heap_alloc_new wr (.cells #[.int .i64 ((p : Nat) : Int), .int .i64 ((v' : Nat) : Int)] 106)
          have HBX := Aside0.mk hbx
          have HN3 := Aside0.mk (HNR.out.below (lA (Below.refl _ _) (.cells #[.int .i64 ((p : Nat) : Int), .int .i64 ((v' : Nat) : Int)] 106)))
          have HW3 := Aside0.mk (row_below HWR3.out (lA (Below.refl _ _) (.cells #[.int .i64 ((p : Nat) : Int), .int .i64 ((v' : Nat) : Int)] 106)))
          have HB3 := Aside0.mk (HBR.out.trans ((lA (Below.refl wr.heap.size wr) (.cells #[.int .i64 ((p : Nat) : Int), .int .i64 ((v' : Nat) : Int)] 106)).mono (Nat.le_trans HBS.out.1 HBR.out.size)))
          have HGB := Aside0.mk (show base ≤ wr.heap.size from Nat.le_trans HBS.out.1 HBR.out.size)
          clear HNR HWR3 HBR hbx
          generalize wr.alloc (.cells #[.int .i64 ((p : Nat) : Int), .int .i64 ((v' : Nat) : Int)] 106) = w3 at *
          generalize wr.heap.size = gb at *
          obtain ⟨rr, hrr⟩ : ∃ r, r = R' p v' := ⟨_, rfl⟩
          have hrl := HL.out p v'
          rw [← hrr] at hrl
          have HRL := Aside0.mk (show -9007199254740992 ≤ rr ∧ rr ≤ 9007199254740992 from by have := HCC.out.1; omega)
          have hwr : IntKind.i64.wrap (rr - m) = rr - m := IntWalk.i64_in _ (by have := HRL.out; have := HHD.out; omega)
          have HPV := Aside0.mk (show nd p ∧ nd v' from ⟨hNd.out _ HVN.out.2.1, hNd.out _ HVN.out.1⟩)
          have HOK := Aside0.mk (show ok64 (rr - m) from by have := HRL.out; have := HHD.out; exact ok64_of (by omega) (by omega))
          have HNM := Aside0.mk (show n + 2 * c + 1 < maxLen from by have := HF.out.n; have := HCC.out.1; unfold maxLen; omega)
          obtain ⟨v0, s1, wE, wS, k1, k2, k3, k4, k5, k6⟩ := net_put (HN3.out.below (below_drew (Below.refl _ _))) (by have := HNM.out; omega) HPV.out.1 HPV.out.2 (rr - m) HOK.out
          have hne := HN3.out.ne_map HBX.out
          have hx0 : w3.drew.cell? ⟨x, 0, none⟩ = some (.map (some b)) := (blk_cell HN3.out.head 0).trans rfl
          have hb0 : w3.drew.cell? ⟨gb, 0, none⟩ = some (.int .i64 ((p : Nat) : Int)) := (blk_cell HBX.out 0).trans rfl
          have hb1 : w3.drew.cell? ⟨gb, 1, none⟩ = some (.int .i64 ((v' : Nat) : Int)) := (blk_cell HBX.out 1).trans rfl
          have hlk := mp_look (HN3.out.below (below_drew (Below.refl _ _))).map HPV.out.1 HPV.out.2
          have hlE := mp_look k3.map HPV.out.1 HPV.out.2
          unfold kv at hlk k1 hlE
          replace hlk : (Instr.lookup 109 (.map (some b)) (.agg #[.int .i64 ((p : Nat) : Int), .int .i64 ((v' : Nat) : Int)]) false).run Tryd.prog w3.drew = .ok (.int .i64 rr) w3.drew := by rw [hrr]; exact hlk
          have hBE : wE.heap[gb]? = some (.cells #[.int .i64 ((p : Nat) : Int), .int .i64 ((v' : Nat) : Int)] 106 (0, 0)) := grown_blk k4 HBX.out hne
          have HBXS : Aside0 (wS.heap[gb]? = some (.cells #[.int .i64 ((p : Nat) : Int), .int .i64 ((v' : Nat) : Int)] 106 (0, 0))) := ⟨grown_blk k6 hBE hne⟩
          have HE := Aside0.mk (show wE.cell? ⟨x, 0, none⟩ = some (.map (some b)) ∧ wE.cell? ⟨gb, 0, none⟩ = some (.int .i64 ((p : Nat) : Int)) ∧ wE.cell? ⟨gb, 1, none⟩ = some (.int .i64 ((v' : Nat) : Int)) ∧
            (Instr.lookup 109 (.map (some b)) (.agg #[.int .i64 ((p : Nat) : Int), .int .i64 ((v' : Nat) : Int)]) false).run Tryd.prog wE = .ok (.int .i64 rr) wE from
            ⟨(blk_cell k3.head 0).trans rfl, (blk_cell hBE 0).trans rfl, (blk_cell hBE 1).trans rfl, by rw [hrr]; exact hlE⟩)
          have hrow := row_map (row_map (show WayR w3.drew g1 N way from HW3.out) k4 HN3.out) k6 k3
          have HWS := Aside0.mk hrow
          have HNS := Aside0.mk k5
          have HBS3 := Aside0.mk (below_map (below_map (below_drew HB3.out) HN3.out k4) k3 k6)
          have HRR := Aside0.mk hrr
          have HNE := Aside0.mk hne
          clear k3 k4 k5 k6 hlE hBE hrow hrr hrl hne HN3 HW3 HB3 HBX
          refine start_ (n := 11) (S := fun w' => w'.cell? ⟨x, 0, none⟩ = some (.map (some b)) ∧ w'.cell? ⟨gb, 0, none⟩ = some (.int .i64 ((p : Nat) : Int)) ∧ w'.cell? ⟨gb, 1, none⟩ = some (.int .i64 ((v' : Nat) : Int)) ∧ (Instr.lookup 109 (.map (some b)) (.agg #[.int .i64 ((p : Nat) : Int), .int .i64 ((v' : Nat) : Int)]) false).run Tryd.prog w' = .ok (.int .i64 (rr)) w') (ds := [10]) (Bs 0 11) (by kernel_rfl) rfl rfl ⟨hx0, hb0, hb1, hlk⟩ (fun hHeld => ?_)
          refine with_tabW pushR.tab13 pushR.bits13 (fun HT_ HW_ => ?_)
          refine pu 0 64 (Bs 1 11) HT_ ?_
          refine pu 1 65 (Bs 2 11) HT_ ?_
          refine pu 2 66 (Bs 3 11) HT_ ?_
          refine pu 6 70 (Br [3,3,1,4]) HT_ ?_
          refine ta 3 67 (Br [4,2,1,4]) HT_ HW_ hHeld ?_
          refine ta 4 68 (Br [5,1,1,4]) HT_ HW_ hHeld ?_
          refine ta 5 69 (Bs 7 11) HT_ HW_ hHeld ?_
          refine pu 7 71 (Bs 8 11) HT_ ?_
          refine one_ (i := 8) (N := some 72) (Bs 9 11) rfl rfl (one_of HT_.out (by kernel_rfl)) (by decide) (fun K hK => ?_)
          refine value_ (w1 := wE) (v := .tuple #[v0, s1]) (by rfl) rfl (by go_simp) ?_
          refine hK.out _ _ ⟨HE.out.1, HE.out.2.1, HE.out.2.2.1, HE.out.2.2.2⟩ (fun hHeld => ?_)
          clear hK K
          refine nm 72 ?_
          refine pu 9 73 (Bs 10 11) HT_ ?_
          refine last_ (i := 10) (N := none) (Bs 11 11) rfl rfl (one_of HT_.out (by kernel_rfl)) (by decide) (fun K hK => ?_)
          refine skip_ (w1 := wS) (by rfl) rfl (by go_simp) ?_
          refine hK.out _ _ ?_
          clear hK K
          refine done_ (done_of HT_.out (by kernel_rfl)) ?_
          clear hx0 hb0 hb1 hlk hwr k1 k2 hHeld HE
          have hx0 : wS.drew.cell? ⟨x, 0, none⟩ = some (.map (some b)) := (blk_cell HNS.out.head 0).trans rfl
          have hb0 : wS.drew.cell? ⟨gb, 0, none⟩ = some (.int .i64 ((p : Nat) : Int)) := (blk_cell HBXS.out 0).trans rfl
          have hb1 : wS.drew.cell? ⟨gb, 1, none⟩ = some (.int .i64 ((v' : Nat) : Int)) := (blk_cell HBXS.out 1).trans rfl
          have hlk := mp_look (HNS.out.below (below_drew (Below.refl _ _))).map HPV.out.1 HPV.out.2
          unfold kv at hlk
          replace hlk : (Instr.lookup 109 (.map (some b)) (.agg #[.int .i64 ((p : Nat) : Int), .int .i64 ((v' : Nat) : Int)]) false).run Tryd.prog wS.drew = .ok (.int .i64 (rr - m)) wS.drew := by
            rw [hlk]
            show Result.ok (Value.int IntKind.i64 (putR R' p v' (rr - m) p v')) _ = _
            rw [Ben.putR_same]
          by_cases hz : rr - m = 0
          · have hzB : (rr - m == 0) = true := by rw [hz]; rfl
            have HDZ := Aside0.mk hz
            clear hz
            go_wp2
            refine start_ (n := 7) (S := fun w' => w'.cell? ⟨x, 0, none⟩ = some (.map (some b)) ∧ w'.cell? ⟨gb, 0, none⟩ = some (.int .i64 ((p : Nat) : Int)) ∧ w'.cell? ⟨gb, 1, none⟩ = some (.int .i64 ((v' : Nat) : Int)) ∧ (Instr.lookup 109 (.map (some b)) (.agg #[.int .i64 ((p : Nat) : Int), .int .i64 ((v' : Nat) : Int)]) false).run Tryd.prog w' = .ok (.int .i64 (rr - m)) w') (ds := []) (Bs 0 7) (by kernel_rfl) rfl rfl ⟨hx0, hb0, hb1, hlk⟩ (fun hHeld => ?_)
            refine with_tabW pushR.tab14 pushR.bits14 (fun HT_ HW_ => ?_)
            refine pu 0 74 (Bs 1 7) HT_ ?_
            refine pu 1 75 (Bs 2 7) HT_ ?_
            refine pu 2 76 (Bs 3 7) HT_ ?_
            refine ta 3 77 (Bs 4 7) HT_ HW_ hHeld ?_
            refine ta 4 78 (Bs 5 7) HT_ HW_ hHeld ?_
            refine ta 5 79 (Bs 6 7) HT_ HW_ hHeld ?_
            refine pu 6 80 (Bs 7 7) HT_ ?_
            refine done_ (done_of HT_.out (by kernel_rfl)) ?_
            clear hx0 hb0 hb1 hlk hHeld hzB
            obtain ⟨w4, hw4⟩ : ∃ w4, w4 = wS.drew := ⟨_, rfl⟩
            rw [← hw4]
            have HN4 := Aside0.mk (show Net w4 base x b g N (n + 2 * c + 1) ⟨putR R' p v' (rr - m), st.next⟩ from by rw [hw4]; exact HNS.out.below (below_drew (Below.refl _ _)))
            have HBX4 := Aside0.mk (show w4.heap[gb]? = some (.cells #[.int .i64 ((p : Nat) : Int), .int .i64 ((v' : Nat) : Int)] 106 (0, 0)) from by rw [hw4]; exact HBXS.out)
            have HW4 := Aside0.mk (show WayR w4 g1 N way from by rw [hw4]; exact HWS.out)
            have HB4 := Aside0.mk (show Below base w w4 from by rw [hw4]; exact below_drew HBS3.out)
            clear hw4 HNS HBXS HWS HBS3
            go_wp2
            obtain ⟨wD, hdl, hmD, hgD⟩ := mp_delete (HN4.out.below (below_drew (Below.refl _ _))).map HPV.out.1 HPV.out.2 (show putR R' p v' (rr - m) p v' = 0 from by rw [Ben.putR_same]; exact HDZ.out) 0
            unfold kv at hdl
            have hx0 : w4.drew.cell? ⟨x, 0, none⟩ = some (.map (some b)) := (blk_cell HN4.out.head 0).trans rfl
            have hb0 : w4.drew.cell? ⟨gb, 0, none⟩ = some (.int .i64 ((p : Nat) : Int)) := (blk_cell HBX4.out 0).trans rfl
            have hb1 : w4.drew.cell? ⟨gb, 1, none⟩ = some (.int .i64 ((v' : Nat) : Int)) := (blk_cell HBX4.out 1).trans rfl
            have HN5 := Aside0.mk ((HN4.out.below (below_drew (Below.refl _ _))).turned hgD hmD)
            have HBX5 := Aside0.mk (grown_blk hgD (show w4.drew.heap[gb]? = _ from HBX4.out) HNE.out)
            have HW5 := Aside0.mk (row_map (show WayR w4.drew g1 N way from HW4.out) hgD HN4.out)
            have HB5 := Aside0.mk (below_map (below_drew HB4.out) HN4.out hgD)
            clear hmD hgD HN4 HBX4 HW4 HB4
            refine start_ (n := 6) (S := fun w' => w'.cell? ⟨x, 0, none⟩ = some (.map (some b)) ∧ w'.cell? ⟨gb, 0, none⟩ = some (.int .i64 ((p : Nat) : Int)) ∧ w'.cell? ⟨gb, 1, none⟩ = some (.int .i64 ((v' : Nat) : Int))) (ds := [5]) (Bs 0 6) (by kernel_rfl) rfl rfl ⟨hx0, hb0, hb1⟩ (fun hHeld => ?_)
            refine with_tabW pushR.tab15 pushR.bits15 (fun HT_ HW_ => ?_)
            refine pu 0 81 (Bs 1 6) HT_ ?_
            refine pu 1 82 (Bs 2 6) HT_ ?_
            refine pu 2 83 (Bs 3 6) HT_ ?_
            refine ta 3 84 (Bs 4 6) HT_ HW_ hHeld ?_
            refine ta 4 85 (Bs 5 6) HT_ HW_ hHeld ?_
            refine last_ (i := 5) (N := none) (Bs 6 6) rfl rfl (one_of HT_.out (by kernel_rfl)) (by decide) (fun K hK => ?_)
            refine event_step (w1 := wD) (v := .tuple #[]) (by rfl) ?_ ?_
            · go_simp
            refine hK.out _ _ ?_
            clear hK K
            refine done_ (done_of HT_.out (by kernel_rfl)) ?_
            clear hx0 hb0 hb1 hdl hHeld
            generalize wD = w5 at *
            have hq : Ben.putR R' p v' (rr - m) v' p = R' v' p := Ben.putR_other (fun e => HVN.out.2.2 e.1)
            obtain ⟨rq, hrq⟩ : ∃ r, r = R' v' p := ⟨_, rfl⟩
            have hrl := HL.out v' p
            rw [← hrq] at hrl
            rw [← hrq] at hq
            have HRL2 := Aside0.mk (show -9007199254740992 ≤ rq ∧ rq ≤ 9007199254740992 from by have := HCC.out.1; omega)
            have hwq : IntKind.i64.wrap (rq + m) = rq + m := IntWalk.i64_in _ (by have := HRL2.out; have := HHD.out; omega)
            have HOK2 := Aside0.mk (show ok64 (rq + m) from by have := HRL2.out; have := HHD.out; exact ok64_of (by omega) (by omega))
            obtain ⟨v0, s1, wE, wS, k1, k2, k3, k4, k5, k6⟩ := net_put (HN5.out.below (below_drew (Below.refl _ _))) HNM.out HPV.out.2 HPV.out.1 (rq + m) HOK2.out
            have hne := HNE.out
            have hx0 : w5.drew.cell? ⟨x, 0, none⟩ = some (.map (some b)) := (blk_cell HN5.out.head 0).trans rfl
            have hb0 : w5.drew.cell? ⟨gb, 0, none⟩ = some (.int .i64 ((p : Nat) : Int)) := (blk_cell HBX5.out 0).trans rfl
            have hb1 : w5.drew.cell? ⟨gb, 1, none⟩ = some (.int .i64 ((v' : Nat) : Int)) := (blk_cell HBX5.out 1).trans rfl
            have hlk := mp_look (HN5.out.below (below_drew (Below.refl _ _))).map HPV.out.2 HPV.out.1
            have hlE := mp_look k3.map HPV.out.2 HPV.out.1
            dsimp only at hlk hlE
            rw [hq] at hlk hlE
            unfold kv at hlk k1 hlE
            have hBE : wE.heap[gb]? = some (.cells #[.int .i64 ((p : Nat) : Int), .int .i64 ((v' : Nat) : Int)] 106 (0, 0)) := grown_blk k4 HBX5.out hne
            have HE := Aside0.mk (show wE.cell? ⟨x, 0, none⟩ = some (.map (some b)) ∧ wE.cell? ⟨gb, 0, none⟩ = some (.int .i64 ((p : Nat) : Int)) ∧ wE.cell? ⟨gb, 1, none⟩ = some (.int .i64 ((v' : Nat) : Int)) ∧
              (Instr.lookup 109 (.map (some b)) (.agg #[.int .i64 ((v' : Nat) : Int), .int .i64 ((p : Nat) : Int)]) false).run Tryd.prog wE = .ok (.int .i64 rq) wE from
              ⟨(blk_cell k3.head 0).trans rfl, (blk_cell hBE 0).trans rfl, (blk_cell hBE 1).trans rfl, hlE⟩)
            have hrow := row_map (row_map (show WayR w5.drew g1 N way from HW5.out) k4 HN5.out) k6 k3
            have HWZ := Aside0.mk hrow
            have HNZ := Aside0.mk k5
            have HBZ := Aside0.mk (below_map (below_map (below_drew HB5.out) HN5.out k4) k3 k6)
            have HRQ := Aside0.mk hrq
            clear k3 k4 k5 k6 hlE hBE hrow hrq hrl hne HN5 HW5 HB5 HBX5 hq
            go_wp2
            refine start_ (n := 15) (S := fun w' => w'.cell? ⟨x, 0, none⟩ = some (.map (some b)) ∧ w'.cell? ⟨gb, 0, none⟩ = some (.int .i64 ((p : Nat) : Int)) ∧ w'.cell? ⟨gb, 1, none⟩ = some (.int .i64 ((v' : Nat) : Int)) ∧ (Instr.lookup 109 (.map (some b)) (.agg #[.int .i64 ((v' : Nat) : Int), .int .i64 ((p : Nat) : Int)]) false).run Tryd.prog w' = .ok (.int .i64 (rq)) w') (ds := [14]) (Bs 0 15) (by kernel_rfl) rfl rfl ⟨hx0, hb0, hb1, hlk⟩ (fun hHeld => ?_)
            refine with_tabW pushR.tab16 pushR.bits16 (fun HT_ HW_ => ?_)
            refine pu 0 86 (Bs 1 15) HT_ ?_
            refine pu 1 87 (Bs 2 15) HT_ ?_
            refine pu 2 88 (Bs 3 15) HT_ ?_
            refine pu 4 90 (Br [3,1,1,10]) HT_ ?_
            refine pu 6 92 (Br [3,1,1,1,1,8]) HT_ ?_
            refine pu 10 96 (Br [3,1,1,1,1,3,1,4]) HT_ ?_
            refine ta 3 89 (Br [5,1,1,3,1,4]) HT_ HW_ hHeld ?_
            refine ta 5 91 (Br [7,3,1,4]) HT_ HW_ hHeld ?_
            refine ta 7 93 (Br [8,2,1,4]) HT_ HW_ hHeld ?_
            refine pu 8 94 (Br [9,1,1,4]) HT_ ?_
            refine ta 9 95 (Bs 11 15) HT_ HW_ hHeld ?_
            refine pu 11 97 (Bs 12 15) HT_ ?_
            refine one_ (i := 12) (N := some 98) (Bs 13 15) rfl rfl (one_of HT_.out (by kernel_rfl)) (by decide) (fun K hK => ?_)
            refine value_ (w1 := wE) (v := .tuple #[v0, s1]) (by rfl) rfl (by go_simp) ?_
            refine hK.out _ _ ⟨HE.out.1, HE.out.2.1, HE.out.2.2.1, HE.out.2.2.2⟩ (fun hHeld => ?_)
            clear hK K
            refine nm 98 ?_
            refine pu 13 99 (Bs 14 15) HT_ ?_
            refine last_ (i := 14) (N := none) (Bs 15 15) rfl rfl (one_of HT_.out (by kernel_rfl)) (by decide) (fun K hK => ?_)
            refine skip_ (w1 := wS) (by rfl) rfl (by go_simp) ?_
            refine hK.out _ _ ?_
            clear hK K
            refine done_ (done_of HT_.out (by kernel_rfl)) ?_
            obtain ⟨hz0, _⟩ := WayR.at HWZ.out HVN.out.1
            rw [HZF.out] at hz0
            clear hx0 hb0 hb1 hlk hwq k1 k2 hHeld
            have HN9 : Aside0 (Net wS base x b g N (n + 2 * (c + 1)) ⟨Ben.arcStep m R' (p, v'), st.next⟩) := ⟨by
              have h := HNZ.out
              have e : Ben.arcStep m R' (p, v') = putR (putR R' p v' (rr - m)) v' p (rq + m) := by
                unfold Ben.arcStep
                rw [← HRR.out, Ben.putR_other (x := p) (y := v') (fun e => HVN.out.2.2 e.1), ← HRQ.out]
              rw [e]
              exact h⟩
            have HL9 : Aside0 (Lim (1099511627776 * (1 + 2 * ((c + 1 : Nat) : Int))) (Ben.arcStep m R' (p, v'))) := ⟨by
              have h1 := HL.out.put HHD.out.1 p v' (v := R' p v' - m) (Or.inl rfl)
              have h2 := h1.put HHD.out.1 v' p (v := putR R' p v' (R' p v' - m) v' p + m) (Or.inr rfl)
              intro a d
              have h3 := h2 a d
              have h4 := HHD.out
              unfold Ben.arcStep
              simp only at h3 ⊢
              omega⟩
            have hvI : ((v' : Nat) : Int) < ((N : Nat) : Int) := by have := HVN.out.1; omega
            go_wp2
            go_roundg f
            case measure => exact Nat.lt_succ_self _
            case rel => exact ⟨p, c + 1, _, rfl, HCF, HV1, HK1, HD1, HL9, HN9, HWZ, HBZ⟩
          · have hzB : (rr - m == 0) = false := by rw [beq_eq_false_iff_ne]; exact hz
            clear hz
            go_wp2
            refine start_ (n := 7) (S := fun w' => w'.cell? ⟨x, 0, none⟩ = some (.map (some b)) ∧ w'.cell? ⟨gb, 0, none⟩ = some (.int .i64 ((p : Nat) : Int)) ∧ w'.cell? ⟨gb, 1, none⟩ = some (.int .i64 ((v' : Nat) : Int)) ∧ (Instr.lookup 109 (.map (some b)) (.agg #[.int .i64 ((p : Nat) : Int), .int .i64 ((v' : Nat) : Int)]) false).run Tryd.prog w' = .ok (.int .i64 (rr - m)) w') (ds := []) (Bs 0 7) (by kernel_rfl) rfl rfl ⟨hx0, hb0, hb1, hlk⟩ (fun hHeld => ?_)
            refine with_tabW pushR.tab14 pushR.bits14 (fun HT_ HW_ => ?_)
            refine pu 0 74 (Bs 1 7) HT_ ?_
            refine pu 1 75 (Bs 2 7) HT_ ?_
            refine pu 2 76 (Bs 3 7) HT_ ?_
            refine ta 3 77 (Bs 4 7) HT_ HW_ hHeld ?_
            refine ta 4 78 (Bs 5 7) HT_ HW_ hHeld ?_
            refine ta 5 79 (Bs 6 7) HT_ HW_ hHeld ?_
            refine pu 6 80 (Bs 7 7) HT_ ?_
            refine done_ (done_of HT_.out (by kernel_rfl)) ?_
            clear hx0 hb0 hb1 hlk hHeld hzB
            obtain ⟨w5, hw4⟩ : ∃ w4, w4 = wS.drew := ⟨_, rfl⟩
            rw [← hw4]
            have HN5 := Aside0.mk (show Net w5 base x b g N (n + 2 * c + 1) ⟨putR R' p v' (rr - m), st.next⟩ from by rw [hw4]; exact HNS.out.below (below_drew (Below.refl _ _)))
            have HBX5 := Aside0.mk (show w5.heap[gb]? = some (.cells #[.int .i64 ((p : Nat) : Int), .int .i64 ((v' : Nat) : Int)] 106 (0, 0)) from by rw [hw4]; exact HBXS.out)
            have HW5 := Aside0.mk (show WayR w5 g1 N way from by rw [hw4]; exact HWS.out)
            have HB5 := Aside0.mk (show Below base w w5 from by rw [hw4]; exact below_drew HBS3.out)
            clear hw4 HNS HBXS HWS HBS3
            have hq : Ben.putR R' p v' (rr - m) v' p = R' v' p := Ben.putR_other (fun e => HVN.out.2.2 e.1)
            obtain ⟨rq, hrq⟩ : ∃ r, r = R' v' p := ⟨_, rfl⟩
            have hrl := HL.out v' p
            rw [← hrq] at hrl
            rw [← hrq] at hq
            have HRL2 := Aside0.mk (show -9007199254740992 ≤ rq ∧ rq ≤ 9007199254740992 from by have := HCC.out.1; omega)
            have hwq : IntKind.i64.wrap (rq + m) = rq + m := IntWalk.i64_in _ (by have := HRL2.out; have := HHD.out; omega)
            have HOK2 := Aside0.mk (show ok64 (rq + m) from by have := HRL2.out; have := HHD.out; exact ok64_of (by omega) (by omega))
            obtain ⟨v0, s1, wE, wS, k1, k2, k3, k4, k5, k6⟩ := net_put (HN5.out.below (below_drew (Below.refl _ _))) HNM.out HPV.out.2 HPV.out.1 (rq + m) HOK2.out
            have hne := HNE.out
            have hx0 : w5.drew.cell? ⟨x, 0, none⟩ = some (.map (some b)) := (blk_cell HN5.out.head 0).trans rfl
            have hb0 : w5.drew.cell? ⟨gb, 0, none⟩ = some (.int .i64 ((p : Nat) : Int)) := (blk_cell HBX5.out 0).trans rfl
            have hb1 : w5.drew.cell? ⟨gb, 1, none⟩ = some (.int .i64 ((v' : Nat) : Int)) := (blk_cell HBX5.out 1).trans rfl
            have hlk := mp_look (HN5.out.below (below_drew (Below.refl _ _))).map HPV.out.2 HPV.out.1
            have hlE := mp_look k3.map HPV.out.2 HPV.out.1
            dsimp only at hlk hlE
            rw [hq] at hlk hlE
            unfold kv at hlk k1 hlE
            have hBE : wE.heap[gb]? = some (.cells #[.int .i64 ((p : Nat) : Int), .int .i64 ((v' : Nat) : Int)] 106 (0, 0)) := grown_blk k4 HBX5.out hne
            have HE := Aside0.mk (show wE.cell? ⟨x, 0, none⟩ = some (.map (some b)) ∧ wE.cell? ⟨gb, 0, none⟩ = some (.int .i64 ((p : Nat) : Int)) ∧ wE.cell? ⟨gb, 1, none⟩ = some (.int .i64 ((v' : Nat) : Int)) ∧
              (Instr.lookup 109 (.map (some b)) (.agg #[.int .i64 ((v' : Nat) : Int), .int .i64 ((p : Nat) : Int)]) false).run Tryd.prog wE = .ok (.int .i64 rq) wE from
              ⟨(blk_cell k3.head 0).trans rfl, (blk_cell hBE 0).trans rfl, (blk_cell hBE 1).trans rfl, hlE⟩)
            have hrow := row_map (row_map (show WayR w5.drew g1 N way from HW5.out) k4 HN5.out) k6 k3
            have HWZ := Aside0.mk hrow
            have HNZ := Aside0.mk k5
            have HBZ := Aside0.mk (below_map (below_map (below_drew HB5.out) HN5.out k4) k3 k6)
            have HRQ := Aside0.mk hrq
            clear k3 k4 k5 k6 hlE hBE hrow hrq hrl hne HN5 HW5 HB5 HBX5 hq
            go_wp2
            refine start_ (n := 15) (S := fun w' => w'.cell? ⟨x, 0, none⟩ = some (.map (some b)) ∧ w'.cell? ⟨gb, 0, none⟩ = some (.int .i64 ((p : Nat) : Int)) ∧ w'.cell? ⟨gb, 1, none⟩ = some (.int .i64 ((v' : Nat) : Int)) ∧ (Instr.lookup 109 (.map (some b)) (.agg #[.int .i64 ((v' : Nat) : Int), .int .i64 ((p : Nat) : Int)]) false).run Tryd.prog w' = .ok (.int .i64 (rq)) w') (ds := [14]) (Bs 0 15) (by kernel_rfl) rfl rfl ⟨hx0, hb0, hb1, hlk⟩ (fun hHeld => ?_)
            refine with_tabW pushR.tab16 pushR.bits16 (fun HT_ HW_ => ?_)
            refine pu 0 86 (Bs 1 15) HT_ ?_
            refine pu 1 87 (Bs 2 15) HT_ ?_
            refine pu 2 88 (Bs 3 15) HT_ ?_
            refine pu 4 90 (Br [3,1,1,10]) HT_ ?_
            refine pu 6 92 (Br [3,1,1,1,1,8]) HT_ ?_
            refine pu 10 96 (Br [3,1,1,1,1,3,1,4]) HT_ ?_
            refine ta 3 89 (Br [5,1,1,3,1,4]) HT_ HW_ hHeld ?_
            refine ta 5 91 (Br [7,3,1,4]) HT_ HW_ hHeld ?_
            refine ta 7 93 (Br [8,2,1,4]) HT_ HW_ hHeld ?_
            refine pu 8 94 (Br [9,1,1,4]) HT_ ?_
            refine ta 9 95 (Bs 11 15) HT_ HW_ hHeld ?_
            refine pu 11 97 (Bs 12 15) HT_ ?_
            refine one_ (i := 12) (N := some 98) (Bs 13 15) rfl rfl (one_of HT_.out (by kernel_rfl)) (by decide) (fun K hK => ?_)
            refine value_ (w1 := wE) (v := .tuple #[v0, s1]) (by rfl) rfl (by go_simp) ?_
            refine hK.out _ _ ⟨HE.out.1, HE.out.2.1, HE.out.2.2.1, HE.out.2.2.2⟩ (fun hHeld => ?_)
            clear hK K
            refine nm 98 ?_
            refine pu 13 99 (Bs 14 15) HT_ ?_
            refine last_ (i := 14) (N := none) (Bs 15 15) rfl rfl (one_of HT_.out (by kernel_rfl)) (by decide) (fun K hK => ?_)
            refine skip_ (w1 := wS) (by rfl) rfl (by go_simp) ?_
            refine hK.out _ _ ?_
            clear hK K
            refine done_ (done_of HT_.out (by kernel_rfl)) ?_
            obtain ⟨hz0, _⟩ := WayR.at HWZ.out HVN.out.1
            rw [HZF.out] at hz0
            clear hx0 hb0 hb1 hlk hwq k1 k2 hHeld
            have HN9 : Aside0 (Net wS base x b g N (n + 2 * (c + 1)) ⟨Ben.arcStep m R' (p, v'), st.next⟩) := ⟨by
              have h := HNZ.out
              have e : Ben.arcStep m R' (p, v') = putR (putR R' p v' (rr - m)) v' p (rq + m) := by
                unfold Ben.arcStep
                rw [← HRR.out, Ben.putR_other (x := p) (y := v') (fun e => HVN.out.2.2 e.1), ← HRQ.out]
              rw [e]
              exact h⟩
            have HL9 : Aside0 (Lim (1099511627776 * (1 + 2 * ((c + 1 : Nat) : Int))) (Ben.arcStep m R' (p, v'))) := ⟨by
              have h1 := HL.out.put HHD.out.1 p v' (v := R' p v' - m) (Or.inl rfl)
              have h2 := h1.put HHD.out.1 v' p (v := putR R' p v' (R' p v' - m) v' p + m) (Or.inr rfl)
              intro a d
              have h3 := h2 a d
              have h4 := HHD.out
              unfold Ben.arcStep
              simp only at h3 ⊢
              omega⟩
            have hvI : ((v' : Nat) : Int) < ((N : Nat) : Int) := by have := HVN.out.1; omega
            go_wp2
            go_roundg f
            case measure => exact Nat.lt_succ_self _
            case rel => exact ⟨p, c + 1, _, rfl, HCF, HV1, HK1, HD1, HL9, HN9, HWZ, HBZ⟩
    · obtain ⟨hw1, hpos, hps, hrk⟩ := HTR.out.step HV.out hvs
      obtain ⟨f, rfl⟩ : ∃ f, gk = f + 1 := ⟨gk - 1, by have := HK.out; omega⟩
      have HD1 : Aside0 (Ben.least st.R (Ben.path way s f (Ben.par way v)) (min m (st.R (Ben.par way v) v)) = dd) := ⟨by
        have h := HD.out
        unfold Ben.path at h
        rw [if_neg hvs, least_cons] at h
        exact h⟩
      have HK1 : Aside0 (rk (Ben.par way v) ≤ f) := ⟨by have := HK.out; omega⟩
      have HV1 := Aside0.mk hps
      have hB : (v != s) = true := by simpa using hvs
      have hB2 : (((v : Nat) : Int) != ((s : Nat) : Int)) = true := by rw [bne_iff_ne]; omega
      have hvI : ((v : Nat) : Int) < ((N : Nat) : Int) := by omega
      obtain ⟨hy0, hy1, _, _⟩ := HWR3.out.at hvN
      have e0 : wayF way v = ((Ben.par way v : Nat) : Int) := by unfold wayF; rw [hw1]
      have e1 : wayT way v = ((v : Nat) : Int) := by unfold wayT; rw [hw1]
      rw [e0] at hy0
      rw [e1] at hy1
      have hN1 := HN.out.below (lD (lN HB2.out q))
      have hx0 : (w2.drewN q).drew.cell? ⟨x, 0, none⟩ = some (.map (some b)) := (blk_cell hN1.head 0).trans rfl
      have hlk := mp_look hN1.map (x := Ben.par way v) (y := v) (hNd.out _ (hTI.out _ hps)) (hNd.out _ hvN)
      unfold kv at hlk
      have hz0 : w2.cell? ⟨g1, v * 2, none⟩ = some (.int .i64 ((Ben.par way v : Nat) : Int)) := hy0
      generalize Ben.par way v = p at *
      replace hlk : (Instr.lookup 109 (.map (some b)) (.agg #[.int .i64 ((p : Nat) : Int), .int .i64 ((v : Nat) : Int)]) false).run Tryd.prog (w2.drewN q).drew = .ok (.int .i64 (st.R p v)) (w2.drewN q).drew := hlk
      generalize st.R p v = rr at *
      clear hw1 hpos hps hrk e0 e1 hN1 hvs hvN HD HK HV
      go_wp2
      refine start_ (n := 12) (S := fun w' => w'.cell? ⟨x, 0, none⟩ = some (.map (some b)) ∧ w'.cell? ⟨g1, v * 2, none⟩ = some (.int .i64 ((p : Nat) : Int)) ∧ w'.cell? ⟨g1, v * 2 + 1, none⟩ = some (.int .i64 ((v : Nat) : Int)) ∧ (Instr.lookup 109 (.map (some b)) (.agg #[.int .i64 ((p : Nat) : Int), .int .i64 ((v : Nat) : Int)]) false).run Tryd.prog w' = .ok (.int .i64 (rr)) w') (ds := []) (Bs 0 12) (by kernel_rfl) rfl rfl ⟨hx0, hy0, hy1, hlk⟩ (fun hHeld => ?_)
      refine with_tabW pushR.tab8 pushR.bits8 (fun HT_ HW_ => ?_)
      refine pu 0 40 (Bs 1 12) HT_ ?_
      refine pu 1 41 (Bs 2 12) HT_ ?_
      refine pu 2 42 (Bs 3 12) HT_ ?_
      refine pu 3 43 (Bs 4 12) HT_ ?_
      refine pu 5 45 (Br [4,1,1,6]) HT_ ?_
      refine pu 6 46 (Br [4,1,2,5]) HT_ ?_
      refine pu 7 47 (Br [4,1,3,4]) HT_ ?_
      refine ta 4 44 (Bs 8 12) HT_ HW_ hHeld ?_
      refine ta 8 48 (Bs 9 12) HT_ HW_ hHeld ?_
      refine ta 9 49 (Bs 10 12) HT_ HW_ hHeld ?_
      refine pu 10 50 (Bs 11 12) HT_ ?_
      refine pu 11 9 (Bs 12 12) HT_ ?_
      refine done_ (done_of HT_.out (by kernel_rfl)) ?_
      go_wp2
      all_goals
        go_roundg f
        case measure => exact Nat.lt_succ_self _
        case rel => exact ⟨_, p, q + 1, rfl, rfl, HV1, HK1, ⟨by have h := HD1.out; first | (rw [Int.min_eq_left (by omega)] at h; exact h) | (rw [Int.min_eq_right (by omega)] at h; exact h)⟩, rfl⟩
end Go.Proofs.YtmnhcbaocoofoaaDoor.P
namespace Go.Proofs.YtmnhcbaocoofoaaDoor.P
open Go.RowKit YtmnhcbaocoofoaaDoorW.PrintWords YtmnhcbaocoofoaaDoorW.PrintLast YtmnhcbaocoofoaaDoorW.PrintMore
open Go.Proofs.YtmnhcbaocoofoaaDoor.Ben (Rm putR addF)
structure FitF (N s t : Nat) (next : Nat → List Nat) (cap : Rm) (F n : Nat) : Prop where
  hs : s < N
  ht : t < N
  hst : s ≠ t
  hN : N ≤ 1000
  adj : ∀ v u, v < N → u ∈ next v → u < N
  len : ∀ j, (next j).length ≤ 100000
  capb : ∀ u v, 0 ≤ cap u v ∧ cap u v ≤ 1073741824
  F : Ben.sumN (fun u => cap s u) N < F ∧ F ≤ 100000000
  n : n ≤ 1000000
theorem FitF.fit {N s t : Nat} {next : Nat → List Nat} {cap : Rm} {F n c : Nat} (h : FitF N s t next cap F n) {R : Rm} {sum : Int} (hfl : Ben.Flow cap next N s t R sum) (hc : c ≤ F) : Fit N s t ⟨R, next⟩ (n + 2000 * c) :=
  ⟨h.hs, h.ht, h.hst, h.hN, h.adj, h.len, fun u v => by
    have h1 := hfl.nonneg u v
    have h2 := hfl.nonneg v u
    have h3 := hfl.skew u v
    have h4 := h.capb u v
    have h5 := h.capb v u
    show 0 ≤ R u v ∧ R u v ≤ _
    omega, by have := h.n; have := h.F.2; omega⟩
set_option maxHeartbeats 4000000 in
set_option maxRecDepth 100000 in
theorem fill_calls (base x b g N n F : Nat) (next : Nat → List Nat) (R0 cap : Rm) (s t : Nat) (w : World) (h : Net w base x b g N n ⟨R0, next⟩) (hf : FitF N s t next cap F n) (hfl : Ben.Flow cap next N s t R0 0) (hno : None_ w) (hb : base ≤ w.heap.size) (h0 : 0 < base) :
    Calls Tryd.prog 44 #[.pointer (some ⟨x, 0, none⟩), .int .i64 (s : Int), .int .i64 (t : Int)] w fun e w' =>
      e = .returned (.int .i64 (Ben.fillF N next s t F R0 0).1) ∧ Net w' base x b g N (n + 2000 * F) ⟨(Ben.fillF N next s t F R0 0).2, next⟩ ∧ Below base w w' := by
  have HF := Aside0.mk hf
  have HO := Aside0.mk hno
  have HBS := Aside0.mk (show base ≤ w.heap.size ∧ 0 < base from ⟨hb, h0⟩)
  have HN0 : Aside0 (Net w base x b g N (n + 2000 * 0) ⟨R0, next⟩) := ⟨h⟩
  have HFL := Aside0.mk hfl
  have HB0 := Aside0.mk (Below.refl base w)
  obtain ⟨E, hE⟩ : ∃ E, E = Ben.fillF N next s t F R0 0 := ⟨_, rfl⟩
  rw [← hE]
  have HE0 : Aside0 (Ben.fillF N next s t F R0 0 = E) := ⟨hE.symm⟩
  have HS0 : Aside0 (Ben.sumN (fun u => cap s u) N - 0 < F) := ⟨by have := hf.F.1; omega⟩
  clear h hf hfl hno hb h0 hE
  go_enter Tryd.func44, Tryd.ntmps44
  go_wp2
  go_loopg [7] F (fun f v7 wr => ∃ (R' : Rm) (sum : Int) (c : Nat), v7 = .int .i64 sum ∧ Aside0 (c + f = F) ∧ Aside0 (Ben.fillF N next s t f R' sum = E) ∧ Aside0 (Ben.Flow cap next N s t R' sum) ∧ Aside0 (Ben.sumN (fun u => cap s u) N - sum < f) ∧ Aside0 (0 ≤ sum) ∧ Aside0 (Net wr base x b g N (n + 2000 * c) ⟨R', next⟩) ∧ Aside0 (Below base w wr))
  case atStart => exact ⟨R0, 0, 0, rfl, ⟨Nat.zero_add _⟩, HE0, HFL, HS0, ⟨Int.le_refl _⟩, HN0, HB0⟩
  case round =>
    obtain ⟨R', sum, c, rfl, HC, HE, HFL, HS, HP, HN, HB⟩ := hrel
    clear HE0 HS0 HN0 HB0
    have hle := HFL.out.sum_le
    obtain ⟨f, rfl⟩ : ∃ f, gk = f + 1 := ⟨gk - 1, by have := HS.out; omega⟩
    have HFT := Aside0.mk (HF.out.fit HFL.out (c := c) (by have := HC.out; omega))
    have HOW := Aside0.mk (HO.out.since HB.out HBS.out.2)
    have HBW := Aside0.mk (show base ≤ wr.heap.size from Nat.le_trans HBS.out.1 HB.out.size)
    have hinv := Ben.ways_inv (R := R') HF.out.adj HF.out.hs
    obtain ⟨rk, hrk⟩ := Ben.ways_tree hinv
    cases hw : Ben.waysF N R' next s t with
    | none =>
      have HPN := Aside0.mk (push_no base x b g N (n + 2000 * c) ⟨R', next⟩ s t wr HN.out HFT.out HOW.out hw)
      have HEE : Aside0 (E = (sum, R')) := ⟨by
        rw [← HE.out, Ben.fillF, Ben.pushF]
        simp only [hw]⟩
      clear hw hinv hrk hle
      go_wp2_with (first | (go_at_call 63; go_must (refine HPN.out.mono ?_); rintro e w1 ⟨rfl, hb1⟩; have HB1 := Aside0.mk hb1; clear hb1))
      go_ret
      refine ⟨by rw [HEE.out]; rfl, ?_, ?_⟩
      · rw [HEE.out]
        exact (HN.out.below HB1.out).mono (by have := HC.out; omega)
      · exact HB.out.trans (HB1.out.mono HBW.out)
    | some p0 =>
      have HPY := Aside0.mk (push_yes base x b g N (n + 2000 * c) ⟨R', next⟩ s t p0 rk wr HN.out HFT.out HOW.out HBW.out HBS.out.2 hw hrk)
      obtain ⟨d, hd⟩ : ∃ d, d = Ben.least R' (Ben.path (Ben.waysF N R' next s) s N t) (R' p0 t) := ⟨_, rfl⟩
      obtain ⟨R2, hR2⟩ : ∃ R2, R2 = Ben.along d R' (Ben.path (Ben.waysF N R' next s) s N t) := ⟨_, rfl⟩
      have hpf : Ben.pushF N R' next s t = some (d, R2) := by
        rw [Ben.pushF]
        simp only [hw]
        rw [hR2, hd]
      obtain ⟨hdp, hfl2⟩ := HFL.out.push HF.out.adj HF.out.hs HF.out.hst hpf
      have HE2 : Aside0 (Ben.fillF N next s t f R2 (sum + d) = E) := ⟨by
        rw [← HE.out]
        show _ = Ben.fillF N next s t (f + 1) R' sum
        rw [Ben.fillF, hpf]⟩
      have HFL2 := Aside0.mk hfl2
      have hle2 := hfl2.sum_le
      have HS2 : Aside0 (Ben.sumN (fun u => cap s u) N - (sum + d) < f) := ⟨by have := HS.out; omega⟩
      have HP2 : Aside0 (0 ≤ sum + d) := ⟨by have := HP.out; omega⟩
      have HC2 : Aside0 (c + 1 + f = F) := ⟨by have := HC.out; omega⟩
      have HPZ : Aside0 (Calls Tryd.prog 63 #[.pointer (some ⟨x, 0, none⟩), .int .i64 (s : Int), .int .i64 (t : Int)] wr fun e w' => e = .returned (.tuple #[.int .i64 d, .bool true]) ∧ Net w' base x b g N (n + 2000 * c + 2 * N) ⟨R2, next⟩ ∧ Below base wr w') := ⟨by
        have hz := HPY.out
        dsimp only at hz
        rw [← hd, ← hR2] at hz
        exact hz⟩
      have hsum : 0 ≤ sum + d ∧ sum + d ≤ 100000000 := by have := HP2.out; have := HF.out.F; omega
      have hs0 : 0 ≤ sum := HP.out
      have hs1 : sum + d ≤ 100000000 := hsum.2
      have hs2 : 0 ≤ d := Int.le_of_lt hdp
      clear hw hinv hrk hle hd hR2 hpf hfl2 hle2 HPY hsum hdp
      go_wp2_with (first | (go_at_call 63; go_must (refine HPZ.out.mono ?_); rintro e w1 ⟨rfl, hn1, hb1⟩; have HN1 := Aside0.mk hn1; have HB1 := Aside0.mk hb1; clear hn1 hb1))
      go_roundg f
      case measure => exact Nat.lt_succ_self _
      case rel => exact ⟨R2, sum + d, c + 1, rfl, HC2, HE2, HFL2, HS2, HP2, ⟨HN1.out.mono (by have := HF.out.hN; omega)⟩, ⟨HB.out.trans HB1.out⟩⟩
end Go.Proofs.YtmnhcbaocoofoaaDoor.P
namespace Go.Proofs.YtmnhcbaocoofoaaDoor.P
open Go.RowKit YtmnhcbaocoofoaaDoorW.PrintWords
open Go.Proofs.YtmnhcbaocoofoaaDoor.Ben (Rm putR addF Tk St)
structure TaskOk (B : Int) (js : List S40) : Prop where
  b : 1 ≤ B ∧ B ≤ 8
  m : js.length ≤ 32
  job : ∀ k, k < js.length → 0 ≤ (gJ js k).ready ∧ (gJ js k).ready < (gJ js k).due ∧ (gJ js k).due ≤ 1048576 ∧ 1 ≤ (gJ js k).work ∧ (gJ js k).work ≤ 1048576
def tk (B : Int) (js : List S40) : Tk := Ben.tkW B js.length (gJ js)
def cuL (js : List S40) : List Int := Ben.cutsW (gJ js) js.length
theorem tk_m (B : Int) (js : List S40) : (tk B js).m = js.length := rfl
theorem tk_B (B : Int) (js : List S40) : (tk B js).B = B := rfl
theorem tk_g (B : Int) (js : List S40) (k : Nat) : (tk B js).g k = gJ js k := rfl
theorem tk_K (B : Int) (js : List S40) : (tk B js).K = (cuL js).length - 1 := rfl
theorem sp_len (B : Int) (js : List S40) : (spL (cuL js)).length = (tk B js).K := by unfold spL; rw [spUp_len]; rfl
theorem TaskOk.jobs {B : Int} {js : List S40} (h : TaskOk B js) : Ben.JobsOk B js.length (gJ js) 1048576 := ⟨h.b.1, fun k hk => ⟨(h.job k hk).1, (h.job k hk).2.1, (h.job k hk).2.2.1, (h.job k hk).2.2.2.1⟩⟩
theorem TaskOk.good {B : Int} {js : List S40} (h : TaskOk B js) : (tk B js).Good := Ben.tkW_good h.jobs
theorem TaskOk.K {B : Int} {js : List S40} (h : TaskOk B js) : (tk B js).K ≤ 63 := by
  have h1 := Ben.tkW_K B js.length (gJ js)
  have := h.m
  show (Ben.tkW B js.length (gJ js)).K ≤ 63
  omega
theorem TaskOk.cut {B : Int} {js : List S40} (h : TaskOk B js) {i : Nat} (hi : i ≤ (tk B js).K) (hK : 0 < (tk B js).K) : (cuL js).getD i 0 = (((tk B js).at_ i : Nat) : Int) ∧ (((tk B js).at_ i : Nat) : Int) ≤ 1048576 := by
  rw [tk_K B js] at hi hK
  obtain ⟨h0, h1, h2⟩ := (Ben.cutsW_is (gJ js) js.length).at_ h.jobs (i := i) (show i < (cuL js).length by omega)
  refine ⟨h2.symm, ?_⟩
  have e : (((tk B js).at_ i : Nat) : Int) = (cuL js).getD i 0 := h2
  rw [e]
  exact h1
theorem TaskOk.sp {B : Int} {js : List S40} (h : TaskOk B js) {i : Nat} (hi : i < (tk B js).K) : (spL (cuL js)).getD i z34 = ⟨(((tk B js).at_ i : Nat) : Int), (((tk B js).at_ (i + 1) : Nat) : Int)⟩ := by
  have hl := sp_len B js
  rw [List.getD_eq_getElem?_getD, List.getElem?_eq_getElem (by omega), Option.getD_some]
  rw [← (h.cut (i := i) (by omega) (by omega)).1, ← (h.cut (i := i + 1) (by omega) (by omega)).1]
  simp [spL, spUp]
theorem TaskOk.len {B : Int} {js : List S40} (h : TaskOk B js) {i : Nat} (hi : i < (tk B js).K) : 1 ≤ (tk B js).len i ∧ (tk B js).len i ≤ 1048576 := by
  refine ⟨h.good.len_pos hi, ?_⟩
  have := (h.cut (i := i + 1) (by omega) (by omega)).2
  unfold Ben.Tk.len
  omega
def NbL (st : St) (q : Nat) : Prop := ∀ j, (st.next j).length ≤ q
theorem NbL.mono {st : St} {q q' : Nat} (h : NbL st q) (hq : q ≤ q') : NbL st q' := fun j => Nat.le_trans (h j) hq
theorem NbL.add {st : St} {q : Nat} (h : NbL st q) (v u : Nat) (r : Int) : NbL (addF st v u r) (q + 2) := fun j => by
  show (Ben.putL (Ben.putL st.next v u) u v j).length ≤ _
  unfold Ben.putL
  have h1 := h j
  have h2 := h v
  have h3 := h u
  by_cases e1 : j = u
  · by_cases e2 : u = v
    · subst e1; subst e2; simp; omega
    · subst e1; simp [e2]; omega
  · by_cases e2 : j = v
    · subst e2; simp [e1]; omega
    · simp [e1, e2]; omega
theorem nb_I (t : Tk) (k : Nat) {st : St} {q : Nat} (h : NbL st q) : ∀ i, NbL (Ben.netI t k st i) (q + 2 * i)
  | 0 => h
  | i + 1 => by
    unfold Ben.netI
    split
    · exact (nb_I t k h i).add _ _ _
    · exact (nb_I t k h i).mono (by omega)
theorem nb_K (t : Tk) : ∀ k, NbL (Ben.netK t k) (k * (2 * t.K + 2))
  | 0 => fun j => by simp [Ben.netK]
  | k + 1 => by
    unfold Ben.netK
    refine (nb_I t k ((nb_K t k).add _ _ _) t.K).mono ?_
    have := Nat.add_one_mul k (2 * t.K + 2)
    omega
theorem nb_L (t : Tk) : ∀ i, NbL (Ben.netL t i) (t.m * (2 * t.K + 2) + 2 * i)
  | 0 => nb_K t t.m
  | i + 1 => by
    unfold Ben.netL
    exact (nb_L t i).add _ _ _
def wkS (js : List S40) (k : Nat) : Int := Ben.sumN (fun k => (gJ js k).work) k
theorem TaskOk.wk {B : Int} {js : List S40} (h : TaskOk B js) : ∀ k, k ≤ js.length → 0 ≤ wkS js k ∧ wkS js k ≤ k * 1048576
  | 0, _ => by simp [wkS, Ben.sumN]
  | k + 1, hk => by
    have h1 := h.wk k (by omega)
    have h2 := h.job k (by omega)
    have e : wkS js (k + 1) = wkS js k + (gJ js k).work := rfl
    rw [e]
    omega
structure Prb (B0 : Nat) (w : World) (p x b g base n : Nat) (B : Int) (A : Option Addr) (c : Nat) (js : List S40) (AP : Option Addr) (cp : Nat) (wk : Int) (st : St) : Prop where
  pb : Pb w p B A js.length c (.pointer (some ⟨x, 0, none⟩)) (.slice AP (tk B js).K cp) wk
  low : p < base
  cut : ∃ wS, Kd.C k34 wS AP (tk B js).K (spL (cuL js)) ∧ Below wS.heap.size wS w ∧ wS.heap.size ≤ p ∧ B0 ≤ wS.heap.size
  net : Net w base x b g ((tk B js).last + 1) n st
theorem Prb.step {B0 : Nat} {w w' : World} {p x b g base n n' : Nat} {B : Int} {A : Option Addr} {c : Nat} {js : List S40} {AP : Option Addr} {cp : Nat} {wk : Int} {st st' : St} (h : Prb B0 w p x b g base n B A c js AP cp wk st)
    (hn : Net w' base x b g ((tk B js).last + 1) n' st') (hb : Below base w w') : Prb B0 w' p x b g base n' B A c js AP cp wk st' := by
  obtain ⟨wS, h1, h2, h3, h4⟩ := h.cut
  exact ⟨h.pb.below hb h.low, h.low, ⟨wS, h1, h2.trans (hb.mono (by have := h.low; omega)), h3, h4⟩, hn⟩
theorem Prb.below {B0 : Nat} {w w' : World} {p x b g base n : Nat} {B : Int} {A : Option Addr} {c : Nat} {js : List S40} {AP : Option Addr} {cp : Nat} {wk : Int} {st : St} (h : Prb B0 w p x b g base n B A c js AP cp wk st)
    (hb : Below w.heap.size w w') : Prb B0 w' p x b g base n B A c js AP cp wk st := by
  obtain ⟨wS, h1, h2, h3, h4⟩ := h.cut
  have hlt := h.pb.lt
  exact ⟨h.pb.below hb hlt, h.low, ⟨wS, h1, h2.trans (hb.mono (by omega)), h3, h4⟩, h.net.below hb⟩
theorem Prb.span {B0 : Nat} {w : World} {p x b g base n : Nat} {B : Int} {A : Option Addr} {c : Nat} {js : List S40} {AP : Option Addr} {cp : Nat} {wk : Int} {st : St} (h : Prb B0 w p x b g base n B A c js AP cp wk st) (ht : TaskOk B js) {i : Nat} (hi : i < (tk B js).K) :
    ∃ ad, AP = some ad ∧ w.cell? (ad.add (i * 2)) = some (.int .i64 (((tk B js).at_ i : Nat) : Int)) ∧ w.cell? ⟨(ad.add (i * 2)).block, (ad.add (i * 2)).off + 1, none⟩ = some (.int .i64 (((tk B js).at_ (i + 1) : Nat) : Int)) := by
  obtain ⟨wS, h1, h2, _⟩ := h.cut
  obtain ⟨ad, e, c0, c1⟩ := at_T34 h1 (i : Int) (by omega) (by omega)
  unfold rd_T34 at c0 c1
  rw [Int.toNat_natCast, ht.sp hi] at c0 c1
  exact ⟨ad, e, cB h2 c0, cB h2 c1⟩
end Go.Proofs.YtmnhcbaocoofoaaDoor.P
namespace Go.Proofs.YtmnhcbaocoofoaaDoor.P
open Go.RowKit YtmnhcbaocoofoaaDoorW.PrintWords YtmnhcbaocoofoaaDoorW.PrintLast YtmnhcbaocoofoaaDoorW.PrintMore
open Go.Proofs.YtmnhcbaocoofoaaDoor.Ben (Rm putR addF Tk St)
theorem add_at {base x b g N n : Nat} {st : St} {v u : Nat} {r : Int} {W : World} (h : Net W base x b g N n st) (hv : v < N) (hu : u < N) (hN : N ≤ 1000) (hn : n ≤ 1000000) (h0 : -9223372036854775808 ≤ r) (h1 : r ≤ 9223372036854775807) (hl : NbL st 100000) (v' : Int) (hv' : v' = (v : Int)) :
    Calls Tryd.prog 59 #[.pointer (some ⟨x, 0, none⟩), .int .i64 v', .int .i64 (u : Int), .int .i64 r] W fun e w' => e = .returned (.tuple #[]) ∧ Net w' base x b g N (n + 1) (addF st v u r) ∧ Below base W w' ∧ Oth W w' := by
  subst hv'
  exact add_calls base x b g N n st v u r W h hv hu hN (by unfold maxLen; omega) (ok64_of h0 h1) hl (by have := h.lx; have := blk_lt h.head; omega)
theorem len_at {a b r : Int} {W : World} (h : wrap64 (b - a) = r) : Calls Tryd.prog 62 #[.agg #[.int .i64 a, .int .i64 b]] W fun e w' => e = .returned (.int .i64 r) ∧ Below W.heap.size W w' :=
  bench_span_length.calls a b r W (by rw [← h]; rfl)
theorem last_at {p : Nat} {B : Int} {A Ap : Option Addr} {m c K cp L : Nat} {vx : Value} {wk : Int} (hm : m ≤ 10000) (hK : K ≤ 10000) (hL : L = 1 + m + K) {w : World} (hp : Pb w p B A m c vx (.slice Ap K cp) wk) : Calls Tryd.prog 45 #[.pointer (some ⟨p, 0, none⟩)] w fun e w' => e = .returned (.int .i64 ((L : Nat) : Int)) ∧ Below w.heap.size w w' := by
  subst hL
  exact last_calls p hm hK w hp
theorem span_at {wS W : World} {AP : Option Addr} {Kn : Nat} {B : Int} {js : List S40} (hC : Kd.C k34 wS AP Kn (spL (cuL js))) (hB : Below wS.heap.size wS W) (ht : TaskOk B js) (hK : Kn = (tk B js).K) {i : Nat} (hi : i < Kn) :
    ∃ ad, AP = some ad ∧ W.cell? (ad.add (i * 2)) = some (.int .i64 (((tk B js).at_ i : Nat) : Int)) ∧ W.cell? ⟨(ad.add (i * 2)).block, (ad.add (i * 2)).off + 1, none⟩ = some (.int .i64 (((tk B js).at_ (i + 1) : Nat) : Int)) := by
  subst hK
  obtain ⟨ad, e, c0, c1⟩ := at_T34 hC (i : Int) (by omega) (by omega)
  unfold rd_T34 at c0 c1
  rw [Int.toNat_natCast, ht.sp hi] at c0 c1
  exact ⟨ad, e, cB hB c0, cB hB c1⟩
theorem job_l {p k jn : Nat} (hk : k ≤ 10000) (hj : jn = 1 + k) (w : World) : Calls Tryd.prog 60 #[.pointer (some ⟨p, 0, none⟩), .int .i64 (k : Int)] w fun e w' => e = .returned (.int .i64 ((jn : Nat) : Int)) ∧ Below w.heap.size w w' := by
  subst hj
  exact job_calls p k hk w
theorem part_l {p k pn : Nat} (hk : k ≤ 10000) {B : Int} {A : Option Addr} {m c : Nat} {vx vp : Value} {wk : Int} (hm : m ≤ 10000) (hpn : pn = 1 + m + k) {w : World} (hp : Pb w p B A m c vx vp wk) : Calls Tryd.prog 61 #[.pointer (some ⟨p, 0, none⟩), .int .i64 (k : Int)] w fun e w' => e = .returned (.int .i64 ((pn : Nat) : Int)) ∧ Below w.heap.size w w' := by
  subst hpn
  exact part_calls p k hk hm w hp
def PrbE (B0 : Nat) (w : World) (p : Nat) (B : Int) (A : Option Addr) (c : Nat) (js : List S40) (st : St) : Prop := ∃ x b g base n AP cp, n ≤ 10000 ∧ Prb B0 w p x b g base n B A c js AP cp (wkS js js.length) st
theorem small_mul {k q a b : Nat} (h1 : k ≤ a) (h2 : q ≤ b) : k * q ≤ a * b := Nat.mul_le_mul h1 h2
def newR.T1 : Bool × List (List Nat × List Nat) := (true, [([], []), ([], []), ([1], [1]), ([0, 2], [0, 2]), ([3], [3]), ([4, 2, 0, 1, 2, 3, 4], [4])])
def newR.B1 : List Nat := [0, 0, 2, 7, 15, 31]
theorem newR.tab1 : rtab .any (opsOf Tryd.f43 1) = newR.T1 := by kernel_rfl
theorem newR.bits1 : waitsOk newR.T1.2 newR.B1 = true := by kernel_rfl
def newR.T6 : Bool × List (List Nat × List Nat) := (true, [([], []), ([0], [0]), ([1], [1]), ([2], [2]), ([], []), ([], []), ([4, 5], [4, 5]), ([], []), ([7], [7]), ([3, 6, 8, 6], [3, 6, 8])])
def newR.B6 : List Nat := [0, 1, 3, 7, 0, 0, 48, 0, 128, 511]
theorem newR.tab6 : rtab .any (opsOf Tryd.f43 6) = newR.T6 := by kernel_rfl
theorem newR.bits6 : waitsOk newR.T6.2 newR.B6 = true := by kernel_rfl
def newR.T7 : Bool × List (List Nat × List Nat) := (true, [([], []), ([0], [0]), ([1], [1]), ([2], [2]), ([], []), ([4], [4]), ([3, 5], [3, 5]), ([0, 0, 1, 2, 3, 4, 5, 6], [0]), ([7, 0, 1, 2, 3, 4, 5, 6], [7]), ([8, 6, 0, 1, 2, 3, 4, 5, 6], [6, 8])])
def newR.B7 : List Nat := [0, 1, 3, 7, 0, 16, 63, 127, 255, 511]
theorem newR.tab7 : rtab .any (opsOf Tryd.f43 7) = newR.T7 := by kernel_rfl
theorem newR.bits7 : waitsOk newR.T7.2 newR.B7 = true := by kernel_rfl
def newR.T12 : Bool × List (List Nat × List Nat) := (true, [([], []), ([0], [0]), ([1], [1]), ([2], [2]), ([], []), ([], []), ([4, 5], [4, 5]), ([], []), ([], []), ([7, 8, 6], [7, 8]), ([], []), ([10, 9], [10]), ([3, 6, 9, 11, 11], [3, 6, 9, 11])])
def newR.B12 : List Nat := [0, 1, 3, 7, 0, 0, 48, 0, 0, 496, 0, 2032, 4095]
theorem newR.tab12 : rtab .any (opsOf Tryd.f43 12) = newR.T12 := by kernel_rfl
theorem newR.bits12 : waitsOk newR.T12.2 newR.B12 = true := by kernel_rfl
def newR.T18 : Bool × List (List Nat × List Nat) := (true, [([], []), ([0], [0]), ([1], [1]), ([2], [2]), ([], []), ([], []), ([4, 5], [4, 5]), ([], []), ([7, 6], [7]), ([], []), ([9], [9]), ([], []), ([11, 8], [11]), ([10, 12], [10, 12]), ([3, 6, 8, 13, 12], [3, 6, 8, 13])])
def newR.B18 : List Nat := [0, 1, 3, 7, 0, 0, 48, 0, 240, 0, 512, 0, 2544, 8176, 16383]
theorem newR.tab18 : rtab .any (opsOf Tryd.f43 18) = newR.T18 := by kernel_rfl
theorem newR.bits18 : waitsOk newR.T18.2 newR.B18 = true := by kernel_rfl
set_option maxHeartbeats 16000000 in
set_option maxRecDepth 100000 in
theorem newp_calls (B : Int) (A : Option Addr) (c : Nat) (js : List S40) (w : World) (hr : Kd.C k40 w A js.length js) (ht : TaskOk B js) :
    Calls Tryd.prog 43 #[.agg #[.int .i64 B, .slice A js.length c]] w fun e w' => ∃ p, e = .returned (.pointer (some ⟨p, 0, none⟩)) ∧ PrbE w.heap.size w' p B A c js (Ben.netF (tk B js)) ∧ Below w.heap.size w w' := by
  have HR := Aside0.mk hr
  have HT := Aside0.mk ht
  have HB := Aside0.mk (Below.refl w.heap.size w)
  have HSP := Aside0.mk (fun W (hb : Below w.heap.size w W) => spans_calls B A c js W (Kd.C_below hr hb) (by have := ht.m; omega))
  have hmI : ((js.length : Nat) : Int) ≤ 32 := by have := ht.m; omega
  obtain ⟨Kn, hK⟩ : ∃ Kn, Kn = (tk B js).K := ⟨_, rfl⟩
  have HK := Aside0.mk hK
  have hKI : ((Kn : Nat) : Int) ≤ 63 := by have := ht.K; omega
  obtain ⟨L, hL⟩ : ∃ L, L = 1 + js.length + Kn := ⟨_, rfl⟩
  have HL := Aside0.mk hL
  obtain ⟨N, hN⟩ : ∃ N, N = L + 1 := ⟨_, rfl⟩
  have HNN := Aside0.mk hN
  have hLN : ((L : Nat) : Int) + 1 = ((N : Nat) : Int) := by omega
  have hN0 : ((N : Nat) : Int) ≤ 1000 := by omega
  have HMB := Aside0.mk (show js.length ≤ 32 ∧ Kn ≤ 63 ∧ 1 ≤ B ∧ B ≤ 8 from ⟨by omega, by omega, ht.b.1, ht.b.2⟩)
  have HSL := Aside0.mk (show (spL (cuL js)).length = Kn from by rw [hK]; exact sp_len B js)
  have hu55 := Tryd.underlying55
  have hu40 := Tryd.underlying40
  have hu97 := Tryd.underlying97
  have hu79 := Tryd.underlying79
  clear hr ht hK hL hN
  go_enter Tryd.func43, Tryd.ntmps43
  go_wp2_with (first | ((with_reducible refine gate_dst (N := 1) rfl ?_); refine bxe 1 #[.int .i64 B, .slice A js.length c] 55 ?_; intro gt hgt w1 hbox1 hb1; have HX := Aside0.mk hbox1; have HB1 := Aside0.mk (below_step HB.out hb1); clear hgt hbox1 hb1))
  have hx0 : w1.drew.cell? ⟨gt, 0, none⟩ = some (.int .i64 B) := (blk_cell HX.out 0).trans rfl
  have hx1 : w1.drew.cell? ⟨gt, 1, none⟩ = some (.slice A js.length c) := (blk_cell HX.out 1).trans rfl
  have HXD := Aside0.mk (kD HX.out)
  have HBD := Aside0.mk (below_drew HB1.out)
  clear HX HB1 HB
  refine start_ (n := 6) (S := fun w' => w'.cell? ⟨gt, 0, none⟩ = some (.int .i64 B) ∧ w'.cell? ⟨gt, 1, none⟩ = some (.slice A js.length c)) (ds := [4]) (Bs 0 6) (by kernel_rfl) rfl rfl ⟨hx0, hx1⟩ (fun hHeld => ?_)
  generalize w1.drew = w4 at HXD HBD hx0 hx1 hHeld ⊢
  refine with_tabW newR.tab1 newR.bits1 (fun HT_ HW_ => ?_)
  refine ta 0 10 (Bs 1 6) HT_ HW_ hHeld ?_
  refine ta 1 11 (Bs 2 6) HT_ HW_ hHeld ?_
  refine one_ (i := 2) (N := some 12) (Bs 3 6) rfl rfl (one_of HT_.out (by kernel_rfl)) (by decide) (fun K hK => ?_)
  refine goes_ Tryd.func57 (by kernel_rfl) rfl #[.agg #[.int .i64 B, .slice A js.length c]] (by rfl) rfl rfl (by (try simp only [List.map_toArray, List.map_cons, List.map_nil]); first | done | rfl) ?_
  refine (HSP.out _ HBD.out).mono ?_
  rintro e wS ⟨vS, rfl, hrS, hbS⟩
  obtain ⟨AP, cp, rfl⟩ := Kd.R_slice hrS
  have HCS := Aside0.mk (Kd.R_reads' hrS).2.2
  rw [show Ben.cutsW (gJ js) js.length = cuL js from rfl, HSL.out] at HCS ⊢
  have HXS := Aside0.mk ((hbS.block _ (blk_lt HXD.out)).trans HXD.out)
  have HBS0 := Aside0.mk (HBD.out.trans (hbS.mono HBD.out.size))
  refine ⟨_, rfl, ?_⟩
  refine hK.out _ _ ⟨cB hbS hx0, cB hbS hx1⟩ (fun hHeld => ?_)
  clear hK K
  refine nm 12 ?_
  refine pu 3 13 (Bs 4 6) HT_ ?_
  refine last_ (i := 4) (N := some 14) (Bs 5 6) rfl rfl (one_of HT_.out (by kernel_rfl)) (by decide) (fun K hK => ?_)
  have hpb := heap_alloc_new wS (.cells #[.int .i64 B, .slice A js.length c, .pointer none, .slice AP Kn cp, .int .i64 0] 79)
  have hb5 := below_alloc (Below.refl wS.heap.size wS) (.cells #[.int .i64 B, .slice A js.length c, .pointer none, .slice AP Kn cp, .int .i64 0] 79)
  refine value_ (w1 := wS.alloc (.cells #[.int .i64 B, .slice A js.length c, .pointer none, .slice AP Kn cp, .int .i64 0] 79)) (v := .pointer (some ⟨wS.heap.size, 0, none⟩)) (by rfl) rfl (by go_simp) ?_
  generalize wS.alloc (.cells #[.int .i64 B, .slice A js.length c, .pointer none, .slice AP Kn cp, .int .i64 0] 79) = w5 at hpb hb5 ⊢
  obtain ⟨p, hp⟩ : ∃ p, p = wS.heap.size := ⟨_, rfl⟩
  rw [← hp] at hpb ⊢
  have HP5 : Aside0 (Pb w5 p B A js.length c (.pointer none) (.slice AP Kn cp) 0) := ⟨hpb⟩
  have HB5 := Aside0.mk hb5
  have HPW := Aside0.mk (Nat.le_of_eq hp.symm)
  clear hpb hb5 hp
  refine hK.out _ _ ?_
  clear hK K
  refine nm 14 ?_
  refine pu 5 3 (Bs 6 6) HT_ ?_
  refine done_ (done_of HT_.out (by kernel_rfl)) ?_
  clear hx0 hx1 HXD HBD hHeld
  go_wp2_with (first
    | (go_at_call 45; go_must (refine (last_at (by have := HMB.out; omega) (by have := HMB.out; omega) HL.out HP5.out).mono ?_); rintro e w6 ⟨rfl, hb6⟩; have HP6 := Aside0.mk (HP5.out.below hb6 HP5.out.lt); have HB6 := Aside0.mk (HB5.out.trans (hb6.mono HB5.out.size)); clear hb6)
    | (go_at_call 58; go_must (refine (new_calls N (by omega) _).mono ?_); rintro e w7 ⟨x, b, g, rfl, hn7, hb7⟩; have HBS := Aside0.mk HP6.out.lt; have HP7 := Aside0.mk (HP6.out.below hb7 HP6.out.lt); have HB7 := Aside0.mk (HB6.out.trans (hb7.mono HB6.out.size)); have HN7 := Aside0.mk hn7; obtain ⟨base, hbase⟩ : ∃ base, base = w6.heap.size := ⟨_, rfl⟩; rw [← hbase] at HBS HN7; clear hn7 hb7 hbase; obtain ⟨c0, c1, c2, c3, c4, f⟩ := HP7.out.at; have f2 := f 2; clear f; have hgt1 : w7.cell? ⟨gt, 1, none⟩ = some (.slice A js.length c) := (blk_cell ((HB7.out.block _ (blk_lt HXS.out)).trans HXS.out) 1).trans rfl; have hne : gt ≠ p := by have := blk_lt HXS.out; have := HPW.out; omega))
  have HP8 : Aside0 (Pb (w7.setCell ⟨p, 2, none⟩ (.pointer (some ⟨x, 0, none⟩))) p B A js.length c (.pointer (some ⟨x, 0, none⟩)) (.slice AP Kn cp) (wkS js 0)) := ⟨blk_set HP7.out 2 _⟩
  have HN8 : Aside0 (Net (w7.setCell ⟨p, 2, none⟩ (.pointer (some ⟨x, 0, none⟩))) base x b g N (0 * (Kn + 1)) (Ben.netK (tk B js) 0)) := ⟨by
    rw [Nat.zero_mul]
    exact HN7.out.kept (fun k hk _ => Below.heap_setCell _ _ _ k (by have := HBS.out; show k ≠ p; omega))⟩
  have HB8 : Aside0 (Below wS.heap.size wS (w7.setCell ⟨p, 2, none⟩ (.pointer (some ⟨x, 0, none⟩)))) := ⟨Below.setCell HB7.out HPW.out _⟩
  clear HP5 HP6 HP7 HN7 HB5 HB6 HB7 c0 c1 c2 c3 c4 f2 hgt1 HSP
  go_loopw [25] (fun v25 wr => ∃ k : Nat, v25 = .int .i64 (k : Int) ∧ Aside0 (k ≤ js.length) ∧ Aside0 (Pb wr p B A js.length c (.pointer (some ⟨x, 0, none⟩)) (.slice AP Kn cp) (wkS js k)) ∧ Aside0 (Net wr base x b g N (k * (Kn + 1)) (Ben.netK (tk B js) k)) ∧ Aside0 (Below wS.heap.size wS wr)) (fun v25 _ => js.length - (intOf v25).toNat)
  case atStart => exact ⟨0, rfl, ⟨Nat.zero_le _⟩, HP8, HN8, HB8⟩
  case round =>
    obtain ⟨k, rfl, HKL, HPk, HNk, HBk⟩ := hrel
    clear HP8 HN8 HB8
    by_cases hlt : k < js.length
    · have hltI : ((k : Nat) : Int) < ((js.length : Nat) : Int) := by omega
      have HBw := Aside0.mk (HBS0.out.trans (HBk.out.mono HBS0.out.size))
      obtain ⟨ad, rfl, hj0, hj1, hj2⟩ := job_at HR.out HBw.out k hlt
      have hjb := HT.out.job k hlt
      have HJB := Aside0.mk hjb
      have HWS := Aside0.mk (HT.out.wk k (by omega))
      have hkI : ((k : Nat) : Int) ≤ 32 := by omega
      have HKB := Aside0.mk (show k ≤ 10000 by omega)
      have HM1 := Aside0.mk (show js.length ≤ 10000 by omega)
      have HV0 := Aside0.mk (show 0 < N by have := HNN.out; omega)
      obtain ⟨jn, hjn⟩ : ∃ jn, jn = 1 + k := ⟨_, rfl⟩
      have HJN := Aside0.mk hjn
      have HU0 := Aside0.mk (show jn < N by have := HNN.out; have := HL.out; omega)
      clear hjn
      have HN1 := Aside0.mk (show N ≤ 1000 by omega)
      have HNQ := Aside0.mk (show k * (Kn + 1) ≤ 2048 by have := small_mul (k := k) (a := 32) (q := Kn + 1) (b := 64) (by omega) (by omega); omega)
      have HNB := Aside0.mk (show k * (Kn + 1) ≤ 1000000 by have := HNQ.out; omega)
      have HW0 := Aside0.mk (show -9223372036854775808 ≤ (gJ js k).work by omega)
      have HW1 := Aside0.mk (show (gJ js k).work ≤ 9223372036854775807 by omega)
      have HNK := Aside0.mk (show NbL (Ben.netK (tk B js) k) 10000 from (nb_K (tk B js) k).mono (by rw [← HK.out]; have := small_mul (k := k) (a := 32) (q := 2 * Kn + 2) (b := 128) (by omega) (by omega); omega))
      have HNL := Aside0.mk (HNK.out.mono (show 10000 ≤ 100000 by omega))
      have HWK := Aside0.mk (show wrap64 (wkS js k + (gJ js k).work) = wkS js (k + 1) by have hz := HWS.out; rw [w64i (by omega) (by omega)]; rfl)
      clear hjb
      go_wp2_with (first | ((with_reducible refine gate_dst (N := 5) rfl ?_); refine bxe 5 #[.int .i64 0, .int .i64 0, .int .i64 0] 40 ?_; intro gj hggj w3 hbox3 hb3; have HX3 := Aside0.mk hbox3; have HG3 := Aside0.mk (show wr.heap.size ≤ gj by rw [hggj]; exact Nat.le_refl _); have HBr := Aside0.mk hb3; have c0 : w3.cell? ⟨gj, 0, none⟩ = some (.int .i64 0) := (blk_cell HX3.out 0).trans rfl; have f0 := blk_frozen HX3.out 0; have c1 : w3.cell? ⟨gj, 1, none⟩ = some (.int .i64 0) := (blk_cell HX3.out 1).trans rfl; have f1 := blk_frozen HX3.out 1; have c2 : w3.cell? ⟨gj, 2, none⟩ = some (.int .i64 0) := (blk_cell HX3.out 2).trans rfl; have f2 := blk_frozen HX3.out 2; clear hggj hbox3 hb3))
      have HJ4 : Aside0 ((((w3.setCell ⟨gj, 0, none⟩ (.int .i64 (gJ js k).ready)).setCell ⟨gj, 1, none⟩ (.int .i64 (gJ js k).due)).setCell ⟨gj, 2, none⟩ (.int .i64 (gJ js k).work)).heap[gj]? = some (.cells #[.int .i64 (gJ js k).ready, .int .i64 (gJ js k).due, .int .i64 (gJ js k).work] 40 (0, 0))) :=
        ⟨blk_put (cs := #[.int .i64 (gJ js k).ready, .int .i64 (gJ js k).due, .int .i64 0]) (blk_put (cs := #[.int .i64 (gJ js k).ready, .int .i64 0, .int .i64 0]) (blk_put (cs := #[.int .i64 0, .int .i64 0, .int .i64 0]) HX3.out 0 _ rfl) 1 _ rfl) 2 _ rfl⟩
      have HBr4 : Aside0 (Below wr.heap.size wr (((w3.setCell ⟨gj, 0, none⟩ (.int .i64 (gJ js k).ready)).setCell ⟨gj, 1, none⟩ (.int .i64 (gJ js k).due)).setCell ⟨gj, 2, none⟩ (.int .i64 (gJ js k).work))) := ⟨Below.setCell (Below.setCell (Below.setCell HBr.out HG3.out _) HG3.out _) HG3.out _⟩
      clear c0 c1 c2 f0 f1 f2 hj0 hj1 hj2
      generalize ((w3.setCell ⟨gj, 0, none⟩ (.int .i64 (gJ js k).ready)).setCell ⟨gj, 1, none⟩ (.int .i64 (gJ js k).due)).setCell ⟨gj, 2, none⟩ (.int .i64 (gJ js k).work) = w4 at HJ4 HBr4 ⊢
      have HPD := Aside0.mk ((HPk.out.below HBr4.out HPk.out.lt).below (below_drew (Below.refl _ _)) (HPk.out.below HBr4.out HPk.out.lt).lt)
      have HND := Aside0.mk ((HNk.out.below HBr4.out).below (below_drew (Below.refl _ _)))
      have HBD := Aside0.mk (below_drew (HBk.out.trans (HBr4.out.mono HBk.out.size)))
      have HJD := Aside0.mk (kD HJ4.out)
      have hpj : gj ≠ p := by have := HPk.out.lt; have := HG3.out; omega
      have hxp := HPD.out.at.2.2.1
      have hgw : w4.drew.cell? ⟨gj, 2, none⟩ = some (.int .i64 (gJ js k).work) := (blk_cell HJD.out 2).trans rfl
      clear HPk HNk HBk HBw HBr HBr4 HX3 HJ4
      refine start_ (n := 10) (S := fun w' => w'.cell? ⟨p, 2, none⟩ = some (.pointer (some ⟨x, 0, none⟩)) ∧ w'.cell? ⟨gj, 2, none⟩ = some (.int .i64 (gJ js k).work)) (ds := [9]) (Bs 0 10) (by kernel_rfl) rfl rfl ⟨hxp, hgw⟩ (fun hHeld => ?_)
      generalize w4.drew = w5 at HPD HND HBD HJD hxp hgw hHeld ⊢
      refine with_tabW newR.tab6 newR.bits6 (fun HT_ HW_ => ?_)
      refine pu 0 30 (Bs 1 10) HT_ ?_
      refine pu 1 31 (Bs 2 10) HT_ ?_
      refine pu 2 32 (Bs 3 10) HT_ ?_
      refine pu 4 34 (Br [3,1,1,5]) HT_ ?_
      refine pu 5 35 (Br [3,1,2,4]) HT_ ?_
      refine pu 7 37 (Br [3,1,2,1,1,2]) HT_ ?_
      refine ta 3 33 (Br [6,1,1,2]) HT_ HW_ hHeld ?_
      refine ta 8 38 (Br [6,1,2,1]) HT_ HW_ hHeld ?_
      refine one_ (i := 6) (N := some 36) (Bs 9 10) rfl rfl (one_of HT_.out (by kernel_rfl)) (by decide) (fun K hK => ?_)
      refine goes_ Tryd.func60 (by kernel_rfl) rfl #[.pointer (some ⟨p, 0, none⟩), .int .i64 ((k : Nat) : Int)] (by rfl) rfl rfl (by (try simp only [List.map_toArray, List.map_cons, List.map_nil]); first | done | rfl) ?_
      refine (job_l HKB.out HJN.out _).mono ?_
      rintro e w6 ⟨rfl, hb6⟩
      have HP6 := Aside0.mk (HPD.out.below hb6 HPD.out.lt)
      have HN6 := Aside0.mk (HND.out.below hb6)
      have HB6 := Aside0.mk (HBD.out.trans (hb6.mono HBD.out.size))
      have HJ6 := Aside0.mk ((hb6.block _ (blk_lt HJD.out)).trans HJD.out)
      refine ⟨_, rfl, ?_⟩
      refine hK.out _ _ ⟨cB hb6 hxp, cB hb6 hgw⟩ (fun hHeld => ?_)
      clear hK K
      refine nm 36 ?_
      refine last_ (i := 9) (N := some 39) (Bs 10 10) rfl rfl (one_of HT_.out (by kernel_rfl)) (by decide) (fun K hK => ?_)
      refine goes_ Tryd.func59 (by kernel_rfl) rfl #[.pointer (some ⟨x, 0, none⟩), .int .i64 0, .int .i64 ((jn : Nat) : Int), .int .i64 (gJ js k).work] (by rfl) rfl rfl (by (try simp only [List.map_toArray, List.map_cons, List.map_nil]); first | done | rfl) ?_
      refine (add_at (v := 0) HN6.out HV0.out HU0.out HN1.out HNB.out HW0.out HW1.out HNL.out 0 rfl).mono ?_
      rintro e w7 ⟨rfl, hn7, hb7, ho7⟩
      have HN7 := Aside0.mk hn7
      have HP7 := Aside0.mk (HP6.out.below hb7 HBS.out)
      have HB7 := Aside0.mk (HB6.out.trans (hb7.mono (by have := HBS.out; have := HPW.out; omega)))
      have HJ7 := Aside0.mk ((ho7 gj _ 40 HJ6.out (by decide) (by decide)).trans HJ6.out)
      clear hn7 hb7 ho7
      refine ⟨_, rfl, ?_⟩
      refine hK.out _ _ ?_
      clear hK K
      refine nm 39 ?_
      refine done_ (done_of HT_.out (by kernel_rfl)) ?_
      clear hxp hgw hHeld HPD HND HBD HJD HP6 HN6 HB6 HJ6
      go_wp2
      have HPD := Aside0.mk (HP7.out.below (below_drew (Below.refl _ _)) HP7.out.lt)
      have HND := Aside0.mk (HN7.out.below (below_drew (Below.refl _ _)))
      have HBD := Aside0.mk (below_drew HB7.out)
      have HJD := Aside0.mk (kD HJ7.out)
      have hp4 := HPD.out.at.2.2.2.2.1
      have hpf := HPD.out.at.2.2.2.2.2 4
      have hgw : w7.drew.cell? ⟨gj, 2, none⟩ = some (.int .i64 (gJ js k).work) := (blk_cell HJD.out 2).trans rfl
      clear HP7 HN7 HB7 HJ7
      refine start_ (n := 10) (S := fun w' => w'.cell? ⟨p, 4, none⟩ = some (.int .i64 (wkS js k)) ∧ w'.cell? ⟨gj, 2, none⟩ = some (.int .i64 (gJ js k).work)) (ds := [9]) (Bs 0 10) (by kernel_rfl) rfl rfl ⟨hp4, hgw⟩ (fun hHeld => ?_)
      generalize w7.drew = w8 at HPD HND HBD HJD hp4 hpf hgw hHeld ⊢
      refine with_tabW newR.tab7 newR.bits7 (fun HT_ HW_ => ?_)
      refine pu 0 40 (Bs 1 10) HT_ ?_
      refine pu 1 41 (Bs 2 10) HT_ ?_
      refine pu 2 42 (Bs 3 10) HT_ ?_
      refine pu 4 44 (Br [3,1,1,5]) HT_ ?_
      refine ta 3 43 (Bs 5 10) HT_ HW_ hHeld ?_
      refine ta 5 45 (Bs 6 10) HT_ HW_ hHeld ?_
      refine pu 6 46 (Bs 7 10) HT_ ?_
      refine pu 7 47 (Bs 8 10) HT_ ?_
      refine pu 8 48 (Bs 9 10) HT_ ?_
      refine last_ (i := 9) (N := none) (Bs 10 10) rfl rfl (one_of HT_.out (by kernel_rfl)) (by decide) (fun K hK => ?_)
      refine skip_ (w1 := w8.setCell ⟨p, 4, none⟩ (.int .i64 (wrap64 (wkS js k + (gJ js k).work)))) (by rfl) rfl (by go_simp) ?_
      refine hK.out _ _ ?_
      clear hK K
      refine done_ (done_of HT_.out (by kernel_rfl)) ?_
      have HP9 : Aside0 (Pb (w8.setCell ⟨p, 4, none⟩ (.int .i64 (wrap64 (wkS js k + (gJ js k).work)))) p B (some ad) js.length c (.pointer (some ⟨x, 0, none⟩)) (.slice AP Kn cp) (wkS js (k + 1))) := ⟨by rw [← HWK.out]; exact blk_set HPD.out 4 _⟩
      have HN9 := Aside0.mk (HND.out.kept (w' := w8.setCell ⟨p, 4, none⟩ (.int .i64 (wrap64 (wkS js k + (gJ js k).work)))) (fun k hk _ => Below.heap_setCell _ _ _ k (by have := HBS.out; show k ≠ p; omega)))
      have HB9 := Aside0.mk (Below.setCell (p := ⟨p, 4, none⟩) HBD.out HPW.out (.int .i64 (wrap64 (wkS js k + (gJ js k).work))))
      have HJ9 : Aside0 ((w8.setCell ⟨p, 4, none⟩ (.int .i64 (wrap64 (wkS js k + (gJ js k).work)))).heap[gj]? = _) := ⟨(Below.heap_setCell _ _ _ gj hpj).trans HJD.out⟩
      clear hp4 hpf hgw hHeld HPD HND HBD HJD HWK
      generalize w8.setCell ⟨p, 4, none⟩ (.int .i64 (wrap64 (wkS js k + (gJ js k).work))) = w9 at HP9 HN9 HB9 HJ9 ⊢
      have hp3 := HP9.out.at.2.2.2.1
      obtain ⟨st1, hst1⟩ : ∃ st1, st1 = addF (Ben.netK (tk B js) k) 0 (1 + k) (gJ js k).work := ⟨_, rfl⟩
      have HST := Aside0.mk hst1
      have HNS := Aside0.mk (show NbL st1 20000 by rw [hst1]; exact (HNK.out.add _ _ _).mono (by omega))
      have HN10 : Aside0 (Net w9 base x b g N (k * (Kn + 1) + 1 + 0) (Ben.netI (tk B js) k st1 0)) := ⟨by rw [hst1, ← HJN.out]; exact HN9.out⟩
      clear hst1 HN9 HNL HNK
      go_wp2
      go_loopw [54] (fun v54 wr => ∃ i : Nat, v54 = .int .i64 (i : Int) ∧ Aside0 (i ≤ Kn) ∧ Aside0 (Pb wr p B (some ad) js.length c (.pointer (some ⟨x, 0, none⟩)) (.slice AP Kn cp) (wkS js (k + 1))) ∧ Aside0 (Net wr base x b g N (k * (Kn + 1) + 1 + i) (Ben.netI (tk B js) k st1 i)) ∧ Aside0 (Below wS.heap.size wS wr) ∧ Aside0 (wr.heap[gj]? = some (.cells #[.int .i64 (gJ js k).ready, .int .i64 (gJ js k).due, .int .i64 (gJ js k).work] 40 (0, 0)))) (fun v54 _ => Kn - (intOf v54).toNat)
      case atStart => exact ⟨0, rfl, ⟨Nat.zero_le _⟩, HP9, HN10, HB9, HJ9⟩
      case round =>
        obtain ⟨i, rfl, HIL, HPi, HNi, HBi, HJi⟩ := hrel
        clear HP9 HN10 HB9 HJ9 hp3
        by_cases hit : i < Kn
        · have hitI : ((i : Nat) : Int) < ((Kn : Nat) : Int) := by omega
          obtain ⟨ad2, rfl, hs0, hs1⟩ := span_at HCS.out HBi.out HT.out HK.out hit
          have hln := HT.out.len (i := i) (by rw [← HK.out]; exact hit)
          obtain ⟨ln, hlne⟩ : ∃ ln, ln = (tk B js).len i := ⟨_, rfl⟩
          have HOK : Aside0 ((tk B js).ok k i = (decide ((gJ js k).ready ≤ (((tk B js).at_ i : Nat) : Int)) && decide ((((tk B js).at_ (i + 1) : Nat) : Int) ≤ (gJ js k).due))) := ⟨rfl⟩
          have hlr : (((tk B js).at_ (i + 1) : Nat) : Int) - (((tk B js).at_ i : Nat) : Int) = ln := by rw [hlne]; rfl
          rw [← hlne] at hln
          have HLNE := Aside0.mk hlne
          have HLN := Aside0.mk hln
          clear hlne hln
          generalize (tk B js).at_ i = fr at *
          generalize (tk B js).at_ (i + 1) = tt at *
          have HLEN := Aside0.mk (show wrap64 (((tt : Nat) : Int) - ((fr : Nat) : Int)) = ln by have := HLN.out; rw [hlr]; exact w64i (by omega) (by omega))
          clear hlr
          have HIB := Aside0.mk (show i ≤ 10000 by omega)
          obtain ⟨pn, hpn⟩ : ∃ pn, pn = 1 + js.length + i := ⟨_, rfl⟩
          have HPN := Aside0.mk hpn
          have HU := Aside0.mk (show pn < N by have := HNN.out; have := HL.out; omega)
          clear hpn
          have HNB2 := Aside0.mk (show k * (Kn + 1) + 1 + i ≤ 1000000 by have := HNQ.out; omega)
          have HL0 := Aside0.mk (show -9223372036854775808 ≤ ln by have := HLN.out; omega)
          have HL1 := Aside0.mk (show ln ≤ 9223372036854775807 by have := HLN.out; omega)
          have HNL := Aside0.mk (show NbL (Ben.netI (tk B js) k st1 i) 100000 from (nb_I (tk B js) k HNS.out i).mono (by omega))
          have hjr : wr.cell? ⟨gj, 0, none⟩ = some (.int .i64 (gJ js k).ready) := (blk_cell HJi.out 0).trans rfl
          have hjd : wr.cell? ⟨gj, 1, none⟩ = some (.int .i64 (gJ js k).due) := (blk_cell HJi.out 1).trans rfl
          have HGJ := Aside0.mk (blk_lt HJi.out)
          by_cases cc1 : (gJ js k).ready ≤ ((fr : Nat) : Int)
          · have d1 : decide ((gJ js k).ready ≤ ((fr : Nat) : Int)) = true := decide_eq_true cc1
            by_cases cc2 : ((tt : Nat) : Int) ≤ (gJ js k).due
            · have d2 : decide (((tt : Nat) : Int) ≤ (gJ js k).due) = true := decide_eq_true cc2
              have HOY : Aside0 (Ben.netI (tk B js) k st1 (i + 1) = addF (Ben.netI (tk B js) k st1 i) jn pn ln) := ⟨by rw [Ben.netI, if_pos (by rw [HOK.out, d1, d2]; rfl), ← HLNE.out, HJN.out, HPN.out]; rfl⟩
              go_wp2_with (first | ((with_reducible refine gate_dst (N := 7) rfl ?_); refine bxe 7 #[.int .i64 0, .int .i64 0] 97 ?_; intro gs hggs w3 hbox3 hb3; have HX3 := Aside0.mk hbox3; have HG3 := Aside0.mk (show wr.heap.size ≤ gs by rw [hggs]; exact Nat.le_refl _); have HBr := Aside0.mk hb3; have c0 : w3.cell? ⟨gs, 0, none⟩ = some (.int .i64 0) := (blk_cell HX3.out 0).trans rfl; have f0 := blk_frozen HX3.out 0; have c1 : w3.cell? ⟨gs, 1, none⟩ = some (.int .i64 0) := (blk_cell HX3.out 1).trans rfl; have f1 := blk_frozen HX3.out 1; have hjr := cB hb3 hjr; have hjd := cB hb3 hjd; have hgg : gj ≠ gs := (by have := HGJ.out; have := HG3.out; omega); clear hggs hbox3 hb3))
              have HS4 : Aside0 (((w3.setCell ⟨gs, 0, none⟩ (.int .i64 ((fr : Nat) : Int))).setCell ⟨gs, 1, none⟩ (.int .i64 ((tt : Nat) : Int))).heap[gs]? = some (.cells #[.int .i64 ((fr : Nat) : Int), .int .i64 ((tt : Nat) : Int)] 97 (0, 0))) := ⟨blk_put (cs := #[.int .i64 ((fr : Nat) : Int), .int .i64 0]) (blk_put (cs := #[.int .i64 0, .int .i64 0]) HX3.out 0 _ rfl) 1 _ rfl⟩
              have HBr4 : Aside0 (Below wr.heap.size wr ((w3.setCell ⟨gs, 0, none⟩ (.int .i64 ((fr : Nat) : Int))).setCell ⟨gs, 1, none⟩ (.int .i64 ((tt : Nat) : Int)))) := ⟨Below.setCell (Below.setCell HBr.out HG3.out _) HG3.out _⟩
              clear c0 c1 f0 f1 hs0 hs1 hjr hjd hgg
              generalize ((w3.setCell ⟨gs, 0, none⟩ (.int .i64 ((fr : Nat) : Int))).setCell ⟨gs, 1, none⟩ (.int .i64 ((tt : Nat) : Int))) = w4 at HS4 HBr4 ⊢
              have HP4 := Aside0.mk (HPi.out.below HBr4.out HPi.out.lt)
              have HN4 := Aside0.mk (HNi.out.below HBr4.out)
              have HB4 := Aside0.mk (HBi.out.trans (HBr4.out.mono HBi.out.size))
              have HJ4 := Aside0.mk ((HBr4.out.block _ (blk_lt HJi.out)).trans HJi.out)
              have HJD := Aside0.mk (kD HJ4.out)
              have HPD := Aside0.mk (HP4.out.below (below_drew (Below.refl _ _)) HP4.out.lt)
              have HND := Aside0.mk (HN4.out.below (below_drew (Below.refl _ _)))
              have HBD := Aside0.mk (below_drew HB4.out)
              have HSD := Aside0.mk (kD HS4.out)
              have hxp := HPD.out.at.2.2.1
              have hs0 : w4.drew.cell? ⟨gs, 0, none⟩ = some (.int .i64 ((fr : Nat) : Int)) := (blk_cell HSD.out 0).trans rfl
              have hs1 : w4.drew.cell? ⟨gs, 1, none⟩ = some (.int .i64 ((tt : Nat) : Int)) := (blk_cell HSD.out 1).trans rfl
              clear HBr4 HX3 HS4 HPi HNi HBi HJi HBr
              refine start_ (n := 13) (S := fun w' => w'.cell? ⟨p, 2, none⟩ = some (.pointer (some ⟨x, 0, none⟩)) ∧ w'.cell? ⟨gs, 0, none⟩ = some (.int .i64 ((fr : Nat) : Int)) ∧ w'.cell? ⟨gs, 1, none⟩ = some (.int .i64 ((tt : Nat) : Int)) ∧ Below w4.drew.heap.size w4.drew w') (ds := [12]) (Bs 0 13) (by kernel_rfl) rfl rfl ⟨hxp, hs0, hs1, Below.refl _ _⟩ (fun hHeld => ?_)
              generalize w4.drew = w5 at HPD HND HBD HJD HSD hxp hs0 hs1 hHeld ⊢
              refine with_tabW newR.tab12 newR.bits12 (fun HT_ HW_ => ?_)
              refine pu 0 71 (Bs 1 13) HT_ ?_
              refine pu 1 72 (Bs 2 13) HT_ ?_
              refine pu 2 73 (Bs 3 13) HT_ ?_
              refine pu 4 75 (Br [3,1,1,8]) HT_ ?_
              refine pu 5 76 (Br [3,1,2,7]) HT_ ?_
              refine pu 7 78 (Br [3,1,2,1,1,5]) HT_ ?_
              refine pu 8 79 (Br [3,1,2,1,2,4]) HT_ ?_
              refine ta 3 74 (Br [6,1,2,4]) HT_ HW_ hHeld ?_
              refine ta 10 81 (Br [6,1,2,1,1,2]) HT_ HW_ hHeld ?_
              refine one_ (i := 6) (N := some 77) (Br [9,1,1,2]) rfl rfl (one_of HT_.out (by kernel_rfl)) (by decide) (fun K hK => ?_)
              refine goes_ Tryd.func60 (by kernel_rfl) rfl #[.pointer (some ⟨p, 0, none⟩), .int .i64 ((k : Nat) : Int)] (by rfl) rfl rfl (by (try simp only [List.map_toArray, List.map_cons, List.map_nil]); first | done | rfl) ?_
              refine (job_l HKB.out HJN.out _).mono ?_
              rintro e w7 ⟨rfl, hb7⟩
              refine ⟨_, rfl, ?_⟩
              refine hK.out _ _ ⟨cB hb7 hHeld.1, cB hb7 hHeld.2.1, cB hb7 hHeld.2.2.1, below_step hHeld.2.2.2 hb7⟩ (fun hHeld => ?_)
              clear hK K
              refine nm 77 ?_
              refine one_ (i := 9) (N := some 80) (Bs 11 13) rfl rfl (one_of HT_.out (by kernel_rfl)) (by decide) (fun K hK => ?_)
              refine goes_ Tryd.func61 (by kernel_rfl) rfl #[.pointer (some ⟨p, 0, none⟩), .int .i64 ((i : Nat) : Int)] (by rfl) rfl rfl (by (try simp only [List.map_toArray, List.map_cons, List.map_nil]); first | done | rfl) ?_
              refine (part_l HIB.out HM1.out HPN.out (HPD.out.below hHeld.2.2.2 HPD.out.lt)).mono ?_
              rintro e w7 ⟨rfl, hb7⟩
              refine ⟨_, rfl, ?_⟩
              refine hK.out _ _ ⟨cB hb7 hHeld.1, cB hb7 hHeld.2.1, cB hb7 hHeld.2.2.1, below_step hHeld.2.2.2 hb7⟩ (fun hHeld => ?_)
              clear hK K
              refine nm 80 ?_
              refine one_ (i := 11) (N := some 82) (Bs 12 13) rfl rfl (one_of HT_.out (by kernel_rfl)) (by decide) (fun K hK => ?_)
              refine goes_ Tryd.func62 (by kernel_rfl) rfl #[.agg #[.int .i64 ((fr : Nat) : Int), .int .i64 ((tt : Nat) : Int)]] (by rfl) rfl rfl (by (try simp only [List.map_toArray, List.map_cons, List.map_nil]); first | done | rfl) ?_
              refine (len_at HLEN.out).mono ?_
              rintro e w7 ⟨rfl, hb7⟩
              refine ⟨_, rfl, ?_⟩
              refine hK.out _ _ ⟨cB hb7 hHeld.1, cB hb7 hHeld.2.1, cB hb7 hHeld.2.2.1, below_step hHeld.2.2.2 hb7⟩ (fun hHeld => ?_)
              clear hK K
              refine nm 82 ?_
              refine last_ (i := 12) (N := some 83) (Bs 13 13) rfl rfl (one_of HT_.out (by kernel_rfl)) (by decide) (fun K hK => ?_)
              refine goes_ Tryd.func59 (by kernel_rfl) rfl #[.pointer (some ⟨x, 0, none⟩), .int .i64 ((jn : Nat) : Int), .int .i64 ((pn : Nat) : Int), .int .i64 ln] (by rfl) rfl rfl (by (try simp only [List.map_toArray, List.map_cons, List.map_nil]); first | done | rfl) ?_
              refine (add_at (HND.out.below hHeld.2.2.2) HU0.out HU.out HN1.out HNB2.out HL0.out HL1.out HNL.out _ rfl).mono ?_
              rintro e w7 ⟨rfl, hn7, hb7, ho7⟩
              have HN7 := Aside0.mk hn7
              have HP7 := Aside0.mk ((HPD.out.below hHeld.2.2.2 HPD.out.lt).below hb7 HBS.out)
              have HB7 := Aside0.mk ((HBD.out.trans (hHeld.2.2.2.mono HBD.out.size)).trans (hb7.mono (by have := HBS.out; have := HPW.out; omega)))
              have HJ6 := (hHeld.2.2.2.block _ (blk_lt HJD.out)).trans HJD.out
              have HJ7 := Aside0.mk ((ho7 gj _ 40 HJ6 (by decide) (by decide)).trans HJ6)
              clear hn7 hb7 ho7 HJ6
              refine ⟨_, rfl, ?_⟩
              refine hK.out _ _ ?_
              clear hK K
              refine nm 83 ?_
              refine done_ (done_of HT_.out (by kernel_rfl)) ?_
              clear hxp hs0 hs1 hHeld HPD HND HBD HJD HSD
              go_wp2
              go_roundw
              case rel => exact ⟨i + 1, by go_num, ⟨by omega⟩, HP7, ⟨by rw [HOY.out]; exact HN7.out⟩, HB7, HJ7⟩
              case measure => simp [intOf]; omega
            · have d2 : decide (((tt : Nat) : Int) ≤ (gJ js k).due) = false := decide_eq_false cc2
              have HOY : Aside0 (Ben.netI (tk B js) k st1 (i + 1) = Ben.netI (tk B js) k st1 i) := ⟨by rw [Ben.netI, if_neg (by rw [HOK.out, d1, d2]; decide)]⟩
              go_wp2_with (first | ((with_reducible refine gate_dst (N := 7) rfl ?_); refine bxe 7 #[.int .i64 0, .int .i64 0] 97 ?_; intro gs hggs w3 hbox3 hb3; have HX3 := Aside0.mk hbox3; have HG3 := Aside0.mk (show wr.heap.size ≤ gs by rw [hggs]; exact Nat.le_refl _); have HBr := Aside0.mk hb3; have c0 : w3.cell? ⟨gs, 0, none⟩ = some (.int .i64 0) := (blk_cell HX3.out 0).trans rfl; have f0 := blk_frozen HX3.out 0; have c1 : w3.cell? ⟨gs, 1, none⟩ = some (.int .i64 0) := (blk_cell HX3.out 1).trans rfl; have f1 := blk_frozen HX3.out 1; have hjr := cB hb3 hjr; have hjd := cB hb3 hjd; have hgg : gj ≠ gs := (by have := HGJ.out; have := HG3.out; omega); clear hggs hbox3 hb3))
              have HS4 : Aside0 (((w3.setCell ⟨gs, 0, none⟩ (.int .i64 ((fr : Nat) : Int))).setCell ⟨gs, 1, none⟩ (.int .i64 ((tt : Nat) : Int))).heap[gs]? = some (.cells #[.int .i64 ((fr : Nat) : Int), .int .i64 ((tt : Nat) : Int)] 97 (0, 0))) := ⟨blk_put (cs := #[.int .i64 ((fr : Nat) : Int), .int .i64 0]) (blk_put (cs := #[.int .i64 0, .int .i64 0]) HX3.out 0 _ rfl) 1 _ rfl⟩
              have HBr4 : Aside0 (Below wr.heap.size wr ((w3.setCell ⟨gs, 0, none⟩ (.int .i64 ((fr : Nat) : Int))).setCell ⟨gs, 1, none⟩ (.int .i64 ((tt : Nat) : Int)))) := ⟨Below.setCell (Below.setCell HBr.out HG3.out _) HG3.out _⟩
              clear c0 c1 f0 f1 hs0 hs1 hjr hjd hgg
              generalize ((w3.setCell ⟨gs, 0, none⟩ (.int .i64 ((fr : Nat) : Int))).setCell ⟨gs, 1, none⟩ (.int .i64 ((tt : Nat) : Int))) = w4 at HS4 HBr4 ⊢
              have HP4 := Aside0.mk (HPi.out.below HBr4.out HPi.out.lt)
              have HN4 := Aside0.mk (HNi.out.below HBr4.out)
              have HB4 := Aside0.mk (HBi.out.trans (HBr4.out.mono HBi.out.size))
              have HJ4 := Aside0.mk ((HBr4.out.block _ (blk_lt HJi.out)).trans HJi.out)
              have HJD := Aside0.mk (kD HJ4.out)
              have HPD := Aside0.mk (HP4.out.below (below_drew (Below.refl _ _)) HP4.out.lt)
              have HND := Aside0.mk (HN4.out.below (below_drew (Below.refl _ _)))
              have HBD := Aside0.mk (below_drew HB4.out)
              have HSD := Aside0.mk (kD HS4.out)
              go_roundw
              case rel => exact ⟨i + 1, by go_num, ⟨by omega⟩, HP4, ⟨by rw [HOY.out]; exact HN4.out.mono (by omega)⟩, HB4, HJ4⟩
              case measure => simp [intOf]; omega
          · have d1 : decide ((gJ js k).ready ≤ ((fr : Nat) : Int)) = false := decide_eq_false cc1
            have HOY : Aside0 (Ben.netI (tk B js) k st1 (i + 1) = Ben.netI (tk B js) k st1 i) := ⟨by rw [Ben.netI, if_neg (by rw [HOK.out, d1]; simp)]⟩
            go_wp2_with (first | ((with_reducible refine gate_dst (N := 7) rfl ?_); refine bxe 7 #[.int .i64 0, .int .i64 0] 97 ?_; intro gs hggs w3 hbox3 hb3; have HX3 := Aside0.mk hbox3; have HG3 := Aside0.mk (show wr.heap.size ≤ gs by rw [hggs]; exact Nat.le_refl _); have HBr := Aside0.mk hb3; have c0 : w3.cell? ⟨gs, 0, none⟩ = some (.int .i64 0) := (blk_cell HX3.out 0).trans rfl; have f0 := blk_frozen HX3.out 0; have c1 : w3.cell? ⟨gs, 1, none⟩ = some (.int .i64 0) := (blk_cell HX3.out 1).trans rfl; have f1 := blk_frozen HX3.out 1; have hjr := cB hb3 hjr; have hjd := cB hb3 hjd; have hgg : gj ≠ gs := (by have := HGJ.out; have := HG3.out; omega); clear hggs hbox3 hb3))
            have HS4 : Aside0 (((w3.setCell ⟨gs, 0, none⟩ (.int .i64 ((fr : Nat) : Int))).setCell ⟨gs, 1, none⟩ (.int .i64 ((tt : Nat) : Int))).heap[gs]? = some (.cells #[.int .i64 ((fr : Nat) : Int), .int .i64 ((tt : Nat) : Int)] 97 (0, 0))) := ⟨blk_put (cs := #[.int .i64 ((fr : Nat) : Int), .int .i64 0]) (blk_put (cs := #[.int .i64 0, .int .i64 0]) HX3.out 0 _ rfl) 1 _ rfl⟩
            have HBr4 : Aside0 (Below wr.heap.size wr ((w3.setCell ⟨gs, 0, none⟩ (.int .i64 ((fr : Nat) : Int))).setCell ⟨gs, 1, none⟩ (.int .i64 ((tt : Nat) : Int)))) := ⟨Below.setCell (Below.setCell HBr.out HG3.out _) HG3.out _⟩
            clear c0 c1 f0 f1 hs0 hs1 hjr hjd hgg
            generalize ((w3.setCell ⟨gs, 0, none⟩ (.int .i64 ((fr : Nat) : Int))).setCell ⟨gs, 1, none⟩ (.int .i64 ((tt : Nat) : Int))) = w4 at HS4 HBr4 ⊢
            have HP4 := Aside0.mk (HPi.out.below HBr4.out HPi.out.lt)
            have HN4 := Aside0.mk (HNi.out.below HBr4.out)
            have HB4 := Aside0.mk (HBi.out.trans (HBr4.out.mono HBi.out.size))
            have HJ4 := Aside0.mk ((HBr4.out.block _ (blk_lt HJi.out)).trans HJi.out)
            have HJD := Aside0.mk (kD HJ4.out)
            have HPD := Aside0.mk (HP4.out.below (below_drew (Below.refl _ _)) HP4.out.lt)
            have HND := Aside0.mk (HN4.out.below (below_drew (Below.refl _ _)))
            have HBD := Aside0.mk (below_drew HB4.out)
            have HSD := Aside0.mk (kD HS4.out)
            go_roundw
            case rel => exact ⟨i + 1, by go_num, ⟨by omega⟩, HP4, ⟨by rw [HOY.out]; exact HN4.out.mono (by omega)⟩, HB4, HJ4⟩
            case measure => simp [intOf]; omega
        · have hge : ¬ ((i : Nat) : Int) < ((Kn : Nat) : Int) := by omega
          have HNF : Aside0 (Net wr base x b g N ((k + 1) * (Kn + 1)) (Ben.netK (tk B js) (k + 1))) := ⟨by
            have hn := HNi.out
            rw [show i = (tk B js).K by have := HIL.out; have := HK.out; omega, HST.out] at hn
            exact hn.mono (by have := HK.out; have := Nat.add_one_mul k (Kn + 1); omega)⟩
          go_wp2
          go_roundw
          case rel => exact ⟨k + 1, by go_num, ⟨by omega⟩, HPi, HNF, HBi⟩
          case measure => simp [intOf]; omega
    · have hge : ¬ ((k : Nat) : Int) < ((js.length : Nat) : Int) := by omega
      obtain rfl : k = js.length := by have := HKL.out; omega
      have hp3 := HPk.out.at.2.2.2.1
      have HNL0 : Aside0 (Net wr base x b g N (js.length * (Kn + 1) + 0) (Ben.netL (tk B js) 0)) := ⟨HNk.out⟩
      have HNQ := Aside0.mk (show js.length * (Kn + 1) ≤ 2048 by have := small_mul (k := js.length) (a := 32) (q := Kn + 1) (b := 64) (by omega) (by omega); omega)
      have HM1 := Aside0.mk (show js.length ≤ 10000 by omega)
      have HK1 := Aside0.mk (show Kn ≤ 10000 by omega)
      have HN1 := Aside0.mk (show N ≤ 1000 by omega)
      have HU0 := Aside0.mk (show L < N by have := HNN.out; omega)
      go_wp2
      go_loopw [91] (fun v91 wr => ∃ i : Nat, v91 = .int .i64 (i : Int) ∧ Aside0 (i ≤ Kn) ∧ Aside0 (Pb wr p B A js.length c (.pointer (some ⟨x, 0, none⟩)) (.slice AP Kn cp) (wkS js js.length)) ∧ Aside0 (Net wr base x b g N (js.length * (Kn + 1) + i) (Ben.netL (tk B js) i)) ∧ Aside0 (Below wS.heap.size wS wr)) (fun v91 _ => Kn - (intOf v91).toNat)
      case atStart => exact ⟨0, rfl, ⟨Nat.zero_le _⟩, HPk, HNL0, HBk⟩
      case round =>
        obtain ⟨i, rfl, HIL, HPi, HNi, HBi⟩ := hrel
        clear HPk HNk HBk HNL0 hp3
        by_cases hit : i < Kn
        · have hitI : ((i : Nat) : Int) < ((Kn : Nat) : Int) := by omega
          obtain ⟨ad2, rfl, hs0, hs1⟩ := span_at HCS.out HBi.out HT.out HK.out hit
          have hln := HT.out.len (i := i) (by rw [← HK.out]; exact hit)
          obtain ⟨ln, hlne⟩ : ∃ ln, ln = (tk B js).len i := ⟨_, rfl⟩
          have hlr : (((tk B js).at_ (i + 1) : Nat) : Int) - (((tk B js).at_ i : Nat) : Int) = ln := by rw [hlne]; rfl
          rw [← hlne] at hln
          have HLNE := Aside0.mk hlne
          have HLN := Aside0.mk hln
          clear hlne hln
          generalize (tk B js).at_ i = fr at *
          generalize (tk B js).at_ (i + 1) = tt at *
          have HLEN := Aside0.mk (show wrap64 (((tt : Nat) : Int) - ((fr : Nat) : Int)) = ln by have := HLN.out; rw [hlr]; exact w64i (by omega) (by omega))
          clear hlr
          have hbl : 0 ≤ B * ln ∧ B * ln ≤ 8 * 1048576 := by
            have h1 := HMB.out
            have h2 := HLN.out
            exact ⟨Int.mul_nonneg (by omega) (by omega), Int.mul_le_mul h1.2.2.2 h2.2 (by omega) (by omega)⟩
          have hbw : wrap64 (B * ln) = B * ln := w64i (by omega) (by omega)
          have HBL := Aside0.mk hbw
          have HIB := Aside0.mk (show i ≤ 10000 by omega)
          obtain ⟨pn, hpn⟩ : ∃ pn, pn = 1 + js.length + i := ⟨_, rfl⟩
          have HPN := Aside0.mk hpn
          have HU := Aside0.mk (show pn < N by have := HNN.out; have := HL.out; omega)
          clear hpn
          have HNB2 := Aside0.mk (show js.length * (Kn + 1) + i ≤ 1000000 by have := HNQ.out; omega)
          have HL0 := Aside0.mk (show -9223372036854775808 ≤ wrap64 (B * ln) by rw [hbw]; omega)
          have HL1 := Aside0.mk (show wrap64 (B * ln) ≤ 9223372036854775807 by rw [hbw]; omega)
          clear hbl hbw
          have HNL := Aside0.mk (show NbL (Ben.netL (tk B js) i) 100000 from (nb_L (tk B js) i).mono (by rw [← HK.out, tk_m]; have := small_mul (k := js.length) (a := 32) (q := 2 * Kn + 2) (b := 128) (by omega) (by omega); omega))
          have HOY : Aside0 (Ben.netL (tk B js) (i + 1) = addF (Ben.netL (tk B js) i) pn L (wrap64 (B * ln))) := ⟨by rw [HBL.out, HPN.out, HL.out, HLNE.out, HK.out]; rfl⟩
          go_wp2_with (first | ((with_reducible refine gate_dst (N := 9) rfl ?_); refine bxe 9 #[.int .i64 0, .int .i64 0] 97 ?_; intro gs hggs w3 hbox3 hb3; have HX3 := Aside0.mk hbox3; have HG3 := Aside0.mk (show wr.heap.size ≤ gs by rw [hggs]; exact Nat.le_refl _); have HBr := Aside0.mk hb3; have c0 : w3.cell? ⟨gs, 0, none⟩ = some (.int .i64 0) := (blk_cell HX3.out 0).trans rfl; have f0 := blk_frozen HX3.out 0; have c1 : w3.cell? ⟨gs, 1, none⟩ = some (.int .i64 0) := (blk_cell HX3.out 1).trans rfl; have f1 := blk_frozen HX3.out 1; clear hggs hbox3 hb3))
          have HS4 : Aside0 (((w3.setCell ⟨gs, 0, none⟩ (.int .i64 ((fr : Nat) : Int))).setCell ⟨gs, 1, none⟩ (.int .i64 ((tt : Nat) : Int))).heap[gs]? = some (.cells #[.int .i64 ((fr : Nat) : Int), .int .i64 ((tt : Nat) : Int)] 97 (0, 0))) := ⟨blk_put (cs := #[.int .i64 ((fr : Nat) : Int), .int .i64 0]) (blk_put (cs := #[.int .i64 0, .int .i64 0]) HX3.out 0 _ rfl) 1 _ rfl⟩
          have HBr4 : Aside0 (Below wr.heap.size wr ((w3.setCell ⟨gs, 0, none⟩ (.int .i64 ((fr : Nat) : Int))).setCell ⟨gs, 1, none⟩ (.int .i64 ((tt : Nat) : Int)))) := ⟨Below.setCell (Below.setCell HBr.out HG3.out _) HG3.out _⟩
          clear c0 c1 f0 f1 hs0 hs1
          generalize ((w3.setCell ⟨gs, 0, none⟩ (.int .i64 ((fr : Nat) : Int))).setCell ⟨gs, 1, none⟩ (.int .i64 ((tt : Nat) : Int))) = w4 at HS4 HBr4 ⊢
          have HP4 := Aside0.mk (HPi.out.below HBr4.out HPi.out.lt)
          have HN4 := Aside0.mk (HNi.out.below HBr4.out)
          have HB4 := Aside0.mk (HBi.out.trans (HBr4.out.mono HBi.out.size))
          have HPD := Aside0.mk (HP4.out.below (below_drew (Below.refl _ _)) HP4.out.lt)
          have HND := Aside0.mk (HN4.out.below (below_drew (Below.refl _ _)))
          have HBD := Aside0.mk (below_drew HB4.out)
          have HSD := Aside0.mk (kD HS4.out)
          have hxp := HPD.out.at.2.2.1
          have hg0 : w4.drew.cell? ⟨gt, 0, none⟩ = some (.int .i64 B) := (blk_cell ((HBD.out.block _ (blk_lt HXS.out)).trans HXS.out) 0).trans rfl
          have hs0 : w4.drew.cell? ⟨gs, 0, none⟩ = some (.int .i64 ((fr : Nat) : Int)) := (blk_cell HSD.out 0).trans rfl
          have hs1 : w4.drew.cell? ⟨gs, 1, none⟩ = some (.int .i64 ((tt : Nat) : Int)) := (blk_cell HSD.out 1).trans rfl
          clear HBr4 HX3 HS4 HPi HNi HBi HBr
          refine start_ (n := 15) (S := fun w' => w'.cell? ⟨p, 2, none⟩ = some (.pointer (some ⟨x, 0, none⟩)) ∧ w'.cell? ⟨gt, 0, none⟩ = some (.int .i64 B) ∧ w'.cell? ⟨gs, 0, none⟩ = some (.int .i64 ((fr : Nat) : Int)) ∧ w'.cell? ⟨gs, 1, none⟩ = some (.int .i64 ((tt : Nat) : Int)) ∧ Below w4.drew.heap.size w4.drew w') (ds := [14]) (Bs 0 15) (by kernel_rfl) rfl rfl ⟨hxp, hg0, hs0, hs1, Below.refl _ _⟩ (fun hHeld => ?_)
          generalize w4.drew = w5 at HPD HND HBD HSD hxp hg0 hs0 hs1 hHeld ⊢
          refine with_tabW newR.tab18 newR.bits18 (fun HT_ HW_ => ?_)
          refine pu 0 96 (Bs 1 15) HT_ ?_
          refine pu 1 97 (Bs 2 15) HT_ ?_
          refine pu 2 98 (Bs 3 15) HT_ ?_
          refine pu 4 100 (Br [3,1,1,10]) HT_ ?_
          refine pu 5 101 (Br [3,1,2,9]) HT_ ?_
          refine pu 7 103 (Br [3,1,2,1,1,7]) HT_ ?_
          refine pu 9 105 (Br [3,1,2,1,1,1,1,5]) HT_ ?_
          refine ta 3 99 (Br [6,1,1,1,1,5]) HT_ HW_ hHeld ?_
          refine ta 10 106 (Br [6,1,1,1,2,4]) HT_ HW_ hHeld ?_
          refine ta 11 107 (Br [6,1,1,1,3,3]) HT_ HW_ hHeld ?_
          refine one_ (i := 6) (N := some 102) (Br [8,1,3,3]) rfl rfl (one_of HT_.out (by kernel_rfl)) (by decide) (fun K hK => ?_)
          refine goes_ Tryd.func61 (by kernel_rfl) rfl #[.pointer (some ⟨p, 0, none⟩), .int .i64 ((i : Nat) : Int)] (by rfl) rfl rfl (by (try simp only [List.map_toArray, List.map_cons, List.map_nil]); first | done | rfl) ?_
          refine (part_l HIB.out HM1.out HPN.out (HPD.out.below hHeld.2.2.2.2 HPD.out.lt)).mono ?_
          rintro e w7 ⟨rfl, hb7⟩
          refine ⟨_, rfl, ?_⟩
          refine hK.out _ _ ⟨cB hb7 hHeld.1, cB hb7 hHeld.2.1, cB hb7 hHeld.2.2.1, cB hb7 hHeld.2.2.2.1, below_step hHeld.2.2.2.2 hb7⟩ (fun hHeld => ?_)
          clear hK K
          refine nm 102 ?_
          refine one_ (i := 8) (N := some 104) (Bs 12 15) rfl rfl (one_of HT_.out (by kernel_rfl)) (by decide) (fun K hK => ?_)
          refine goes_ Tryd.func45 (by kernel_rfl) rfl #[.pointer (some ⟨p, 0, none⟩)] (by rfl) rfl rfl (by (try simp only [List.map_toArray, List.map_cons, List.map_nil]); first | done | rfl) ?_
          refine (last_at HM1.out HK1.out HL.out (HPD.out.below hHeld.2.2.2.2 HPD.out.lt)).mono ?_
          rintro e w7 ⟨rfl, hb7⟩
          refine ⟨_, rfl, ?_⟩
          refine hK.out _ _ ⟨cB hb7 hHeld.1, cB hb7 hHeld.2.1, cB hb7 hHeld.2.2.1, cB hb7 hHeld.2.2.2.1, below_step hHeld.2.2.2.2 hb7⟩ (fun hHeld => ?_)
          clear hK K
          refine nm 104 ?_
          refine one_ (i := 12) (N := some 108) (Bs 13 15) rfl rfl (one_of HT_.out (by kernel_rfl)) (by decide) (fun K hK => ?_)
          refine goes_ Tryd.func62 (by kernel_rfl) rfl #[.agg #[.int .i64 ((fr : Nat) : Int), .int .i64 ((tt : Nat) : Int)]] (by rfl) rfl rfl (by (try simp only [List.map_toArray, List.map_cons, List.map_nil]); first | done | rfl) ?_
          refine (len_at HLEN.out).mono ?_
          rintro e w7 ⟨rfl, hb7⟩
          refine ⟨_, rfl, ?_⟩
          refine hK.out _ _ ⟨cB hb7 hHeld.1, cB hb7 hHeld.2.1, cB hb7 hHeld.2.2.1, cB hb7 hHeld.2.2.2.1, below_step hHeld.2.2.2.2 hb7⟩ (fun hHeld => ?_)
          clear hK K
          refine nm 108 ?_
          refine pu 13 109 (Bs 14 15) HT_ ?_
          refine last_ (i := 14) (N := some 110) (Bs 15 15) rfl rfl (one_of HT_.out (by kernel_rfl)) (by decide) (fun K hK => ?_)
          refine goes_ Tryd.func59 (by kernel_rfl) rfl #[.pointer (some ⟨x, 0, none⟩), .int .i64 ((pn : Nat) : Int), .int .i64 ((L : Nat) : Int), .int .i64 (wrap64 (B * ln))] (by rfl) rfl rfl (by (try simp only [List.map_toArray, List.map_cons, List.map_nil]); first | done | rfl) ?_
          refine (add_at (HND.out.below hHeld.2.2.2.2) HU.out HU0.out HN1.out HNB2.out HL0.out HL1.out HNL.out _ rfl).mono ?_
          rintro e w7 ⟨rfl, hn7, hb7, ho7⟩
          have HN7 := Aside0.mk hn7
          have HP7 := Aside0.mk ((HPD.out.below hHeld.2.2.2.2 HPD.out.lt).below hb7 HBS.out)
          have HB7 := Aside0.mk ((HBD.out.trans (hHeld.2.2.2.2.mono HBD.out.size)).trans (hb7.mono (by have := HBS.out; have := HPW.out; omega)))
          clear hn7 hb7 ho7
          refine ⟨_, rfl, ?_⟩
          refine hK.out _ _ ?_
          clear hK K
          refine nm 110 ?_
          refine done_ (done_of HT_.out (by kernel_rfl)) ?_
          clear hxp hg0 hs0 hs1 hHeld HPD HND HBD HSD
          go_wp2
          go_roundw
          case rel => exact ⟨i + 1, by go_num, ⟨by omega⟩, HP7, ⟨by rw [HOY.out]; exact HN7.out⟩, HB7⟩
          case measure => simp [intOf]; omega
        · have hge : ¬ ((i : Nat) : Int) < ((Kn : Nat) : Int) := by omega
          go_wp2
          go_ret
          refine ⟨p, rfl, ⟨x, b, g, base, js.length * (Kn + 1) + i, AP, cp, by have := HNQ.out; have := HIL.out; omega, ?_⟩, HBS0.out.trans (HBi.out.mono HBS0.out.size)⟩
          have hi : i = Kn := by have := HIL.out; omega
          subst hi
          have h1 := HPi.out
          have h2 := HNi.out
          have h3 := HCS.out
          have hN : N = (tk B js).last + 1 := by rw [HNN.out, HL.out, HK.out]; rfl
          rw [HK.out] at h1 h3
          rw [hN] at h2
          refine ⟨h1, HBS.out, ⟨wS, h3, HBi.out, HPW.out, HBS0.out.size⟩, ?_⟩
          have : Ben.netF (tk B js) = Ben.netL (tk B js) i := by rw [HK.out]; rfl
          rw [this]
          exact h2
end Go.Proofs.YtmnhcbaocoofoaaDoor.P
namespace Go.Proofs.YtmnhcbaocoofoaaDoor.Ben
open Go.Sort
variable {α : Type} [Inhabited α] {lt : α → α → Bool}

def swI (a b n q : Nat) : Nat := if a ≤ q ∧ q < a + n then q + (b - a) else if b ≤ q ∧ q < b + n then q - (b - a) else q
def rotI (a m b q : Nat) : Nat := if a ≤ q ∧ q < a + (b - m) then q + (m - a) else if a + (b - m) ≤ q ∧ q < b then q - (b - m) else q
def upI (a k q : Nat) : Nat := if a ≤ q ∧ q < k then q + 1 else if q = k then a else q
def dnI (k m q : Nat) : Nat := if k < q ∧ q ≤ m then q - 1 else if q = k then m else q

def Moved (f : Nat → Nat) (d d' : Array α) : Prop := ∀ q, d'[q]! = d[f q]!

def exI (i j q : Nat) : Nat := if q = j then i else if q = i then j else q
theorem swp_moved {d : Array α} {i j : Nat} (hi : i < d.size) (hj : j < d.size) : Moved (exI i j) d (swp d i j) := by
  intro q
  unfold exI
  by_cases e : q = j
  · rw [if_pos e, e, swp_right d i j hj]
  · by_cases e2 : q = i
    · rw [if_neg e, if_pos e2, e2, swp_left d i j hi (fun h => e (e2.trans h))]
    · rw [if_neg e, if_neg e2, swp_other d i j q e2 e]

theorem sw_start (a b : Nat) (d : Array α) : Moved (swI a b 0) d d := by
  intro q; unfold swI
  rw [if_neg (by omega), if_neg (by omega)]
theorem sw_step {a b n : Nat} {d dk : Array α} (hab : a + n < b) (hb : b + n < dk.size) (h : Moved (swI a b n) d dk) : Moved (swI a b (n + 1)) d (swp dk (a + n) (b + n)) := by
  intro q
  rw [swp_moved (by omega) hb q, h]
  congr 1
  unfold swI exI
  by_cases e1 : q = b + n
  · subst e1
    simp only [if_true]
    rw [if_neg (by omega), if_neg (by omega), if_neg (by omega), if_pos (by omega)]; omega
  · by_cases e2 : q = a + n
    · subst e2
      rw [if_neg e1]
      simp only [if_true]
      rw [if_neg (by omega), if_neg (by omega), if_pos (by omega)]; omega
    · rw [if_neg e1, if_neg e2]
      by_cases c1 : a ≤ q ∧ q < a + n
      · rw [if_pos c1, if_pos (by omega)]
      · rw [if_neg c1, if_neg (show ¬ (a ≤ q ∧ q < a + (n + 1)) by omega)]
        by_cases c2 : b ≤ q ∧ q < b + n
        · rw [if_pos c2, if_pos (by omega)]
        · rw [if_neg c2, if_neg (by omega)]

theorem rot_start {a m b : Nat} (ha : a < m) (hb : m < b) (d : Array α) : ∀ q, d[rotI a m b q]! = d[rotI (m - (m - a)) m (m + (b - m)) q]! := by
  intro q
  have e1 : m - (m - a) = a := by omega
  have e2 : m + (b - m) = b := by omega
  rw [e1, e2]
theorem rot_more {i j m q : Nat} (hj : j < i) (hi : i ≤ m) : rotI (m - i) m (m + j) q = swI (m - i) m j (rotI (m - (i - j)) m (m + j) q) := by
  have e : m + j - m = j := by omega
  unfold rotI
  rw [e]
  by_cases c1 : m - (i - j) ≤ q ∧ q < m - (i - j) + j
  · rw [if_pos c1, if_neg (by omega), if_pos (by omega)]
    unfold swI
    rw [if_neg (by omega), if_pos (by omega)]; omega
  · rw [if_neg c1]
    by_cases c2 : m - (i - j) + j ≤ q ∧ q < m + j
    · rw [if_pos c2, if_neg (by omega), if_pos (by omega)]
      unfold swI
      rw [if_neg (by omega), if_neg (by omega)]
    · rw [if_neg c2]
      unfold swI
      by_cases c3 : m - i ≤ q ∧ q < m - i + j
      · rw [if_pos c3, if_pos c3]
      · rw [if_neg c3, if_neg c3, if_neg (by omega), if_neg (by omega)]
theorem rot_less {i j m q : Nat} (hj : i < j) (hi : i ≤ m) : rotI (m - i) m (m + j) q = swI (m - i) (m + j - i) i (rotI (m - i) m (m + (j - i)) q) := by
  have e : m + j - m = j := by omega
  have e' : m + (j - i) - m = j - i := by omega
  unfold rotI
  rw [e, e']
  by_cases c1 : m - i ≤ q ∧ q < m - i + (j - i)
  · rw [if_pos c1, if_pos (by omega)]
    unfold swI
    rw [if_neg (by omega), if_neg (by omega)]
  · rw [if_neg c1]
    by_cases c2 : m - i + (j - i) ≤ q ∧ q < m + (j - i)
    · rw [if_pos c2, if_pos (by omega)]
      unfold swI
      rw [if_pos (by omega)]; omega
    · rw [if_neg c2]
      unfold swI
      by_cases c3 : m + j - i ≤ q ∧ q < m + j - i + i
      · rw [if_neg (by omega), if_pos (by omega), if_neg (by omega), if_pos c3]; omega
      · rw [if_neg (by omega), if_neg (by omega), if_neg (by omega), if_neg c3]
theorem rot_same {i m q : Nat} (hi : i ≤ m) : rotI (m - i) m (m + i) q = swI (m - i) m i q := by
  unfold rotI swI
  by_cases c1 : m - i ≤ q ∧ q < m - i + i
  · rw [if_pos c1, if_pos (by omega)]
  · rw [if_neg c1, if_neg (by omega)]
    by_cases c2 : m ≤ q ∧ q < m + i
    · rw [if_pos c2, if_pos (by omega)]; omega
    · rw [if_neg c2, if_neg (by omega)]

theorem up_start (a : Nat) (d : Array α) : Moved (upI a a) d d := by
  intro q; unfold upI
  rw [if_neg (by omega)]
  split <;> rename_i h
  · rw [h]
  · rfl
theorem up_step {a k : Nat} {d dk : Array α} (ha : a ≤ k) (hk : k + 1 < dk.size) (h : Moved (upI a k) d dk) : Moved (upI a (k + 1)) d (swp dk k (k + 1)) := by
  intro q
  rw [swp_moved (by omega) hk q, h]
  congr 1
  unfold upI exI
  by_cases e1 : q = k + 1
  · subst e1
    simp only [if_true]
    rw [if_neg (by omega), if_neg (by omega)]
  · by_cases e2 : q = k
    · subst e2
      rw [if_neg e1]
      simp only [if_true]
      rw [if_neg (by omega), if_neg (by omega), if_pos (by omega)]
    · rw [if_neg e1, if_neg e2]
      by_cases c1 : a ≤ q ∧ q < k
      · rw [if_pos c1, if_pos (by omega)]
      · rw [if_neg c1, if_neg e2, if_neg (by omega), if_neg e1]
theorem dn_start (m : Nat) (d : Array α) : Moved (dnI m m) d d := by
  intro q; unfold dnI
  rw [if_neg (by omega)]
  split <;> rename_i h
  · rw [h]
  · rfl
theorem dn_step {k m : Nat} {d dk : Array α} (hm : k + 1 ≤ m) (hk : k + 1 < dk.size) (h : Moved (dnI (k + 1) m) d dk) : Moved (dnI k m) d (swp dk (k + 1) k) := by
  intro q
  rw [swp_moved hk (by omega) q, h]
  congr 1
  unfold dnI exI
  by_cases e1 : q = k
  · subst e1
    simp only [if_true]
    rw [if_neg (by omega), if_neg (by omega)]
  · by_cases e2 : q = k + 1
    · subst e2
      rw [if_neg e1]
      simp only [if_true]
      rw [if_neg (by omega), if_neg (by omega), if_pos (by omega)]; omega
    · rw [if_neg e1, if_neg e2]
      by_cases c1 : k + 1 < q ∧ q ≤ m
      · rw [if_pos c1, if_pos (by omega)]
      · rw [if_neg c1, if_neg e2, if_neg (by omega), if_neg e1]

theorem SWO.asy {α : Type} {lt : α → α → Bool} (h : SWO lt) {x y : α} (hxy : lt x y = true) : lt y x = false := by
  cases e : lt y x with
  | false => rfl
  | true => have := h.trans _ _ _ hxy e; rw [h.irrefl] at this; cases this
theorem SWO.le_lt {α : Type} {lt : α → α → Bool} (h : SWO lt) {x y z : α} (h1 : lt y x = false) (h2 : lt z y = false) : lt z x = false := h.ntrans _ _ _ h2 h1

theorem sorted_le (h : SWO lt) {a b : Nat} {d : Array α} (hs : SortedIn lt a b d) {i j : Nat} (ha : a ≤ i) (hij : i ≤ j) (hj : j < b) : lt d[j]! d[i]! = false := by
  by_cases e : i = j
  · rw [e]; exact h.irrefl _
  · exact hs i j ha (by omega) hj

theorem sorted_up (h : SWO lt) {a i b : Nat} {d d' : Array α} (hs : SortedIn lt (a + 1) b d) (hai : a + 1 ≤ i) (hib : i ≤ b) (h1 : ∀ p, a + 1 ≤ p → p < i → lt d[p]! d[a]! = true) (h2 : ∀ p, i ≤ p → p < b → lt d[p]! d[a]! = false)
    (hm : Moved (upI a (i - 1)) d d') : SortedIn lt a b d' := by
  have key : ∀ q, a ≤ q → q < b → upI a (i - 1) q = if q < i - 1 then q + 1 else if q = i - 1 then a else q := by
    intro q hq _
    unfold upI
    by_cases c : q < i - 1
    · rw [if_pos ⟨hq, c⟩, if_pos c]
    · rw [if_neg (by omega), if_neg c]
  intro p q hp hpq hq
  rw [hm q, hm p, key q (by omega) hq, key p hp (by omega)]
  by_cases c1 : q < i - 1
  · rw [if_pos c1, if_pos (by omega)]
    exact hs _ _ (by omega) (by omega) (by omega)
  · rw [if_neg c1]
    by_cases c2 : q = i - 1
    · rw [if_pos c2, if_pos (by omega)]
      exact SWO.asy h (h1 _ (by omega) (by omega))
    · rw [if_neg c2]
      by_cases c3 : p < i - 1
      · rw [if_pos c3]
        exact hs _ _ (by omega) (by omega) hq
      · rw [if_neg c3]
        by_cases c4 : p = i - 1
        · rw [if_pos c4]; exact h2 _ (by omega) hq
        · rw [if_neg c4]; exact hs _ _ (by omega) hpq hq

theorem sorted_dn (h : SWO lt) {a i m : Nat} {d d' : Array α} (hs : SortedIn lt a m d) (hai : a ≤ i) (him : i ≤ m) (h1 : ∀ p, a ≤ p → p < i → lt d[m]! d[p]! = false) (h2 : ∀ p, i ≤ p → p < m → lt d[m]! d[p]! = true)
    (hm : Moved (dnI i m) d d') : SortedIn lt a (m + 1) d' := by
  have key : ∀ q, a ≤ q → q < m + 1 → dnI i m q = if q < i then q else if q = i then m else q - 1 := by
    intro q _ hq
    unfold dnI
    by_cases c : q < i
    · rw [if_pos c, if_neg (by omega), if_neg (by omega)]
    · rw [if_neg c]
      by_cases c2 : q = i
      · rw [if_pos c2, if_neg (by omega), if_pos c2]
      · rw [if_neg c2, if_neg c2, if_pos (by omega)]
  intro p q hp hpq hq
  rw [hm q, hm p, key q (by omega) hq, key p hp (by omega)]
  by_cases c1 : q < i
  · rw [if_pos c1, if_pos (by omega)]
    exact hs _ _ hp hpq (by omega)
  · rw [if_neg c1]
    by_cases c2 : q = i
    · rw [if_pos c2, if_pos (by omega)]
      exact h1 _ hp (by omega)
    · rw [if_neg c2]
      by_cases c3 : p < i
      · rw [if_pos c3]; exact hs _ _ hp (by omega) (by omega)
      · rw [if_neg c3]
        by_cases c4 : p = i
        · rw [if_pos c4]; exact SWO.asy h (h2 _ (by omega) (by omega))
        · rw [if_neg c4]; exact hs _ _ (by omega) (by omega) (by omega)

theorem halves (h : SWO lt) {a m b mid start : Nat} {d d' : Array α} (hs1 : SortedIn lt a m d) (hs2 : SortedIn lt m b d) (ham : a < m) (hmb : m < b) (hmid : mid = (a + b) / 2)
    (hst : a ≤ start) (hst1 : start ≤ m) (hst2 : start ≤ mid) (hend : m ≤ mid + m - start) (hend2 : mid + m - start ≤ b)
    (hlo : ∀ p, a ≤ p → p < start → mid + m - start < b → lt d[mid + m - start]! d[p]! = false)
    (hhi : ∀ p, m ≤ p → p < mid + m - start → start < m → lt d[p]! d[start]! = true)
    (hm : ∀ q, d'[q]! = d[rotI start m (mid + m - start) q]!) :
    SortedIn lt a start d' ∧ SortedIn lt start mid d' ∧ SortedIn lt mid (mid + m - start) d' ∧ SortedIn lt (mid + m - start) b d' ∧ ∀ p q, a ≤ p → p < mid → mid ≤ q → q < b → lt d'[q]! d'[p]! = false := by
  have k1 : ∀ q, q < start → rotI start m (mid + m - start) q = q := by intro q hq; unfold rotI; rw [if_neg (by omega), if_neg (by omega)]
  have k2 : ∀ q, start ≤ q → q < mid → rotI start m (mid + m - start) q = q + (m - start) := by intro q hq hq2; unfold rotI; rw [if_pos (by omega)]
  have k3 : ∀ q, mid ≤ q → q < mid + m - start → rotI start m (mid + m - start) q = q - (mid - start) := by
    intro q hq hq2; unfold rotI; rw [if_neg (by omega), if_pos (by omega)]
    omega
  have k4 : ∀ q, mid + m - start ≤ q → rotI start m (mid + m - start) q = q := by intro q hq; unfold rotI; rw [if_neg (by omega), if_neg (by omega)]
  refine ⟨?_, ?_, ?_, ?_, ?_⟩
  · intro p q hp hpq hq
    rw [hm q, hm p, k1 q hq, k1 p (by omega)]
    exact hs1 _ _ hp hpq (by omega)
  · intro p q hp hpq hq
    rw [hm q, hm p, k2 q (by omega) hq, k2 p hp (by omega)]
    exact hs2 _ _ (by omega) (by omega) (by omega)
  · intro p q hp hpq hq
    rw [hm q, hm p, k3 q (by omega) hq, k3 p hp (by omega)]
    exact hs1 _ _ (by omega) (by omega) (by omega)
  · intro p q hp hpq hq
    rw [hm q, hm p, k4 q (by omega), k4 p hp]
    exact hs2 _ _ (by omega) (by omega) (by omega)
  · intro p q hp hpm hqm hq
    rw [hm q, hm p]
    by_cases c1 : p < start
    · rw [k1 p c1]
      by_cases c2 : q < mid + m - start
      · rw [k3 q hqm c2]
        exact hs1 _ _ hp (by omega) (by omega)
      · rw [k4 q (by omega)]
        have e1 := hlo p hp c1 (by omega)
        have e2 := sorted_le h hs2 (i := mid + m - start) (j := q) hend (by omega) hq
        exact SWO.le_lt h e1 e2
    · rw [k2 p (by omega) hpm]
      by_cases c2 : q < mid + m - start
      · rw [k3 q hqm c2]
        have e1 := SWO.asy h (hhi (p + (m - start)) (by omega) (by omega) (by omega))
        have e2 := sorted_le h hs1 (i := start) (j := q - (mid - start)) hst (by omega) (by omega)
        exact SWO.le_lt h e1 e2
      · rw [k4 q (by omega)]
        exact hs2 _ _ (by omega) (by omega) hq

theorem joined {a mid b : Nat} {d : Array α} (h1 : SortedIn lt a mid d) (h2 : SortedIn lt mid b d) (h3 : ∀ p q, a ≤ p → p < mid → mid ≤ q → q < b → lt d[q]! d[p]! = false) : SortedIn lt a b d := by
  intro p q hp hpq hq
  by_cases c1 : q < mid
  · exact h1 p q hp hpq c1
  · by_cases c2 : p < mid
    · exact h3 p q hp c2 (by omega) hq
    · exact h2 p q (by omega) hpq hq

theorem below_perm {a mid b : Nat} {d d1 d2 : Array α} (hsz : b ≤ d.size) (h1 : PermIn a mid d d1) (h2 : PermIn mid b d1 d2) (hmid : mid ≤ b) (h3 : ∀ p q, a ≤ p → p < mid → mid ≤ q → q < b → lt d[q]! d[p]! = false) :
    ∀ p q, a ≤ p → p < mid → mid ≤ q → q < b → lt d2[q]! d2[p]! = false := by
  have e1 : ∀ p q, a ≤ p → p < mid → mid ≤ q → q < b → lt d1[q]! d1[p]! = false := by
    intro p q hp hpm hq hqb
    rw [h1.2.1 q (by omega)]
    exact permIn_all d d1 a mid (fun x => lt d[q]! x = false) (by omega) h1 (fun i hi him => h3 i q hi him hq hqb) p hp hpm
  intro p q hp hpm hq hqb
  rw [h2.2.1 p (by omega)]
  exact permIn_all d1 d2 mid b (fun x => lt x d1[p]! = false) (by rw [h1.1]; exact hsz) h2 (fun i hi him => e1 p i hp hpm hi him) q hq hqb

theorem sorted_out {a b x y : Nat} {d d' : Array α} (hp : PermIn x y d d') (ho : b ≤ x ∨ y ≤ a) (hs : SortedIn lt a b d) : SortedIn lt a b d' := by
  intro p q hap hpq hq
  rw [hp.2.1 q (by omega), hp.2.1 p (by omega)]
  exact hs p q hap hpq hq

theorem sorted_one (h : SWO lt) {a b : Nat} {d : Array α} (hb : b ≤ a + 1) : SortedIn lt a b d := by
  intro p q hp hpq hq; omega

def Blocks (lt : α → α → Bool) (n bs x : Nat) (d : Array α) : Prop := ∀ k, x ≤ k * bs → SortedIn lt (k * bs) (min (k * bs + bs) n) d

variable {α : Type} [Inhabited α] {lt : α → α → Bool}

def Blk (lt : α → α → Bool) (bs n : Nat) (d : Array α) : Prop := ∀ k, SortedIn lt (k * bs) (min (k * bs + bs) n) d
def BlkTo (lt : α → α → Bool) (bs r : Nat) (d : Array α) : Prop := ∀ k, k < r → SortedIn lt (k * bs) (k * bs + bs) d
def BlkM (lt : α → α → Bool) (bs n r : Nat) (d : Array α) : Prop := (∀ k, k < r → SortedIn lt (k * (2 * bs)) (k * (2 * bs) + 2 * bs) d) ∧ ∀ k, 2 * r ≤ k → SortedIn lt (k * bs) (min (k * bs + bs) n) d

theorem mul_le {a b c : Nat} (h : a ≤ b) : a * c ≤ b * c := Nat.mul_le_mul_right c h
theorem succ_mul' (a c : Nat) : (a + 1) * c = a * c + c := Nat.succ_mul a c

theorem BlkTo.step {bs r : Nat} {d d' : Array α} (h : BlkTo lt bs r d) (hp : PermIn (r * bs) (r * bs + bs) d d') (hs : SortedIn lt (r * bs) (r * bs + bs) d') : BlkTo lt bs (r + 1) d' := by
  intro k hk
  by_cases e : k = r
  · rw [e]; exact hs
  · have := mul_le (c := bs) (show k + 1 ≤ r by omega)
    rw [succ_mul'] at this
    exact sorted_out hp (Or.inl (by omega)) (h k (by omega))

theorem BlkTo.all {bs r n : Nat} {d d' : Array α} (h : BlkTo lt bs r d) (hrn : n < r * bs + bs) (hr : r * bs ≤ n) (hp : PermIn (r * bs) n d d') (hs : SortedIn lt (r * bs) n d') : Blk lt bs n d' := by
  intro k
  by_cases c : k < r
  · have := mul_le (c := bs) (show k + 1 ≤ r by omega)
    rw [succ_mul'] at this
    have e : min (k * bs + bs) n = k * bs + bs := by omega
    rw [e]
    exact sorted_out hp (Or.inl (by omega)) (h k c)
  · by_cases e : k = r
    · subst e
      have e : min (k * bs + bs) n = n := by omega
      rw [e]; exact hs
    · have := mul_le (c := bs) (show r + 1 ≤ k by omega)
      rw [succ_mul'] at this
      intro p q h1 h2 h3; omega

theorem BlkM.start {bs n : Nat} {d : Array α} (h : Blk lt bs n d) : BlkM lt bs n 0 d := ⟨fun k hk => absurd hk (Nat.not_lt_zero _), fun k _ => h k⟩

theorem two_mul' (r bs : Nat) : r * (2 * bs) = (2 * r) * bs := by rw [Nat.mul_comm 2 r, Nat.mul_assoc]

theorem BlkM.runs {bs n r : Nat} {d : Array α} (h : BlkM lt bs n r d) {b : Nat} (hb : b ≤ n) (hb2 : b ≤ r * (2 * bs) + 2 * bs) (hm : r * (2 * bs) + bs ≤ b) (hall : b = r * (2 * bs) + 2 * bs ∨ b = n) : SortedIn lt (r * (2 * bs)) (r * (2 * bs) + bs) d ∧ SortedIn lt (r * (2 * bs) + bs) b d := by
  have h1 := h.2 (2 * r) (Nat.le_refl _)
  have h2 := h.2 (2 * r + 1) (by omega)
  rw [succ_mul'] at h2
  rw [← two_mul'] at h1 h2
  have e1 : min (r * (2 * bs) + bs) n = r * (2 * bs) + bs := by omega
  rw [e1] at h1
  have e2 : min (r * (2 * bs) + bs + bs) n = b := by omega
  rw [e2] at h2
  exact ⟨h1, h2⟩

theorem BlkM.step {bs n r : Nat} {d d' : Array α} (h : BlkM lt bs n r d) (hp : PermIn (r * (2 * bs)) (r * (2 * bs) + 2 * bs) d d') (hs : SortedIn lt (r * (2 * bs)) (r * (2 * bs) + 2 * bs) d') : BlkM lt bs n (r + 1) d' := by
  constructor
  · intro k hk
    by_cases e : k = r
    · rw [e]; exact hs
    · have := mul_le (c := 2 * bs) (show k + 1 ≤ r by omega)
      rw [succ_mul'] at this
      exact sorted_out hp (Or.inl (by omega)) (h.1 k (by omega))
  · intro k hk
    have := mul_le (c := bs) (show 2 * r + 2 ≤ k by omega)
    rw [Nat.add_mul, ← two_mul'] at this
    exact sorted_out hp (Or.inr (by omega)) (h.2 k (by omega))

theorem BlkM.all {bs n r : Nat} {d d' : Array α} (h : BlkM lt bs n r d) (hr : n < r * (2 * bs) + 2 * bs) (hlast : (n ≤ r * (2 * bs) + bs ∧ d' = d) ∨ (PermIn (r * (2 * bs)) n d d' ∧ SortedIn lt (r * (2 * bs)) n d')) : Blk lt (2 * bs) n d' := by
  intro k
  by_cases c : k < r
  · have hk := mul_le (c := 2 * bs) (show k + 1 ≤ r by omega)
    rw [succ_mul'] at hk
    have h1 := h.1 k c
    have h2 : SortedIn lt (k * (2 * bs)) (k * (2 * bs) + 2 * bs) d' := by
      rcases hlast with ⟨_, rfl⟩ | ⟨hp, _⟩
      · exact h1
      · exact sorted_out hp (Or.inl (by omega)) h1
    intro p q hp hpq hq
    exact h2 p q hp hpq (by omega)
  · by_cases e : k = r
    · subst e
      rcases hlast with ⟨hn, rfl⟩ | ⟨_, hs⟩
      · have h1 := h.2 (2 * k) (Nat.le_refl _)
        rw [← two_mul'] at h1
        intro p q hp hpq hq
        exact h1 p q hp hpq (by omega)
      · intro p q hp hpq hq
        exact hs p q hp hpq (by omega)
    · have hk := mul_le (c := 2 * bs) (show r + 1 ≤ k by omega)
      rw [succ_mul'] at hk
      intro p q hp hpq hq
      omega

theorem Blk.done {bs n : Nat} {d : Array α} (h : Blk lt bs n d) (hb : n ≤ bs) : SortedIn lt 0 n d := by
  have := h 0
  rw [Nat.zero_mul, Nat.zero_add, Nat.min_eq_right hb] at this
  exact this

structure Up1 (lt : α → α → Bool) (d : Array α) (a b i j : Nat) : Prop where
  lo : ∀ p, a + 1 ≤ p → p < i → lt d[p]! d[a]! = true
  hi : ∀ p, j ≤ p → p < b → lt d[p]! d[a]! = false
theorem Up1.yes (h : SWO lt) {d : Array α} {a b i j x : Nat} (hs : SortedIn lt (a + 1) b d) (h0 : Up1 lt d a b i j) (hx : x < b) (hxa : a + 1 ≤ x) (hl : lt d[x]! d[a]! = true) : Up1 lt d a b (x + 1) j := by
  refine ⟨fun p hp hpx => ?_, h0.hi⟩
  cases e : lt d[p]! d[a]! with
  | true => rfl
  | false =>
    have h1 := sorted_le h hs hp (show p ≤ x by omega) hx
    have := h.ntrans _ _ _ h1 e
    rw [hl] at this; cases this
theorem Up1.no (h : SWO lt) {d : Array α} {a b i j x : Nat} (hs : SortedIn lt (a + 1) b d) (h0 : Up1 lt d a b i j) (hx : x < b) (hxa : a + 1 ≤ x) (hl : lt d[x]! d[a]! = false) : Up1 lt d a b i x := by
  refine ⟨h0.lo, fun p hp hpb => ?_⟩
  have h1 := sorted_le h hs hxa hp hpb
  exact h.ntrans _ _ _ h1 hl

structure Dn1 (lt : α → α → Bool) (d : Array α) (a m i j : Nat) : Prop where
  lo : ∀ p, a ≤ p → p < i → lt d[m]! d[p]! = false
  hi : ∀ p, j ≤ p → p < m → lt d[m]! d[p]! = true
theorem Dn1.yes (h : SWO lt) {d : Array α} {a m i j x : Nat} (hs : SortedIn lt a m d) (h0 : Dn1 lt d a m i j) (hx : x < m) (hl : lt d[m]! d[x]! = false) : Dn1 lt d a m (x + 1) j := by
  refine ⟨fun p hp hpx => ?_, h0.hi⟩
  have h1 := sorted_le h hs hp (show p ≤ x by omega) hx
  exact h.ntrans _ _ _ hl h1
theorem Dn1.no (h : SWO lt) {d : Array α} {a m i j x : Nat} (hs : SortedIn lt a m d) (h0 : Dn1 lt d a m i j) (hx : a ≤ x) (hl : lt d[m]! d[x]! = true) : Dn1 lt d a m i x := by
  refine ⟨h0.lo, fun p hp hpb => ?_⟩
  cases e : lt d[m]! d[p]! with
  | true => rfl
  | false =>
    have h1 := sorted_le h hs hx hp hpb
    have := h.ntrans _ _ _ e h1
    rw [hl] at this; cases this

structure Cut (lt : α → α → Bool) (d : Array α) (lo hi n s r : Nat) : Prop where
  lo : ∀ c, lo ≤ c → c < s → lt d[n - 1 - c]! d[c]! = false
  hi : ∀ c, r ≤ c → c < hi → lt d[n - 1 - c]! d[c]! = true
theorem Cut.yes (h : SWO lt) {d : Array α} {a m b lo hi n s r c : Nat} (hs1 : SortedIn lt a m d) (hs2 : SortedIn lt m b d) (h0 : Cut lt d lo hi n s r) (hlo : a ≤ lo) (hcm : c < m) (hn1 : m ≤ n - 1 - c) (hn2 : n ≤ b + lo) (hcl : lo ≤ c) (hcn : c < n)
    (hl : lt d[n - 1 - c]! d[c]! = false) : Cut lt d lo hi n (c + 1) r := by
  refine ⟨fun p hp hpc => ?_, h0.hi⟩
  have h1 := sorted_le h hs1 (show a ≤ p by omega) (show p ≤ c by omega) hcm
  have h2 := sorted_le h hs2 (show m ≤ n - 1 - c from hn1) (show n - 1 - c ≤ n - 1 - p by omega) (by omega)
  exact h.ntrans _ _ _ (h.ntrans _ _ _ h2 hl) h1
theorem Cut.no (h : SWO lt) {d : Array α} {a m b lo hi n s r c : Nat} (hs1 : SortedIn lt a m d) (hs2 : SortedIn lt m b d) (h0 : Cut lt d lo hi n s r) (hca : a ≤ c) (him : hi ≤ m) (hn1 : ∀ p, p < hi → m ≤ n - 1 - p ∧ p < n) (hn2 : n - 1 - c < b)
    (hl : lt d[n - 1 - c]! d[c]! = true) : Cut lt d lo hi n s c := by
  refine ⟨h0.lo, fun p hp hph => ?_⟩
  cases e : lt d[n - 1 - p]! d[p]! with
  | true => rfl
  | false =>
    have h1 := sorted_le h hs1 hca hp (by omega)
    have h2 := sorted_le h hs2 (hn1 p hph).1 (show n - 1 - p ≤ n - 1 - c by omega) hn2
    have := h.ntrans _ _ _ (h.ntrans _ _ _ h2 e) h1
    rw [hl] at this; cases this

theorem Cut.ends {d : Array α} {a m b mid s : Nat} (ham : a < m) (hmb : m < b) (hmid : mid = (a + b) / 2) {lo hi : Nat} (hlh : (mid < m ∧ lo = mid + m - b ∧ hi = mid) ∨ (m ≤ mid ∧ lo = a ∧ hi = m)) (hs : lo ≤ s) (hs2 : s ≤ hi) (h : Cut lt d lo hi (mid + m) s s) (hswo : SWO lt) (hs1 : SortedIn lt a m d) (hs2' : SortedIn lt m b d) :
    a ≤ s ∧ s ≤ m ∧ s ≤ mid ∧ m ≤ mid + m - s ∧ mid + m - s ≤ b ∧ (∀ p, a ≤ p → p < s → mid + m - s < b → lt d[mid + m - s]! d[p]! = false) ∧ (∀ p, m ≤ p → p < mid + m - s → s < m → lt d[p]! d[s]! = true) := by
  refine ⟨by omega, by omega, by omega, by omega, by omega, ?_, ?_⟩
  · intro p hp hps he
    have hlo : lo < s := by omega
    have h1 := h.lo (s - 1) (by omega) (by omega)
    have e : mid + m - 1 - (s - 1) = mid + m - s := by omega
    rw [e] at h1
    have h2 := sorted_le hswo hs1 hp (show p ≤ s - 1 by omega) (by omega)
    exact hswo.ntrans _ _ _ h1 h2
  · intro p hp hpe hsm
    have hhi : s < hi := by omega
    have h1 := h.hi s (Nat.le_refl _) hhi
    cases e : lt d[p]! d[s]! with
    | true => rfl
    | false =>
      have h2 := sorted_le hswo hs2' hp (show p ≤ mid + m - 1 - s by omega) (by omega)
      have := hswo.ntrans _ _ _ h2 e
      rw [h1] at this; cases this

end Go.Proofs.YtmnhcbaocoofoaaDoor.Ben
namespace Go.Proofs.YtmnhcbaocoofoaaDoor.P
variable {z : Nat}
open Go.RowKit YtmnhcbaocoofoaaDoorW.PrintWords YtmnhcbaocoofoaaDoorW.PrintLast YtmnhcbaocoofoaaDoorW.PrintMore
open Go.Sort (swp SWO PermIn SortedIn)
instance : Inhabited S50 := ⟨z50⟩
def slC (p : S50) (j : Nat) : Value := match j with
  | 0 => .int .i64 p.f0
  | 1 => .int .i64 p.f1
  | 2 => .int .i64 p.f2
  | _ => .int .i64 p.f3
def slA (p : S50) : Value := .agg #[.int .i64 p.f0, .int .i64 p.f1, .int .i64 p.f2, .int .i64 p.f3]
def SlA (z : Nat) (w : World) (g : Nat) (d : Array S50) : Prop := ∃ cs : Array Value, w.heap[g]? = some (.cells cs 50 (0, 0)) ∧ cs.size = z ∧ ∀ i, i < d.size * 4 → cs[i]? = some (slC d[i / 4]! (i % 4))
theorem SlA.at {w : World} {g : Nat} {d : Array S50} (h : SlA z w g d) {k : Nat} (hk : k < d.size) :
    w.cell? ⟨g, k * 4, none⟩ = some (.int .i64 d[k]!.f0) ∧ w.cell? ⟨g, k * 4 + 1, none⟩ = some (.int .i64 d[k]!.f1) ∧ w.cell? ⟨g, k * 4 + 2, none⟩ = some (.int .i64 d[k]!.f2) ∧ w.cell? ⟨g, k * 4 + 3, none⟩ = some (.int .i64 d[k]!.f3) ∧ ∀ o, w.frozen? ⟨g, o, none⟩ = false := by
  obtain ⟨cs, hb, hz, hc⟩ := h
  have e : ∀ j, j < 4 → w.cell? ⟨g, k * 4 + j, none⟩ = some (slC d[k]! j) := fun j hj => by
    rw [blk_cell hb, hc _ (by omega), show (k * 4 + j) / 4 = k by omega, show (k * 4 + j) % 4 = j by omega]
  exact ⟨e 0 (by omega), e 1 (by omega), e 2 (by omega), e 3 (by omega), fun o => blk_frozen hb o⟩
def put4 (w : World) (g k : Nat) (p : S50) : World := (((w.setCell ⟨g, k * 4, none⟩ (.int .i64 p.f0)).setCell ⟨g, k * 4 + 1, none⟩ (.int .i64 p.f1)).setCell ⟨g, k * 4 + 2, none⟩ (.int .i64 p.f2)).setCell ⟨g, k * 4 + 3, none⟩ (.int .i64 p.f3)
theorem get_set (d : Array S50) (k : Nat) (p : S50) (i : Nat) (hi : i < d.size) : (d.setIfInBounds k p)[i]! = if k = i then p else d[i]! := by
  simp only [getElem!_def, Array.getElem?_setIfInBounds]
  by_cases h : k = i
  · subst h; simp [hi]
  · simp [h]
theorem SlA.put {w : World} {g : Nat} {d : Array S50} (h : SlA z w g d) {k : Nat} (hk : k < d.size) (p : S50) : SlA z (put4 w g k p) g (d.setIfInBounds k p) := by
  obtain ⟨cs, hb, hz, hc⟩ := h
  refine ⟨(((cs.setIfInBounds (k * 4) (.int .i64 p.f0)).setIfInBounds (k * 4 + 1) (.int .i64 p.f1)).setIfInBounds (k * 4 + 2) (.int .i64 p.f2)).setIfInBounds (k * 4 + 3) (.int .i64 p.f3), blk_set (blk_set (blk_set (blk_set hb _ _) _ _) _ _) _ _, by simpa using hz, fun i hi => ?_⟩
  rw [Array.size_setIfInBounds] at hi
  have hsz : k * 4 + 3 < cs.size := by
    have := hc (k * 4 + 3) (by omega)
    exact (Array.getElem?_eq_some_iff.1 this).1
  rw [get_set d k p (i / 4) (by omega)]
  simp only [Array.getElem?_setIfInBounds, Array.size_setIfInBounds]
  by_cases h3 : k * 4 + 3 = i
  · subst h3
    rw [if_pos rfl, if_pos hsz, if_pos (by omega), show (k * 4 + 3) % 4 = 3 by omega]; rfl
  · rw [if_neg h3]
    by_cases h2 : k * 4 + 2 = i
    · subst h2
      rw [if_pos rfl, if_pos (by omega), if_pos (by omega), show (k * 4 + 2) % 4 = 2 by omega]; rfl
    · rw [if_neg h2]
      by_cases h1 : k * 4 + 1 = i
      · subst h1
        rw [if_pos rfl, if_pos (by omega), if_pos (by omega), show (k * 4 + 1) % 4 = 1 by omega]; rfl
      · rw [if_neg h1]
        by_cases h0 : k * 4 = i
        · subst h0
          rw [if_pos rfl, if_pos (by omega), if_pos (by omega), show (k * 4) % 4 = 0 by omega]; rfl
        · rw [if_neg h0, if_neg (by omega)]
          exact hc i hi
theorem SlA.size {w : World} {g : Nat} {d : Array S50} (h : SlA z w g d) : g < w.heap.size := by
  obtain ⟨cs, hb, _, _⟩ := h
  exact blk_lt hb
theorem SlA.kept {w w' : World} {g : Nat} {d : Array S50} (h : SlA z w g d) (e : w'.heap[g]? = w.heap[g]?) : SlA z w' g d := by
  obtain ⟨cs, hb, hz, hc⟩ := h
  exact ⟨cs, e.trans hb, hz, hc⟩
theorem SlA.below {w w' : World} {g : Nat} {d : Array S50} (h : SlA z w g d) (hb : Below w.heap.size w w') : SlA z w' g d := h.kept (hb.block g h.size)
theorem put4_below {B : Nat} {w0 w : World} (h : Below B w0 w) {g : Nat} (hg : B ≤ g) (k : Nat) (p : S50) : Below B w0 (put4 w g k p) :=
  Below.setCell (Below.setCell (Below.setCell (Below.setCell h hg _) hg _) hg _) hg _
theorem st50_run {o : Oper} {ev : Operand → Value} {W : World} {p v : Operand} {g k : Nat} {d : Array S50} {s : S50} (hop : o.op = .store 50 p v) (hp : ev p = .pointer (some ⟨g, k * 4, none⟩)) (hv : ev v = slA s) (hd : SlA z W g d) (hk : k < d.size) :
    (execOp ev o).run Tryd.prog W = .ok .skip (put4 W g k s) := by
  have hu50 := Tryd.underlying50
  obtain ⟨c0, c1, c2, c3, hf⟩ := hd.at hk
  have f0 := hf (k * 4)
  have f1 := hf (k * 4 + 1)
  have f2 := hf (k * 4 + 2)
  have f3 := hf (k * 4 + 3)
  unfold slA at hv
  unfold put4
  clear hf
  go_simp
section
variable {P : Program} {ops : Array Oper} {Q : Exit → Act → World → Prop} {md : Region.Mode} {S : World → Prop} {ds : List Nat}
end
variable {z : Nat}
open Go.RowKit YtmnhcbaocoofoaaDoorW.PrintWords YtmnhcbaocoofoaaDoorW.PrintLast YtmnhcbaocoofoaaDoorW.PrintMore
open Go.Sort (swp SWO PermIn SortedIn)
theorem w64n {x : Int} (h0 : -9223372036854775808 ≤ x) (h1 : x ≤ 9223372036854775807) : wrap64 x = x := by unfold wrap64; omega
def swapR.T3 : Bool × List (List Nat × List Nat) := (true, [([], []), ([], []), ([], []), ([1, 2], [1, 2]), ([], []), ([], []), ([], []), ([5, 6], [5, 6]), ([], []), ([], []), ([], []), ([9, 10], [9, 10]), ([8, 11], [8, 11]), ([12], [12]), ([], []), ([], []), ([], []), ([15, 16], [15, 16]), ([14, 17], [14, 17]), ([18], [18]), ([0, 3, 0, 1, 2, 3, 8, 9, 10, 11, 12, 13, 19], [0, 3]), ([20, 13, 0, 1, 2, 3, 8, 9, 10, 11, 12, 13, 19], [13, 20]), ([4, 7, 0, 1, 2, 3, 4, 5, 6, 7, 8, 9, 10, 11, 12, 13, 14, 15, 16, 17, 18, 19, 20, 21], [4, 7]), ([22, 19, 21, 0, 1, 2, 3, 4, 5, 6, 7, 8, 9, 10, 11, 12, 13, 14, 15, 16, 17, 18, 19, 20, 21], [19, 22])])
def swapR.B3 : List Nat := [0, 0, 0, 6, 0, 0, 0, 96, 0, 0, 0, 1536, 3840, 7936, 0, 0, 0, 98304, 245760, 507904, 1048335, 2096911, 4194303, 8388607]
theorem swapR.tab3 : rtab .any (opsOf Tryd.f99 3) = swapR.T3 := by kernel_rfl
theorem swapR.bits3 : waitsOk swapR.T3.2 swapR.B3 = true := by kernel_rfl
set_option maxHeartbeats 4000000 in
set_option maxRecDepth 100000 in
theorem swap_calls (B g n c a b m : Nat) (cv : Value) (d : Array S50) (w0 w : World) (hd : SlA z w g d) (hn : d.size = n) (hnc : n ≤ c) (hB : Below B w0 w) (hg : B ≤ g) (hab : a + m ≤ b) (hbm : b + m ≤ n) (hN : n ≤ 1000000) :
    Calls Tryd.prog 99 #[.slice (some ⟨g, 0, none⟩) n c, .int .i64 (a : Int), .int .i64 (b : Int), .int .i64 (m : Int), cv] w fun e w' => e = .returned (.tuple #[]) ∧
      (∃ d', SlA z w' g d' ∧ Ben.Moved (Ben.swI a b m) d d' ∧ PermIn a (b + m) d d') ∧ Below B w0 w' := by
  have HF := Aside0.mk (show a + m ≤ b ∧ b + m ≤ n ∧ n ≤ 1000000 ∧ d.size = n from ⟨hab, hbm, hN, hn⟩)
  have HG := Aside0.mk hg
  have HD0 : Aside0 (∃ d', SlA z w g d' ∧ Ben.Moved (Ben.swI a b 0) d d' ∧ PermIn a (b + m) d d') := ⟨d, hd, Ben.sw_start a b d, Go.Sort.permIn_refl d a (b + m)⟩
  have HB0 := Aside0.mk hB
  clear hd hn hB hg hab hbm hN
  go_enter Tryd.func99, Tryd.ntmps99
  go_wp2
  go_loopg [10] m (fun f v10 wr => ∃ i : Nat, i + f = m ∧ v10 = .int .i64 ((i : Nat) : Int) ∧ Aside0 (∃ d', SlA z wr g d' ∧ Ben.Moved (Ben.swI a b i) d d' ∧ PermIn a (b + m) d d') ∧ Aside0 (Below B w0 wr))
  case atStart => exact ⟨0, Nat.zero_add _, rfl, HD0, HB0⟩
  case round =>
    obtain ⟨i, hi, rfl, HD, HB⟩ := hrel
    clear HD0 HB0
    by_cases hlt : i < m
    · obtain ⟨f, rfl⟩ : ∃ q, gk = q + 1 := ⟨gk - 1, by omega⟩
      have HQ := Aside0.mk (show i + 1 + f = m by omega)
      have hltI : ((i : Nat) : Int) < ((m : Nat) : Int) := by omega
      have HIB := Aside0.mk (show i < 1000000 from by have := HF.out; omega)
      have hw1 : wrap64 (((i : Nat) : Int) + 1) = ((i : Nat) : Int) + 1 := by have := HIB.out; exact w64n (by omega) (by omega)
      obtain ⟨dk, hdk, hmv, hpm⟩ := HD.out
      have hsz : dk.size = n := hpm.1.trans HF.out.2.2.2
      obtain ⟨x, hx⟩ : ∃ x, x = a + i := ⟨_, rfl⟩
      obtain ⟨y, hy⟩ : ∃ y, y = b + i := ⟨_, rfl⟩
      have HX := Aside0.mk (show x < dk.size ∧ y < dk.size from by have := HF.out; omega)
      have hs1 : IntKind.i64.wrap (((a : Nat) : Int) + ((i : Nat) : Int)) = ((x : Nat) : Int) := by have := HF.out; rw [IntWalk.i64_in _ (by omega)]; omega
      have hs2 : IntKind.i64.wrap (((b : Nat) : Int) + ((i : Nat) : Int)) = ((y : Nat) : Int) := by have := HF.out; rw [IntWalk.i64_in _ (by omega)]; omega
      have hxI : ((x : Nat) : Int) < ((n : Nat) : Int) := by have := HX.out; omega
      have hyI : ((y : Nat) : Int) < ((n : Nat) : Int) := by have := HX.out; omega
      have HM1 : Aside0 (Ben.Moved (Ben.swI a b (i + 1)) d (swp dk x y)) := ⟨by rw [hx, hy]; exact Ben.sw_step (by have := HF.out; omega) (by have := HF.out; omega) hmv⟩
      have HP1 : Aside0 (PermIn a (b + m) d (swp dk x y)) := ⟨Go.Sort.permIn_trans _ _ _ _ _ hpm (Go.Sort.swp_permIn _ _ _ _ _ (by omega) (by have := HF.out; omega) (by have := HF.out; omega) (by have := HF.out; omega) (by have := HF.out; omega))⟩
      have HDD := Aside0.mk (show SlA z wr.drew g dk from hdk)
      have HBD := Aside0.mk (below_drew HB.out)
      obtain ⟨x0, x1, x2, x3, xf⟩ := HDD.out.at HX.out.1
      obtain ⟨y0, y1, y2, y3, _⟩ := HDD.out.at HX.out.2
      clear hmv hpm hsz hx hy hdk hlt hi HD HB xf
      obtain ⟨px, hpx⟩ : ∃ p, p = dk[x]! := ⟨_, rfl⟩
      obtain ⟨py, hpy⟩ : ∃ p, p = dk[y]! := ⟨_, rfl⟩
      rw [← hpx] at x0 x1 x2 x3
      rw [← hpy] at y0 y1 y2 y3
      have HPX := Aside0.mk hpx
      have HPY := Aside0.mk hpy
      clear hpx hpy
      go_wp2
      refine start_ (n := 24) (S := fun w' => w'.cell? ⟨g, x * 4, none⟩ = some (.int .i64 px.f0) ∧ w'.cell? ⟨g, x * 4 + 1, none⟩ = some (.int .i64 px.f1) ∧ w'.cell? ⟨g, x * 4 + 2, none⟩ = some (.int .i64 px.f2) ∧ w'.cell? ⟨g, x * 4 + 3, none⟩ = some (.int .i64 px.f3) ∧ w'.cell? ⟨g, y * 4, none⟩ = some (.int .i64 py.f0) ∧ w'.cell? ⟨g, y * 4 + 1, none⟩ = some (.int .i64 py.f1) ∧ w'.cell? ⟨g, y * 4 + 2, none⟩ = some (.int .i64 py.f2) ∧ w'.cell? ⟨g, y * 4 + 3, none⟩ = some (.int .i64 py.f3)) (ds := [21, 23]) (Bs 0 24) (by kernel_rfl) rfl rfl ⟨x0, x1, x2, x3, y0, y1, y2, y3⟩ (fun hHeld => ?_)
      generalize wr.drew = w4 at HDD HBD x0 x1 x2 x3 y0 y1 y2 y3 hHeld ⊢
      refine with_tabW swapR.tab3 swapR.bits3 (fun HT_ HW_ => ?_)
      refine pu 0 16 (Bs 1 24) HT_ ?_
      refine pu 1 17 (Bs 2 24) HT_ ?_
      refine pu 2 18 (Bs 3 24) HT_ ?_
      refine pu 3 19 (Bs 4 24) HT_ ?_
      refine pu 4 20 (Bs 5 24) HT_ ?_
      refine pu 5 21 (Bs 6 24) HT_ ?_
      refine pu 6 22 (Bs 7 24) HT_ ?_
      refine pu 7 23 (Bs 8 24) HT_ ?_
      refine pu 8 24 (Bs 9 24) HT_ ?_
      refine pu 9 25 (Bs 10 24) HT_ ?_
      refine pu 10 26 (Bs 11 24) HT_ ?_
      refine pu 11 27 (Bs 12 24) HT_ ?_
      refine pu 12 28 (Bs 13 24) HT_ ?_
      refine pu 14 30 (Br [13,1,1,9]) HT_ ?_
      refine pu 15 31 (Br [13,1,2,8]) HT_ ?_
      refine pu 16 32 (Br [13,1,3,7]) HT_ ?_
      refine pu 17 33 (Br [13,1,4,6]) HT_ ?_
      refine pu 18 34 (Br [13,1,5,5]) HT_ ?_
      refine ta 13 29 (Bs 19 24) HT_ HW_ hHeld ?_
      refine ta 19 35 (Bs 20 24) HT_ HW_ hHeld ?_
      refine pu 20 36 (Bs 21 24) HT_ ?_
      refine last_ (i := 21) (N := none) (Bs 22 24) rfl rfl (one_of HT_.out (by kernel_rfl)) (by decide) (fun K hK => ?_)
      have HS1 := Aside0.mk (HDD.out.put HX.out.1 py)
      refine skip_ (by rfl) rfl (st50_run (g := g) (k := x) (s := py) rfl rfl rfl HDD.out HX.out.1) ?_
      refine hK.out _ _ ?_
      clear hK K
      refine pu 22 37 (Bs 23 24) HT_ ?_
      refine last_ (i := 23) (N := none) (Bs 24 24) rfl rfl (one_of HT_.out (by kernel_rfl)) (by decide) (fun K hK => ?_)
      have HS2 := Aside0.mk (HS1.out.put (k := y) (by rw [Array.size_setIfInBounds]; exact HX.out.2) px)
      refine skip_ (by rfl) rfl (st50_run (g := g) (k := y) (s := px) rfl rfl rfl HS1.out (by rw [Array.size_setIfInBounds]; exact HX.out.2)) ?_
      have HB5 := Aside0.mk (put4_below (put4_below HBD.out HG.out x py) HG.out y px)
      generalize put4 (put4 w4 g x py) g y px = w5 at HS2 HB5 ⊢
      refine hK.out _ _ ?_
      clear hK K
      refine done_ (done_of HT_.out (by kernel_rfl)) ?_
      have HD5 : Aside0 (SlA z w5 g (swp dk x y)) := ⟨by have h := HS2.out; rw [HPX.out, HPY.out] at h; exact h⟩
      go_wp2
      go_roundg f
      case measure => exact Nat.lt_succ_self _
      case rel => exact ⟨i + 1, HQ.out, by go_num, ⟨_, HD5.out, HM1.out, HP1.out⟩, HB5⟩
    · obtain rfl : i = m := by omega
      have HE := HD.out
      clear hlt hi
      go_wp2
      go_end0
      exact ⟨rfl, HD.out, HB.out⟩
variable {z : Nat}
open Go.RowKit YtmnhcbaocoofoaaDoorW.PrintWords YtmnhcbaocoofoaaDoorW.PrintLast YtmnhcbaocoofoaaDoorW.PrintMore
open Go.Sort (swp SWO PermIn SortedIn)
theorem perm_in {d d' : Array S50} {a b a' b' : Nat} (ha : a' ≤ a) (hb : b ≤ b') (hs : b' ≤ d.size) (h : PermIn a b d d') : PermIn a' b' d d' := Go.Sort.permIn_mono _ _ _ _ _ _ ha hb hs h
set_option maxHeartbeats 4000000 in
set_option maxRecDepth 100000 in
theorem rot_calls (B g n c a m b : Nat) (cv : Value) (d : Array S50) (w0 w : World) (hd : SlA z w g d) (hn : d.size = n) (hnc : n ≤ c) (hB : Below B w0 w) (hg : B ≤ g) (ham : a < m) (hmb : m < b) (hbn : b ≤ n) (hN : n ≤ 1000000) :
    Calls Tryd.prog 97 #[.slice (some ⟨g, 0, none⟩) n c, .int .i64 (a : Int), .int .i64 (m : Int), .int .i64 (b : Int), cv] w fun e w' => e = .returned (.tuple #[]) ∧
      (∃ d', SlA z w' g d' ∧ Ben.Moved (Ben.rotI a m b) d d' ∧ PermIn a b d d') ∧ Below B w0 w' := by
  have HF := Aside0.mk (show a < m ∧ m < b ∧ b ≤ n ∧ n ≤ 1000000 ∧ d.size = n ∧ n ≤ c from ⟨ham, hmb, hbn, hN, hn, hnc⟩)
  have HG := Aside0.mk hg
  have HD0 : Aside0 (∃ d', SlA z w g d' ∧ (∀ q, d[Ben.rotI a m b q]! = d'[Ben.rotI (m - (m - a)) m (m + (b - m)) q]!) ∧ PermIn a b d d') := ⟨d, hd, Ben.rot_start ham hmb d, Go.Sort.permIn_refl d a b⟩
  have HB0 := Aside0.mk hB
  have hs1 : ((m : Nat) : Int) - ((a : Nat) : Int) = ((m - a : Nat) : Int) := by omega
  have hs2 : ((b : Nat) : Int) - ((m : Nat) : Int) = ((b - m : Nat) : Int) := by omega
  have hb1 : ((m : Nat) : Int) ≤ 1000000 := by omega
  have hb2 : ((b : Nat) : Int) ≤ 1000000 := by omega
  have hb3 : ((a : Nat) : Int) ≤ 1000000 := by omega
  clear hd hn hB hg ham hmb hbn hN hnc
  go_enter Tryd.func97, Tryd.ntmps97
  go_wp2
  clear hs1 hs2
  go_loopg [10, 11] (b - a) (fun f v10 v11 wr => ∃ i j : Nat, v10 = .int .i64 ((i : Nat) : Int) ∧ v11 = .int .i64 ((j : Nat) : Int) ∧ Aside0 (1 ≤ i ∧ 1 ≤ j ∧ i ≤ m - a ∧ j ≤ b - m ∧ i + j ≤ f) ∧ Aside0 (∃ d', SlA z wr g d' ∧ (∀ q, d[Ben.rotI a m b q]! = d'[Ben.rotI (m - i) m (m + j) q]!) ∧ PermIn a b d d') ∧ Aside0 (Below B w0 wr))
  case atStart => exact ⟨m - a, b - m, by first | rfl | (congr 1; omega), by first | rfl | (congr 1; omega), ⟨by have := HF.out; omega⟩, HD0, HB0⟩
  case round =>
    obtain ⟨i, j, rfl, rfl, HI, HD, HB⟩ := hrel
    clear HD0 HB0
    obtain ⟨dk, hdk, hmv, hpm⟩ := HD.out
    have hsz : dk.size = n := hpm.1.trans HF.out.2.2.2.2.1
    have hi1 : ((i : Nat) : Int) ≤ 1000000 := by have := HI.out; have := HF.out; omega
    have hj1 : ((j : Nat) : Int) ≤ 1000000 := by have := HI.out; have := HF.out; omega
    by_cases hij : i = j
    · have hne : (i != j) = false := by simp [hij]
      have hne2 : (((i : Nat) : Int) != ((j : Nat) : Int)) = false := by rw [bne_eq_false_iff_eq]; omega
      obtain ⟨x, hx⟩ : ∃ x, x = m - i := ⟨_, rfl⟩
      have hs : ((m : Nat) : Int) - ((i : Nat) : Int) = ((x : Nat) : Int) := by have := HI.out; have := HF.out; omega
      have HC := Aside0.mk (swap_calls B g n c x m i cv dk w0 wr hdk hsz HF.out.2.2.2.2.2 HB.out HG.out (by have := HI.out; have := HF.out; omega) (by have := HI.out; have := HF.out; omega) HF.out.2.2.2.1)
      have HE : Aside0 (∀ d', Ben.Moved (Ben.swI x m i) dk d' → PermIn x (m + i) dk d' → Ben.Moved (Ben.rotI a m b) d d' ∧ PermIn a b d d') := ⟨fun d' h1 h2 => ⟨fun q => by
          rw [hmv q, h1 q, hx, ← hij, Ben.rot_same (by have := HI.out; have := HF.out; omega)],
        Go.Sort.permIn_trans _ _ _ _ _ hpm (perm_in (by have := HI.out; have := HF.out; omega) (by have := HI.out; have := HF.out; omega) (by have := HF.out; omega) h2)⟩⟩
      clear hdk hmv hpm hsz hij hx HD
      go_wp2_with (first | (go_at_call 99; go_must (refine HC.out.mono ?_); rintro e w1 ⟨rfl, ⟨d1, hd1, hm1, hp1⟩, hb1⟩; have HD1 := Aside0.mk hd1; have HM1 := Aside0.mk (HE.out d1 hm1 hp1); have HB1 := Aside0.mk hb1; clear hd1 hm1 hp1 hb1))
      go_end0
      exact ⟨rfl, ⟨_, HD1.out, HM1.out⟩, HB1.out⟩
    · have hne : (i != j) = true := by simp [hij]
      have hne2 : (((i : Nat) : Int) != ((j : Nat) : Int)) = true := by rw [bne_iff_ne]; omega
      obtain ⟨f, rfl⟩ : ∃ q, gk = q + 1 := ⟨gk - 1, by have := HI.out; omega⟩
      obtain ⟨x, hx⟩ : ∃ x, x = m - i := ⟨_, rfl⟩
      have hs : ((m : Nat) : Int) - ((i : Nat) : Int) = ((x : Nat) : Int) := by have := HI.out; have := HF.out; omega
      by_cases hgt : j < i
      · have hgI : ((j : Nat) : Int) < ((i : Nat) : Int) := by omega
        have HC := Aside0.mk (swap_calls B g n c x m j cv dk w0 wr hdk hsz HF.out.2.2.2.2.2 HB.out HG.out (by have := HI.out; have := HF.out; omega) (by have := HI.out; have := HF.out; omega) HF.out.2.2.2.1)
        have hs3 : ((i : Nat) : Int) - ((j : Nat) : Int) = ((i - j : Nat) : Int) := by omega
        have HI2 : Aside0 (1 ≤ i - j ∧ 1 ≤ j ∧ i - j ≤ m - a ∧ j ≤ b - m ∧ i - j + j ≤ f) := ⟨by have := HI.out; omega⟩
        have HE : Aside0 (∀ d', Ben.Moved (Ben.swI x m j) dk d' → PermIn x (m + j) dk d' → (∀ q, d[Ben.rotI a m b q]! = d'[Ben.rotI (m - (i - j)) m (m + j) q]!) ∧ PermIn a b d d') := ⟨fun d' h1 h2 => ⟨fun q => by
            rw [hmv q, Ben.rot_more hgt (by have := HI.out; have := HF.out; omega), h1, hx],
          Go.Sort.permIn_trans _ _ _ _ _ hpm (perm_in (by have := HI.out; have := HF.out; omega) (by have := HI.out; have := HF.out; omega) (by have := HF.out; omega) h2)⟩⟩
        clear hdk hmv hpm hsz hij hx HD hgt
        go_wp2_with (first | (go_at_call 99; go_must (refine HC.out.mono ?_); rintro e w1 ⟨rfl, ⟨d1, hd1, hm1, hp1⟩, hb1⟩; have HD1 := Aside0.mk hd1; have HM1 := Aside0.mk (HE.out d1 hm1 hp1); have HB1 := Aside0.mk hb1; clear hd1 hm1 hp1 hb1))
        go_roundg f
        case measure => exact Nat.lt_succ_self _
        case rel => exact ⟨i - j, j, by first | rfl | (rw [hs3]), rfl, HI2, ⟨_, HD1.out, HM1.out.1, HM1.out.2⟩, HB1⟩
      · have hlt : i < j := by omega
        have hgI : ¬ ((j : Nat) : Int) < ((i : Nat) : Int) := by omega
        have hs3 : ((j : Nat) : Int) - ((i : Nat) : Int) = ((j - i : Nat) : Int) := by omega
        obtain ⟨y, hy⟩ : ∃ y, y = m + j - i := ⟨_, rfl⟩
        have hs4 : ((m : Nat) : Int) + ((j : Nat) : Int) - ((i : Nat) : Int) = ((y : Nat) : Int) := by omega
        have HC := Aside0.mk (swap_calls B g n c x y i cv dk w0 wr hdk hsz HF.out.2.2.2.2.2 HB.out HG.out (by have := HI.out; have := HF.out; omega) (by have := HI.out; have := HF.out; omega) HF.out.2.2.2.1)
        have HI2 : Aside0 (1 ≤ i ∧ 1 ≤ j - i ∧ i ≤ m - a ∧ j - i ≤ b - m ∧ i + (j - i) ≤ f) := ⟨by have := HI.out; omega⟩
        have HE : Aside0 (∀ d', Ben.Moved (Ben.swI x y i) dk d' → PermIn x (y + i) dk d' → (∀ q, d[Ben.rotI a m b q]! = d'[Ben.rotI (m - i) m (m + (j - i)) q]!) ∧ PermIn a b d d') := ⟨fun d' h1 h2 => ⟨fun q => by
            rw [hmv q, Ben.rot_less hlt (by have := HI.out; have := HF.out; omega), h1, hx, hy],
          Go.Sort.permIn_trans _ _ _ _ _ hpm (perm_in (by have := HI.out; have := HF.out; omega) (by have := HI.out; have := HF.out; omega) (by have := HF.out; omega) h2)⟩⟩
        clear hdk hmv hpm hsz hij hx hy HD hgt hlt
        go_wp2_with (first | (go_at_call 99; go_must (refine HC.out.mono ?_); rintro e w1 ⟨rfl, ⟨d1, hd1, hm1, hp1⟩, hb1⟩; have HD1 := Aside0.mk hd1; have HM1 := Aside0.mk (HE.out d1 hm1 hp1); have HB1 := Aside0.mk hb1; clear hd1 hm1 hp1 hb1))
        go_roundg f
        case measure => exact Nat.lt_succ_self _
        case rel => exact ⟨i, j - i, rfl, by first | rfl | (rw [hs3]), HI2, ⟨_, HD1.out, HM1.out.1, HM1.out.2⟩, HB1⟩
variable {z : Nat}
open Go.RowKit YtmnhcbaocoofoaaDoorW.PrintWords YtmnhcbaocoofoaaDoorW.PrintLast YtmnhcbaocoofoaaDoorW.PrintMore
open Go.Sort (swp SWO PermIn SortedIn Ins)
def CmpOk (B : Nat) (w0 : World) (cv : Value) (lt : S50 → S50 → Bool) : Prop := ∀ (p q : S50) (W : World), Below B w0 W → ∃ (fid : FuncId) (args : Array Value),
  (∀ (o : Oper) (a : Act) (x y z : Operand) (ts : Array TypeId), o.op = .call { callee := .value x, args := #[y, z], argTypes := ts } → a.eval x = cv → a.eval y = slA p → a.eval z = slA q → (execOp a.eval o).run Tryd.prog W = .ok (.enter fid args) W) ∧
  Calls Tryd.prog fid args W fun e w' => ∃ r : Int, e = .returned (.int .i64 r) ∧ decide (r < 0) = lt p q ∧ Below W.heap.size W w'
theorem cmp_step {ops : Array Oper} {Q : Exit → Act → World → Prop} {oi : Oper} {N : Option Tmp} {a : Act} {w : World} {K : Act → World → Prop} {B : Nat} {w0 : World} {cv : Value} {lt : S50 → S50 → Bool} {x y z : Operand} {ts : Array TypeId} (hc : CmpOk B w0 cv lt) (hb : Below B w0 w) (p q : S50)
    (h : ∀ (r : Int) w', decide (r < 0) = lt p q → Below w.heap.size w w' → K (a.put N (.int .i64 r)) w')
    (hw : Region.wanted oi (yielded ops a.tmps) = true := by rfl) (hN : oi.dst = N := by rfl) (hop : oi.op = .call { callee := .value x, args := #[y, z], argTypes := ts } := by rfl) (hx : a.eval x = cv := by rfl) (hy : a.eval y = slA p := by rfl) (hz : a.eval z = slA q := by rfl) :
    if Region.wanted oi (yielded ops a.tmps) = true then Oper.wp Tryd.prog oi a w K Q else K (a.put N undef) w := by
  obtain ⟨fid, args, h1, h2⟩ := hc p q w hb
  refine call_ fid args hw hN (h1 oi a x y z ts hop hx hy hz) (h2.mono fun e w' ⟨r, e1, e2, e3⟩ => ⟨_, e1, h r w' e2 e3⟩)
theorem ins_start {lt : S50 → S50 → Bool} {a i : Nat} {d : Array S50} (h : SortedIn lt a i d) : Ins lt a i i d :=
  ⟨fun p q hp hpq hq h1 h2 => h p q hp hpq (by omega), fun q hq hq2 => by omega⟩
def insR.T4 : Bool × List (List Nat × List Nat) := (true, [([], []), ([], []), ([0, 1], [0, 1]), ([2], [2]), ([3], [3]), ([3], [3]), ([3], [3]), ([5, 6, 3], [3, 5, 6]), ([7, 3], [3, 7]), ([3], [3]), ([3], [3]), ([10, 3], [3, 10]), ([9, 11, 3], [3, 9, 11]), ([12, 3], [3, 12]), ([4, 8, 13, 3, 3], [3, 4, 8, 13]), ([14, 3], [3, 14]), ([3, 15], [3, 15])])
def insR.B4 : List Nat := [0, 0, 3, 7, 15, 15, 15, 111, 239, 15, 15, 1039, 3599, 7695, 16383, 32767, 65535]
theorem insR.tab4 : rtab .any (opsOf Tryd.f90 4) = insR.T4 := by kernel_rfl
theorem insR.bits4 : waitsOk insR.T4.2 insR.B4 = true := by kernel_rfl
def insR.T6 : Bool × List (List Nat × List Nat) := (true, [([], []), ([], []), ([], []), ([], []), ([3], [3]), ([], []), ([], []), ([6], [6]), ([5, 7], [5, 7]), ([8], [8]), ([], []), ([], []), ([10, 11], [10, 11]), ([12], [12]), ([0, 1, 0, 1, 5, 6, 7, 8, 9, 13], [0, 1]), ([14, 9, 0, 1, 5, 6, 7, 8, 9, 13], [9, 14]), ([2, 4, 0, 1, 2, 3, 4, 5, 6, 7, 8, 9, 10, 11, 12, 13, 14, 15], [2, 4]), ([16, 13, 15, 0, 1, 2, 3, 4, 5, 6, 7, 8, 9, 10, 11, 12, 13, 14, 15], [13, 16])])
def insR.B6 : List Nat := [0, 0, 0, 0, 8, 0, 0, 64, 224, 480, 0, 0, 3072, 7168, 16355, 32739, 65535, 131071]
theorem insR.tab6 : rtab .any (opsOf Tryd.f90 6) = insR.T6 := by kernel_rfl
theorem insR.bits6 : waitsOk insR.T6.2 insR.B6 = true := by kernel_rfl
set_option maxHeartbeats 4000000 in
set_option maxRecDepth 100000 in
theorem ins_calls (B g n c a b : Nat) (cv : Value) (lt : S50 → S50 → Bool) (hS : SWO lt) (d : Array S50) (w0 w : World) (hcv : CmpOk B w0 cv lt) (hd : SlA z w g d) (hn : d.size = n) (hnc : n ≤ c) (hB : Below B w0 w) (hBw : B ≤ w0.heap.size) (hg : B ≤ g) (hab : a ≤ b) (hbn : b ≤ n) (hN : n ≤ 1000000) :
    Calls Tryd.prog 90 #[.slice (some ⟨g, 0, none⟩) n c, .int .i64 (a : Int), .int .i64 (b : Int), cv] w fun e w' => e = .returned (.tuple #[]) ∧
      (∃ d', SlA z w' g d' ∧ PermIn a b d d' ∧ SortedIn lt a b d') ∧ Below B w0 w' := by
  have HF := Aside0.mk (show a ≤ b ∧ b ≤ n ∧ n ≤ 1000000 ∧ d.size = n ∧ n ≤ c from ⟨hab, hbn, hN, hn, hnc⟩)
  have HG := Aside0.mk hg
  have HCV := Aside0.mk hcv
  have HS := Aside0.mk hS
  have HBW := Aside0.mk hBw
  have HD0 : Aside0 (∃ d', SlA z w g d' ∧ PermIn a b d d' ∧ SortedIn lt a (a + 1) d') := ⟨d, hd, Go.Sort.permIn_refl d a b, Ben.sorted_one hS (Nat.le_refl _)⟩
  have HB0 := Aside0.mk hB
  have ha1 : ((a : Nat) : Int) ≤ 1000000 := by omega
  clear hd hn hB hg hab hbn hN hnc hcv hS hBw
  go_enter Tryd.func90, Tryd.ntmps90
  go_wp2
  go_loopg [8] b (fun f v8 wr => ∃ i : Nat, v8 = .int .i64 ((i : Nat) : Int) ∧ Aside0 (a + 1 ≤ i ∧ (i ≤ b ∨ i = a + 1) ∧ b ≤ i + f) ∧ Aside0 (∃ d', SlA z wr g d' ∧ PermIn a b d d' ∧ SortedIn lt a i d') ∧ Aside0 (Below B w0 wr))
  case atStart => exact ⟨a + 1, by go_num, ⟨by omega⟩, HD0, HB0⟩
  case round =>
    obtain ⟨i, rfl, HI, HD, HB⟩ := hrel
    clear HD0 HB0
    by_cases hib : i < b
    · have hibI : ((i : Nat) : Int) < ((b : Nat) : Int) := by omega
      obtain ⟨f, rfl⟩ : ∃ q, gk = q + 1 := ⟨gk - 1, by have := HI.out; omega⟩
      have HIB := Aside0.mk hib
      have HJ0 : Aside0 (∃ d', SlA z wr g d' ∧ PermIn a b d d' ∧ Ins lt a i i d') := ⟨by
        obtain ⟨d', h1, h2, h3⟩ := HD.out
        exact ⟨d', h1, h2, ins_start h3⟩⟩
      clear hib
      go_wp2
      go_loopg [9] i (fun f2 v9 wx => ∃ j : Nat, v9 = .int .i64 ((j : Nat) : Int) ∧ Aside0 (a ≤ j ∧ j ≤ i ∧ j ≤ f2) ∧ Aside0 (∃ d', SlA z wx g d' ∧ PermIn a b d d' ∧ Ins lt a j i d') ∧ Aside0 (Below B w0 wx))
      case atStart => exact ⟨i, rfl, ⟨by have := HI.out; omega⟩, HJ0, HB⟩
      case round =>
        obtain ⟨j, rfl, HJ, HDJ, HBJ⟩ := hrel
        clear HJ0
        obtain ⟨dk, hdk, hpm, hin⟩ := HDJ.out
        have hsz : dk.size = n := hpm.1.trans HF.out.2.2.2.1
        have HI3 : Aside0 (SortedIn lt a (i + 1) dk → (a + 1 ≤ i + 1 ∧ (i + 1 ≤ b ∨ i + 1 = a + 1) ∧ b ≤ i + 1 + f)) := ⟨fun _ => by have := HI.out; have := HIB.out; omega⟩
        have hi1 : ((i : Nat) : Int) ≤ 1000000 := by have := HIB.out; have := HF.out; omega
        by_cases hja : a < j
        · obtain ⟨f2, rfl⟩ : ∃ q, gk = q + 1 := ⟨gk - 1, by have := HJ.out; omega⟩
          obtain ⟨y, hy⟩ : ∃ y, j = y + 1 := ⟨j - 1, by omega⟩
          obtain ⟨x, hx⟩ : ∃ x, x = j := ⟨_, rfl⟩
          rw [← hx] at hy
          rw [← hx]
          have hjI : decide (((a : Nat) : Int) < ((x : Nat) : Int)) = true := decide_eq_true (by omega)
          have hjN : decide (a < x) = true := decide_eq_true (by omega)
          have hjL : a < x := by omega
          have hs1 : IntKind.i64.wrap (((x : Nat) : Int) - 1) = ((y : Nat) : Int) := by have := HJ.out; rw [IntWalk.i64_in _ (by omega)]; omega
          have HX := Aside0.mk (show x < dk.size ∧ y < dk.size from by have := HJ.out; have := HF.out; have := HIB.out; omega)
          have HY := Aside0.mk (show x = y + 1 ∧ a ≤ y ∧ x ≤ i from by have := HJ.out; have := HF.out; have := HIB.out; omega)
          have hxI : ((x : Nat) : Int) < ((n : Nat) : Int) := by have := HX.out; have := HY.out; omega
          have hyI : ((y : Nat) : Int) < ((n : Nat) : Int) := by have := HX.out; have := HY.out; omega
          have HDD := Aside0.mk (show SlA z wr.drew g dk from hdk)
          have HBD := Aside0.mk (below_drew HBJ.out)
          obtain ⟨x0, x1, x2, x3, xf⟩ := HDD.out.at HX.out.1
          obtain ⟨y0, y1, y2, y3, _⟩ := HDD.out.at HX.out.2
          obtain ⟨px, hpx⟩ : ∃ p, p = dk[x]! := ⟨_, rfl⟩
          obtain ⟨py, hpy⟩ : ∃ p, p = dk[y]! := ⟨_, rfl⟩
          rw [← hpx] at x0 x1 x2 x3
          rw [← hpy] at y0 y1 y2 y3
          have HPX := Aside0.mk hpx
          have HPY := Aside0.mk hpy
          have HPM := Aside0.mk hpm
          have HIN := Aside0.mk (show Ins lt a (y + 1) i dk from by rw [← HY.out.1, hx]; exact hin)
          have HJ2 := Aside0.mk (show y ≤ f2 from by have := HJ.out; omega)
          by_cases hl : lt px py = true
          · have HL := Aside0.mk hl
            have HIN2 : Aside0 (Ins lt a y i (swp dk x y)) := ⟨by
              rw [HY.out.1]
              exact HIN.out.step (by rw [← HY.out.1, ← HPX.out, ← HPY.out]; exact HL.out) HY.out.2.1 (by have := HX.out; have := HY.out; omega)⟩
            have HPM2 : Aside0 (PermIn a b d (swp dk x y)) := ⟨Go.Sort.permIn_trans _ _ _ _ _ HPM.out (Go.Sort.swp_permIn _ _ _ _ _ (by have := HX.out; have := HY.out; omega) (by have := HX.out; have := HY.out; have := HIB.out; omega) (by have := HX.out; have := HY.out; omega) (by have := HX.out; have := HY.out; have := HIB.out; omega) (by have := HF.out; omega))⟩
            clear hdk hpm hin hsz hy hx hpx hpy hl hja xf HDJ HBJ
            go_wp2
            refine start_ (n := 17) (S := fun w' => w'.cell? ⟨g, x * 4, none⟩ = some (.int .i64 px.f0) ∧ w'.cell? ⟨g, x * 4 + 1, none⟩ = some (.int .i64 px.f1) ∧ w'.cell? ⟨g, x * 4 + 2, none⟩ = some (.int .i64 px.f2) ∧ w'.cell? ⟨g, x * 4 + 3, none⟩ = some (.int .i64 px.f3) ∧ w'.cell? ⟨g, y * 4, none⟩ = some (.int .i64 py.f0) ∧ w'.cell? ⟨g, y * 4 + 1, none⟩ = some (.int .i64 py.f1) ∧ w'.cell? ⟨g, y * 4 + 2, none⟩ = some (.int .i64 py.f2) ∧ w'.cell? ⟨g, y * 4 + 3, none⟩ = some (.int .i64 py.f3)) (ds := [14]) (Bs 0 17) (by kernel_rfl) rfl rfl ⟨x0, x1, x2, x3, y0, y1, y2, y3⟩ (fun hHeld => ?_)
            generalize wr.drew = w4 at HDD HBD x0 x1 x2 x3 y0 y1 y2 y3 hHeld ⊢
            refine with_tabW insR.tab4 insR.bits4 (fun HT_ HW_ => ?_)
            refine pu 0 18 (Bs 1 17) HT_ ?_
            refine pu 1 19 (Bs 2 17) HT_ ?_
            refine pu 2 20 (Bs 3 17) HT_ ?_
            refine pu 3 21 (Bs 4 17) HT_ ?_
            refine pu 4 22 (Bs 5 17) HT_ ?_
            refine pu 5 23 (Bs 6 17) HT_ ?_
            refine pu 6 24 (Bs 7 17) HT_ ?_
            refine pu 7 25 (Bs 8 17) HT_ ?_
            refine pu 9 27 (Br [8,1,1,7]) HT_ ?_
            refine pu 10 28 (Br [8,1,2,6]) HT_ ?_
            refine pu 11 29 (Br [8,1,3,5]) HT_ ?_
            refine pu 12 30 (Br [8,1,4,4]) HT_ ?_
            refine ta 8 26 (Bs 13 17) HT_ HW_ hHeld ?_
            refine ta 13 31 (Bs 14 17) HT_ HW_ hHeld ?_
            refine last_ (i := 14) (N := some 32) (Bs 15 17) rfl rfl (one_of HT_.out (by kernel_rfl)) (by decide) (fun K hK => ?_)
            refine cmp_step HCV.out HBD.out px py ?_
            intro r w5 hr hb5
            rw [HL.out] at hr
            have HD5 := Aside0.mk (HDD.out.below hb5)
            have HB5 := Aside0.mk (HBD.out.trans (hb5.mono (Nat.le_trans HBW.out HBD.out.size)))
            clear hb5
            refine hK.out _ _ ?_
            clear hK K
            refine nm 32 ?_
            refine pu 15 33 (Bs 16 17) HT_ ?_
            refine pu 16 34 (Bs 17 17) HT_ ?_
            refine done_ (done_of HT_.out (by kernel_rfl)) ?_
            clear x0 x1 x2 x3 y0 y1 y2 y3 hHeld HDD HBD hr hjI hjN hjL
            go_wp2
            have HDD := Aside0.mk (show SlA z w5.drew g dk from HD5.out)
            have HBD := Aside0.mk (below_drew HB5.out)
            obtain ⟨x0, x1, x2, x3, xf⟩ := HDD.out.at HX.out.1
            obtain ⟨y0, y1, y2, y3, _⟩ := HDD.out.at HX.out.2
            rw [← HPX.out] at x0 x1 x2 x3
            rw [← HPY.out] at y0 y1 y2 y3
            clear xf HD5 HB5
            refine start_ (n := 18) (S := fun w' => w'.cell? ⟨g, x * 4, none⟩ = some (.int .i64 px.f0) ∧ w'.cell? ⟨g, x * 4 + 1, none⟩ = some (.int .i64 px.f1) ∧ w'.cell? ⟨g, x * 4 + 2, none⟩ = some (.int .i64 px.f2) ∧ w'.cell? ⟨g, x * 4 + 3, none⟩ = some (.int .i64 px.f3) ∧ w'.cell? ⟨g, y * 4, none⟩ = some (.int .i64 py.f0) ∧ w'.cell? ⟨g, y * 4 + 1, none⟩ = some (.int .i64 py.f1) ∧ w'.cell? ⟨g, y * 4 + 2, none⟩ = some (.int .i64 py.f2) ∧ w'.cell? ⟨g, y * 4 + 3, none⟩ = some (.int .i64 py.f3)) (ds := [15, 17]) (Bs 0 18) (by kernel_rfl) rfl rfl ⟨x0, x1, x2, x3, y0, y1, y2, y3⟩ (fun hHeld => ?_)
            generalize w5.drew = w4 at HDD HBD x0 x1 x2 x3 y0 y1 y2 y3 hHeld ⊢
            refine with_tabW insR.tab6 insR.bits6 (fun HT_ HW_ => ?_)
            refine pu 0 37 (Bs 1 18) HT_ ?_
            refine pu 1 38 (Bs 2 18) HT_ ?_
            refine pu 2 39 (Bs 3 18) HT_ ?_
            refine pu 3 40 (Bs 4 18) HT_ ?_
            refine pu 4 41 (Bs 5 18) HT_ ?_
            refine pu 5 42 (Bs 6 18) HT_ ?_
            refine pu 6 43 (Bs 7 18) HT_ ?_
            refine pu 7 44 (Bs 8 18) HT_ ?_
            refine pu 8 45 (Bs 9 18) HT_ ?_
            refine pu 10 47 (Br [9,1,1,7]) HT_ ?_
            refine pu 11 48 (Br [9,1,2,6]) HT_ ?_
            refine pu 12 49 (Br [9,1,3,5]) HT_ ?_
            refine ta 9 46 (Bs 13 18) HT_ HW_ hHeld ?_
            refine ta 13 50 (Bs 14 18) HT_ HW_ hHeld ?_
            refine pu 14 51 (Bs 15 18) HT_ ?_
            refine last_ (i := 15) (N := none) (Bs 16 18) rfl rfl (one_of HT_.out (by kernel_rfl)) (by decide) (fun K hK => ?_)
            have HS1 := Aside0.mk (HDD.out.put HX.out.1 py)
            refine skip_ (by rfl) rfl (st50_run (g := g) (k := x) (s := py) rfl rfl rfl HDD.out HX.out.1) ?_
            refine hK.out _ _ ?_
            clear hK K
            refine pu 16 52 (Bs 17 18) HT_ ?_
            refine last_ (i := 17) (N := none) (Bs 18 18) rfl rfl (one_of HT_.out (by kernel_rfl)) (by decide) (fun K hK => ?_)
            have HS2 := Aside0.mk (HS1.out.put (k := y) (by rw [Array.size_setIfInBounds]; exact HX.out.2) px)
            refine skip_ (by rfl) rfl (st50_run (g := g) (k := y) (s := px) rfl rfl rfl HS1.out (by rw [Array.size_setIfInBounds]; exact HX.out.2)) ?_
            have HB5 := Aside0.mk (put4_below (put4_below HBD.out HG.out x py) HG.out y px)
            generalize put4 (put4 w4 g x py) g y px = w6 at HS2 HB5 ⊢
            refine hK.out _ _ ?_
            clear hK K
            refine done_ (done_of HT_.out (by kernel_rfl)) ?_
            have HD5 : Aside0 (SlA z w6 g (swp dk x y)) := ⟨by have h := HS2.out; rw [HPX.out, HPY.out] at h; exact h⟩
            go_wp2
            go_roundg f2
            case measure => exact Nat.lt_succ_self _
            case rel => exact ⟨y, rfl, ⟨by have := HX.out; have := HY.out; have := HJ2.out; omega⟩, ⟨_, HD5.out, HPM2.out, HIN2.out⟩, HB5⟩
          · have hl2 : lt px py = false := by simpa using hl
            have HL := Aside0.mk hl2
            have HSO : Aside0 (SortedIn lt a (i + 1) dk) := ⟨HIN.out.stop HS.out (Or.inr (by
              rw [show y + 1 - 1 = y by omega, ← HY.out.1, ← HPX.out, ← HPY.out]; exact HL.out))⟩
            clear hdk hpm hin hsz hy hx hpx hpy hl hl2 hja xf HDJ HBJ
            go_wp2
            refine start_ (n := 17) (S := fun w' => w'.cell? ⟨g, x * 4, none⟩ = some (.int .i64 px.f0) ∧ w'.cell? ⟨g, x * 4 + 1, none⟩ = some (.int .i64 px.f1) ∧ w'.cell? ⟨g, x * 4 + 2, none⟩ = some (.int .i64 px.f2) ∧ w'.cell? ⟨g, x * 4 + 3, none⟩ = some (.int .i64 px.f3) ∧ w'.cell? ⟨g, y * 4, none⟩ = some (.int .i64 py.f0) ∧ w'.cell? ⟨g, y * 4 + 1, none⟩ = some (.int .i64 py.f1) ∧ w'.cell? ⟨g, y * 4 + 2, none⟩ = some (.int .i64 py.f2) ∧ w'.cell? ⟨g, y * 4 + 3, none⟩ = some (.int .i64 py.f3)) (ds := [14]) (Bs 0 17) (by kernel_rfl) rfl rfl ⟨x0, x1, x2, x3, y0, y1, y2, y3⟩ (fun hHeld => ?_)
            generalize wr.drew = w4 at HDD HBD x0 x1 x2 x3 y0 y1 y2 y3 hHeld ⊢
            refine with_tabW insR.tab4 insR.bits4 (fun HT_ HW_ => ?_)
            refine pu 0 18 (Bs 1 17) HT_ ?_
            refine pu 1 19 (Bs 2 17) HT_ ?_
            refine pu 2 20 (Bs 3 17) HT_ ?_
            refine pu 3 21 (Bs 4 17) HT_ ?_
            refine pu 4 22 (Bs 5 17) HT_ ?_
            refine pu 5 23 (Bs 6 17) HT_ ?_
            refine pu 6 24 (Bs 7 17) HT_ ?_
            refine pu 7 25 (Bs 8 17) HT_ ?_
            refine pu 9 27 (Br [8,1,1,7]) HT_ ?_
            refine pu 10 28 (Br [8,1,2,6]) HT_ ?_
            refine pu 11 29 (Br [8,1,3,5]) HT_ ?_
            refine pu 12 30 (Br [8,1,4,4]) HT_ ?_
            refine ta 8 26 (Bs 13 17) HT_ HW_ hHeld ?_
            refine ta 13 31 (Bs 14 17) HT_ HW_ hHeld ?_
            refine last_ (i := 14) (N := some 32) (Bs 15 17) rfl rfl (one_of HT_.out (by kernel_rfl)) (by decide) (fun K hK => ?_)
            refine cmp_step HCV.out HBD.out px py ?_
            intro r w5 hr hb5
            rw [HL.out] at hr
            have HD5 := Aside0.mk (HDD.out.below hb5)
            have HB5 := Aside0.mk (HBD.out.trans (hb5.mono (Nat.le_trans HBW.out HBD.out.size)))
            clear hb5
            refine hK.out _ _ ?_
            clear hK K
            refine nm 32 ?_
            refine pu 15 33 (Bs 16 17) HT_ ?_
            refine pu 16 34 (Bs 17 17) HT_ ?_
            refine done_ (done_of HT_.out (by kernel_rfl)) ?_
            clear x0 x1 x2 x3 y0 y1 y2 y3 hHeld HDD HBD hr hjI hjN hjL
            go_wp2
            go_roundg f
            case measure => exact Nat.lt_succ_self _
            case rel => exact ⟨i + 1, by go_num, ⟨HI3.out HSO.out⟩, ⟨_, HD5.out, HPM.out, HSO.out⟩, HB5⟩
        · have hje : j = a := by have := HJ.out; omega
          have hjI : decide (((a : Nat) : Int) < ((j : Nat) : Int)) = false := decide_eq_false (by omega)
          have hjN : decide (a < j) = false := decide_eq_false (by omega)
          have hjL : ¬ a < j := by omega
          have HSO : Aside0 (SortedIn lt a (i + 1) dk) := ⟨hin.stop HS.out (Or.inl (by omega))⟩
          have HD5 := Aside0.mk (show SlA z wr.drew g dk from hdk)
          have HB5 := Aside0.mk (below_drew HBJ.out)
          have HPM := Aside0.mk hpm
          clear hdk hpm hin hsz hja HDJ HBJ hje
          go_wp2
          refine start_ (n := 17) (S := fun w' => True) (ds := []) (Bs 0 17) (by kernel_rfl) rfl rfl trivial (fun hHeld => ?_)
          refine with_tabW insR.tab4 insR.bits4 (fun HT_ HW_ => ?_)
          refine pu 0 18 (Bs 1 17) HT_ ?_
          refine pu 1 19 (Bs 2 17) HT_ ?_
          refine pu 2 20 (Bs 3 17) HT_ ?_
          refine pu 3 21 (Bs 4 17) HT_ ?_
          refine po 4 22 (Bs 5 17) HT_ ?_
          refine po 5 23 (Bs 6 17) HT_ ?_
          refine po 6 24 (Bs 7 17) HT_ ?_
          refine po 7 25 (Bs 8 17) HT_ ?_
          refine po 8 26 (Bs 9 17) HT_ ?_
          refine po 9 27 (Bs 10 17) HT_ ?_
          refine po 10 28 (Bs 11 17) HT_ ?_
          refine po 11 29 (Bs 12 17) HT_ ?_
          refine po 12 30 (Bs 13 17) HT_ ?_
          refine po 13 31 (Bs 14 17) HT_ ?_
          refine po 14 32 (Bs 15 17) HT_ ?_
          refine po 15 33 (Bs 16 17) HT_ ?_
          refine pu 16 34 (Bs 17 17) HT_ ?_
          refine done_ (done_of HT_.out (by kernel_rfl)) ?_
          clear hjI hjN hjL
          go_wp2
          go_roundg f
          case measure => exact Nat.lt_succ_self _
          case rel => exact ⟨i + 1, by go_num, ⟨HI3.out HSO.out⟩, ⟨_, HD5.out, HPM.out, HSO.out⟩, HB5⟩
    · have hibI : ¬ ((i : Nat) : Int) < ((b : Nat) : Int) := by omega
      have HE : Aside0 (∃ d', SlA z wr g d' ∧ PermIn a b d d' ∧ SortedIn lt a b d') := ⟨by
        obtain ⟨d', h1, h2, h3⟩ := HD.out
        exact ⟨d', h1, h2, fun p q hp hpq hq => h3 p q hp hpq (by omega)⟩⟩
      clear hib
      go_wp2
      go_end0
      exact ⟨rfl, HE.out, HB.out⟩
end Go.Proofs.YtmnhcbaocoofoaaDoor.P
