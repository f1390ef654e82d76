/- Proved here: what functions that the law reaches compute, and plain laws of that. No conditions but those that the theorems state. Put together by a program; a part of it was printed by a program of the session's, by way of the kit's printer (wip/printplus.py, wip/mend*.py). -/
import Derived.Outline
import Derived.Deep.DeepMust
import Derived.Laws.EntriesVeiled
import Derived.BigRegion
import Derived.BigQuiet
import Derived.Deep.RegionLawGrows
import Derived.Test.YthaklbjcjoolcaaCPlaneChecks1
import Derived.Test.YthaklbjcjoolcaaB1
import Derived.Test.YthaklbjcjoolcaaB4
import Derived.Test.YthaklbjcjoolcaaB5
import Derived.Test.YthaklbjcjoolcaaB3
set_option linter.unusedVariables false
set_option linter.unusedSimpArgs false
namespace Go.Proofs.Ythaklbjcjoolcaa.P
open Go.RowKit Go.Shelf Go.Sort Go.Proofs.YthaklbjcjoolcaaW.PrintWords Go.Proofs.YthaklbjcjoolcaaW.PrintLast Go.Proofs.YthaklbjcjoolcaaW.PrintMore
set_option linter.unusedVariables false
set_option linter.unusedSimpArgs false
attribute [local go_sem high] eqA31
theorem refturn_is {a b c : S31} (ha : okPt a = true) (hb : okPt b = true) (hc : okPt c = true) : silversideref01_Turn.f a.f0 a.f1 b.f0 b.f1 c.f0 c.f1 = some (sgn (crs a b c)) := by
  rw [← turn_is ha hb hc]
  unfold silversideref01_Turn.f plane_turn.f silversideref01_cross.f plane_cross.f
  simp only [Option.bind_some, compare_is]
  unfold silversideref01_Sign.f cmpI
  generalize wrap64 _ = x
  by_cases h : x > 0
  · rw [if_pos h, if_neg (by omega), if_pos h]
    rfl
  · rw [if_neg h]
    by_cases h2 : x < 0
    · rw [if_pos h2, if_pos h2]; rfl
    · rw [if_neg h2, if_neg h2, if_neg h]; rfl
theorem eqB' (p q : S31) : ((p.f0 == q.f0 && p.f1 == q.f1) = true) ↔ p = q := by rw [eqB, decide_eq_true_eq]
/-- one step of the look for the least point -/
def lsStep (f p : S31) : S31 := if ltP p f = true then p else f
theorem foldl_snoc (l : List S31) (g : S31 → S31 → S31) (a : S31) (k : Nat) (h : k < l.length) : (l.take (k + 1)).foldl g a = g ((l.take k).foldl g a) (pt l k) := by rw [take_pt l k h, List.foldl_append]; rfl
theorem ls_is : ∀ (l : List S31) (f : S31), ¬ ltP f (l.foldl lsStep f) = true ∧ (∀ r ∈ l, ¬ ltP r (l.foldl lsStep f) = true) ∧ (l.foldl lsStep f = f ∨ l.foldl lsStep f ∈ l)
  | [], f => ⟨ltP_irr f, by simp, Or.inl rfl⟩
  | p :: l, f => by
    rw [List.foldl_cons]
    obtain ⟨h1, h2, h3⟩ := ls_is l (lsStep f p)
    have key : ∀ q, (q = f ∨ q = p) → ¬ ltP q (l.foldl lsStep (lsStep f p)) = true := by
      intro q hq h
      refine h1 ?_
      by_cases hc : ltP p f = true
      · have e : lsStep f p = p := by unfold lsStep; rw [if_pos hc]
        rcases hq with rfl | rfl
        · rw [e] at h ⊢; exact ltP_trans hc h
        · rw [e] at h ⊢; exact h
      · have e : lsStep f p = f := by unfold lsStep; rw [if_neg hc]
        rcases hq with rfl | rfl
        · rw [e] at h ⊢; exact h
        · rw [e] at h ⊢
          rcases ltP_tot f q with h4 | h4 | h4
          · exact ltP_trans h4 h
          · subst h4; exact h
          · exact absurd h4 hc
    refine ⟨key f (Or.inl rfl), ?_, ?_⟩
    · intro r hr
      rw [List.mem_cons] at hr
      rcases hr with rfl | hr
      · exact key _ (Or.inr rfl)
      · exact h2 r hr
    · rcases h3 with h3 | h3
      · rw [h3]
        unfold lsStep; split
        · right; simp
        · left; rfl
      · right; simp [h3]
theorem least_first (l : List S31) (h0 : 1 ≤ l.length) : l.foldl lsStep (pt l 0) = pt (cornersS l) 0 := by
  have hH := corners_hull l h0
  obtain ⟨h1, h2, h3⟩ := ls_is l (pt l 0)
  have hm : l.foldl lsStep (pt l 0) ∈ l := by
    rcases h3 with h3 | h3
    · rw [h3]; exact pt_mem l 0 h0
    · exact h3
  rcases ltP_tot (l.foldl lsStep (pt l 0)) (pt (cornersS l) 0) with h | h | h
  · exact absurd h (hH.least _ hm)
  · exact h
  · exact absurd h (h2 _ (hH.mem 0 hH.pos))
theorem cornersS_len' (l : List S31) : (cornersS l).length ≤ 2 * l.length := by
  have h1 := sortedS_len l
  unfold cornersS
  split
  · omega
  · have h2 := chainL_len (sortedS l)
    have h3 := chainL_len (sortedS l).reverse
    rw [List.length_reverse] at h3
    rw [List.length_append, List.length_dropLast, List.length_dropLast]; omega
def refhull_T : Bool × List (List Nat × List Nat) := (true, [([], []), ([], []), ([0, 1], [0, 1]), ([2], [2]), ([3], [3]), ([4, 3], [3, 4]), ([3, 5], [3, 5]), ([6, 3], [6]), ([7], [7]), ([8, 7], [7, 8]), ([9, 7, 7], [7, 9]), ([10], [10]), ([10], [10]), ([11, 12, 10, 10], [10, 11, 12]), ([10], [10]), ([10], [10]), ([14, 15, 13, 10], [10, 14, 15]), ([13, 16, 10], [10, 13, 16]), ([10, 17, 7], [7, 10, 17]), ([7, 18], [7, 18])])
def refhull_B : List Nat := [0, 0, 3, 7, 15, 31, 63, 127, 255, 511, 1023, 2047, 2047, 8191, 2047, 2047, 65535, 131071, 262143, 524287]
theorem refhull_tab : rtab .any (opsOf Try.f35 17) = refhull_T := by kernel_rfl
theorem refhull_bits : waitsOk refhull_T.2 refhull_B = true := by kernel_rfl
theorem sqd_is {a b : S31} (ha : okPt a = true) (hb : okPt b = true) : silversideref01_Square.f a.f0 a.f1 b.f0 b.f1 = some (sqd a b) := by
  rw [okPt_iff] at ha hb
  have h1 := mul_bd (a := a.f0 - b.f0) (b := a.f0 - b.f0) (m := 8192) (n := 8192) (by omega) (by omega)
  have h2 := mul_bd (a := a.f1 - b.f1) (b := a.f1 - b.f1) (m := 8192) (n := 8192) (by omega) (by omega)
  unfold silversideref01_Square.f sqd
  rw [w64i (x := a.f0 - b.f0) (by omega) (by omega), w64i (x := a.f1 - b.f1) (by omega) (by omega), w64i (x := (a.f0 - b.f0) * (a.f0 - b.f0)) (by omega) (by omega), w64i (x := (a.f1 - b.f1) * (a.f1 - b.f1)) (by omega) (by omega), w64i (by omega) (by omega)]
set_option maxHeartbeats 4000000 in
set_option maxRecDepth 100000 in
theorem refhull_calls (A0 : Option Addr) (c0 : Nat) (l0 : List S31) (w : World) (hr0 : Kd.C k31 w A0 l0.length l0) (hc0 : l0.length ≤ c0) (hl1 : 1 ≤ l0.length) (hsz : l0.length ≤ 4096) (hok : allOk l0 = true) :
    Calls Try.prog 35 #[.slice A0 l0.length c0] w fun e w' => ∃ v, e = .returned v ∧ Kd.R k31 31 w' w.heap.size (fun _ => True) v (cornersS l0) ∧ Below w.heap.size w w' := by
  obtain ⟨i0, hi, hz0, hz1, hz2⟩ := info_parts info31
  have HI0 := Aside0.mk (show Try.prog.info? 31 = some i0 ∧ i0.zero = some (.agg #[.int .i64 0, .int .i64 0]) ∧ i0.size = 2 ∧ i0.bytes = 16 from ⟨hi, hz0, hz1, hz2⟩)
  have HR0 := Aside0.mk hr0
  have HB0 := Aside0.mk (Below.refl w.heap.size w)
  have HOK := Aside0.mk hok
  obtain ⟨ad, rfl, hx0, hx1⟩ := at_T31 hr0 (0 : Int) (by omega) (by omega)
  rw [show rd_T31 l0 0 = pt l0 0 from rfl] at hx0 hx1
  simp only [Int.toNat_zero, Nat.zero_mul, Addr.add_zero'] at hx0 hx1
  have hlI : (0 : Int) < ((l0.length : Nat) : Int) := by omega
  have BF0 := Aside0.mk (heap_alloc_new w (Obj.cells #[.int .i64 (pt l0 0).f0, .int .i64 (pt l0 0).f1] 31))
  have HB1 := Aside0.mk (below_alloc (Below.refl w.heap.size w) (Obj.cells #[.int .i64 (pt l0 0).f0, .int .i64 (pt l0 0).f1] 31))
  clear hr0 hok hi hz0 hz1 hz2
  have HE0 := Aside0.mk (least_first l0 hl1)
  have HLN := Aside0.mk (show (cornersS l0).length ≤ 8192 by have := cornersS_len' l0; omega)
  generalize hp0 : pt l0 0 = p0 at *
  have HP0 := Aside0.mk hp0
  clear hp0
  go_enter Try.func35, Try.ntmps35
  go_wp2
  go_loopw [4] (fun v4 wr => ∃ k : Nat, k ≤ l0.length ∧ v4 = .int .i64 k ∧ Aside0 (wr.heap[w.heap.size]? = some (.cells #[.int .i64 ((l0.take k).foldl lsStep p0).f0, .int .i64 ((l0.take k).foldl lsStep p0).f1] 31 (0, 0))) ∧ Aside0 (Below w.heap.size w wr)) (fun v4 _ => l0.length - (intOf v4).toNat)
  case atStart => exact ⟨0, by omega, rfl, BF0, HB1⟩
  case round =>
    obtain ⟨k, hk, rfl, BF, HB⟩ := hrel
    clear BF0 HB1 HB0 hx0 hx1
    by_cases hlt : k < l0.length
    · obtain ⟨ad', had', hx0, hx1⟩ := at_T31 (Kd.C_below HR0.out HB.out) (k : Int) (by omega) (by omega)
      cases had'
      rw [rd_pt, Int.toNat_natCast] at hx0 hx1
      have hltI : ((k : Nat) : Int) < ((l0.length : Nat) : Int) := by omega
      have HF := Aside0.mk (foldl_snoc l0 lsStep p0 k hlt)
      generalize pt l0 k = p at *
      generalize (l0.take k).foldl lsStep p0 = f at *
      have b0 : wr.cell? ⟨w.heap.size, 0, none⟩ = some (.int .i64 f.f0) := blk_cell BF.out 0
      have b1 : wr.cell? ⟨w.heap.size, 1, none⟩ = some (.int .i64 f.f1) := blk_cell BF.out 1
      have g0 := blk_frozen BF.out 0
      have g1 := blk_frozen BF.out 1
      by_cases c1 : p.f0 < f.f0
      · have d1 : decide (p.f0 < f.f0) = true := decide_eq_true c1
        have HL := Aside0.mk (show lsStep f p = p by unfold lsStep ltP; rw [if_pos (by rw [decide_eq_true_eq]; exact Or.inl c1)])
        go_wp2
        go_quiet (fail)
        go_wp2
        go_roundw
        case rel => exact ⟨k + 1, by omega, by go_num, ⟨by rw [HF.out, HL.out]; exact blk_put (blk_put (kN BF.out nq) 0 _ rfl) 1 _ rfl⟩, ⟨lS (lS (lN HB.out nq) (Nat.le_refl _)) (Nat.le_refl _)⟩⟩
        case measure => simp [intOf]; omega
      · have d1 : decide (p.f0 < f.f0) = false := decide_eq_false c1
        by_cases c2 : p.f0 = f.f0
        · have d2 : (p.f0 == f.f0) = true := by rw [beq_iff_eq]; exact c2
          by_cases c3 : p.f1 < f.f1
          · have d3 : decide (p.f1 < f.f1) = true := decide_eq_true c3
            have HL := Aside0.mk (show lsStep f p = p by unfold lsStep ltP; rw [if_pos (by rw [decide_eq_true_eq]; exact Or.inr ⟨c2, c3⟩)])
            go_wp2
            go_quiet (fail)
            go_wp2
            go_roundw
            case rel => exact ⟨k + 1, by omega, by go_num, ⟨by rw [HF.out, HL.out, c2]; exact blk_put (blk_put (kN BF.out nq) 0 _ rfl) 1 _ rfl⟩, ⟨lS (lS (lN HB.out nq) (Nat.le_refl _)) (Nat.le_refl _)⟩⟩
            case measure => simp [intOf]; omega
          · have d3 : decide (p.f1 < f.f1) = false := decide_eq_false c3
            have HL := Aside0.mk (show lsStep f p = f by unfold lsStep ltP; rw [if_neg (by rw [decide_eq_true_eq]; omega)])
            go_wp2
            go_quiet (fail)
            go_wp2
            go_roundw
            case rel => exact ⟨k + 1, by omega, by go_num, ⟨by rw [HF.out, HL.out]; exact kN BF.out nq⟩, ⟨lN HB.out nq⟩⟩
            case measure => simp [intOf]; omega
        · have d2 : (p.f0 == f.f0) = false := by rw [beq_eq_false_iff_ne]; exact c2
          have HL := Aside0.mk (show lsStep f p = f by unfold lsStep ltP; rw [if_neg (by rw [decide_eq_true_eq]; omega)])
          go_wp2
          go_quiet (fail)
          go_wp2
          go_roundw
          case rel => exact ⟨k + 1, by omega, by go_num, ⟨by rw [HF.out, HL.out]; exact kN BF.out nq⟩, ⟨lN HB.out nq⟩⟩
          case measure => simp [intOf]; omega
    · obtain rfl : k = l0.length := by omega
      rw [List.take_length] at BF
      rw [HE0.out] at BF
      obtain ⟨gF, hgF⟩ : ∃ g, g = w.heap.size := ⟨_, rfl⟩
      have HGF := Aside0.mk (show w.heap.size ≤ gF by omega)
      rw [← hgF] at BF
      rw [← hgF]
      clear hgF HP0
      have b0 : wr.cell? ⟨gF, 0, none⟩ = some (.int .i64 (pt (cornersS l0) 0).f0) := blk_cell BF.out 0
      have b1 : wr.cell? ⟨gF, 1, none⟩ = some (.int .i64 (pt (cornersS l0) 0).f1) := blk_cell BF.out 1
      have HH := Aside0.mk (corners_hull l0 (by omega))
      have hHl := HH.out.pos
      generalize hH : cornersS l0 = H at *
      have HHE := Aside0.mk hH
      clear hH
      have hHl2 : H.length ≤ 8192 := HLN.out
      generalize hf : pt H 0 = f at *
      have HPF := Aside0.mk hf
      clear hf
      go_wp2_with (first | ((with_reducible refine gate_builtin (b := .append) (xs := #[.tmp 52, .tmp 54]) rfl ?_); at_builtin; refine Kd.R_append k31 (w0 := w) w.heap.size rfl (.tmp 52) (.tmp 54) 22 31 (.agg #[(.int .i64 0), (.int .i64 0)]) 16 rfl Try.underlying22 info31 rfl (by decide) (by omega) (.slice none 0 0) ([] : List S31) f [.int .i64 f.f0, .int .i64 f.f1] (fun k_ => k_ ≠ gF) (fun _ => False) rfl rfl ?aP (fun _ hk => hk.elim) ?aF ?aO ?aB ?aS ?aL ?_; (case aP => exact k31_mkM _ _ _ f); (case aB => exact HB.out); (case aF => exact (fun k_ hk => Kd.freshB (g := gF) (kX BF.out) k_ hk)); (case aO => exact ((Kd.R_nil _ _ _ _ (fun k_ => k_ ≠ gF)))); (case aS => exact (below_size HB.out)); (case aL => simp only [List.length_nil]; omega); intro v5 w5 ho hb hg hat; have BF5 := Aside0.mk (blk_grown (g := gF) (kX BF.out) hg (by simp [Value.ownBlock])); have HB5 := Aside0.mk hb; have HO5 := Aside0.mk ho; clear BF HB ho hb hg hat; have b50 : w5.cell? ⟨gF, 0, none⟩ = some (.int .i64 f.f0) := blk_cell BF5.out 0; have b51 : w5.cell? ⟨gF, 1, none⟩ = some (.int .i64 f.f1) := blk_cell BF5.out 1))
      have BA5 := Aside0.mk (heap_alloc_new w5 (Obj.cells #[.int .i64 f.f0, .int .i64 f.f1] 31))
      have HLF := Aside0.mk (blk_lt BF5.out)
      have HLW := Aside0.mk (below_size HB5.out)
      have HT1 := Aside0.mk (show H.take 1 = [] ++ [f] by rw [show (1 : Nat) = 0 + 1 from rfl, take_pt H 0 hHl, HPF.out]; rfl)
      go_loopg [5, 6] H.length (fun kq v5 v6 wr => ∃ (i gA : Nat), i + kq = H.length ∧ i < H.length ∧ v6 = .pointer (some ⟨gA, 0, none⟩) ∧ Aside0 (w.heap.size ≤ gA ∧ gF ≠ gA) ∧ Aside0 (Kd.R k31 31 wr w.heap.size (fun k_ => k_ ≠ gF ∧ k_ ≠ gA) v5 (H.take (i + 1))) ∧ Aside0 (wr.heap[gF]? = some (.cells #[.int .i64 f.f0, .int .i64 f.f1] 31 (0, 0))) ∧ Aside0 (wr.heap[gA]? = some (.cells #[.int .i64 (pt H i).f0, .int .i64 (pt H i).f1] 31 (0, 0))) ∧ Aside0 (Below w.heap.size w wr))
      case atStart =>
        refine ⟨0, w5.heap.size, by omega, hHl, rfl, ⟨by have := HLW.out; omega, by have := HLF.out; omega⟩, ⟨?_⟩, ⟨?_⟩, ⟨?_⟩, ⟨?_⟩⟩
        · rw [show 0 + 1 = 1 from rfl, HT1.out]
          exact Kd.R_mono (Kd.R_alloc (Kd.R_elderB HO5.out w5.heap.size (Nat.le_refl _)) _) (fun k_ hk => hk)
        · exact kA BF5.out _
        · rw [HPF.out]; exact BA5.out
        · exact lA HB5.out _
      case round =>
        clear HO5 BF5 HB5 BA5 b0 b1 b50 b51 HT1
        obtain ⟨i, gA, hik, hi, rfl, HGA, HO, BF, BA, HB⟩ := hrel
        have a0 : wr.cell? ⟨gA, 0, none⟩ = some (.int .i64 (pt H i).f0) := blk_cell BA.out 0
        have a1 : wr.cell? ⟨gA, 1, none⟩ = some (.int .i64 (pt H i).f1) := blk_cell BA.out 1
        have HNX := Aside0.mk (hull_next HH.out i hi)
        have HOA := Aside0.mk (show okPt (pt H i) = true from List.all_eq_true.1 HOK.out _ (HH.out.mem i hi))
        have HNE := Aside0.mk (show (i + 1 < H.length → nxt i H.length = i + 1 ∧ pt H (i + 1) ≠ pt H i ∧ pt H (i + 1) ≠ f) ∧ (¬ i + 1 < H.length → nxt i H.length = 0) from ⟨fun h => ⟨by unfold nxt; rw [if_pos h], fun e => HH.out.ner i h e.symm, by rw [← HPF.out]; exact HH.out.ne (i + 1) (by omega) h⟩, fun h => by unfold nxt; rw [if_neg h]⟩)
        generalize hat : pt H i = at' at *
        clear hat
        obtain ⟨gT, hgT⟩ : ∃ g, g = wr.heap.size := ⟨_, rfl⟩
        have HLF := Aside0.mk (blk_lt BF.out)
        have HLA := Aside0.mk (blk_lt BA.out)
        have HLW := Aside0.mk (below_size HB.out)
        have HGT := Aside0.mk (show w.heap.size ≤ gT ∧ gF ≠ gT ∧ gA ≠ gT from ⟨by have := HLW.out; omega, by have := HLF.out; omega, by have := HLA.out; omega⟩)
        have BT0 := Aside0.mk (heap_alloc_new wr (Obj.cells #[.int .i64 at'.f0, .int .i64 at'.f1] 31))
        have HO0 := Aside0.mk (Kd.R_alloc (Kd.R_elderB HO.out wr.heap.size (Nat.le_refl _)) (Obj.cells #[.int .i64 at'.f0, .int .i64 at'.f1] 31))
        have BF0 := Aside0.mk (kA BF.out (Obj.cells #[.int .i64 at'.f0, .int .i64 at'.f1] 31))
        have BA0 := Aside0.mk (kA BA.out (Obj.cells #[.int .i64 at'.f0, .int .i64 at'.f1] 31))
        have HB0 := Aside0.mk (lA HB.out (Obj.cells #[.int .i64 at'.f0, .int .i64 at'.f1] 31))
        rw [← hgT] at BT0 HO0
        clear HO BF BA HB HLF HLA HLW
        go_wp2
        rw [← hgT]
        clear hgT
        go_loopw [8] (fun v8 wx => ∃ j : Nat, j ≤ l0.length ∧ v8 = .int .i64 j ∧ Aside0 (okPt ((l0.take j).foldl (scStep at') at') = true) ∧ Aside0 (wx.heap[gT]? = some (.cells #[.int .i64 ((l0.take j).foldl (scStep at') at').f0, .int .i64 ((l0.take j).foldl (scStep at') at').f1] 31 (0, 0))) ∧ Aside0 (Kd.R k31 31 wx w.heap.size (fun k_ => (k_ ≠ gF ∧ k_ ≠ gA) ∧ k_ ≠ gT) u5 (H.take (i + 1))) ∧ Aside0 (wx.heap[gF]? = some (.cells #[.int .i64 f.f0, .int .i64 f.f1] 31 (0, 0))) ∧ Aside0 (wx.heap[gA]? = some (.cells #[.int .i64 at'.f0, .int .i64 at'.f1] 31 (0, 0))) ∧ Aside0 (Below w.heap.size w wx)) (fun v8 _ => l0.length - (intOf v8).toNat)
        case atStart => exact ⟨0, by omega, rfl, HOA, BT0, HO0, BF0, BA0, HB0⟩
        case round =>
          clear BT0 HO0 BF0 BA0 HB0 a0 a1
          obtain ⟨j, hj, rfl, HOT, BT, HO, BF, BA, HB⟩ := hrel
          have t0 : wr.cell? ⟨gT, 0, none⟩ = some (.int .i64 ((l0.take j).foldl (scStep at') at').f0) := blk_cell BT.out 0
          have t1 : wr.cell? ⟨gT, 1, none⟩ = some (.int .i64 ((l0.take j).foldl (scStep at') at').f1) := blk_cell BT.out 1
          have ft0 := blk_frozen BT.out 0
          have ft1 := blk_frozen BT.out 1
          have a0 : wr.cell? ⟨gA, 0, none⟩ = some (.int .i64 at'.f0) := blk_cell BA.out 0
          have a1 : wr.cell? ⟨gA, 1, none⟩ = some (.int .i64 at'.f1) := blk_cell BA.out 1
          by_cases hlt : j < l0.length
          · obtain ⟨ad', had', hx0, hx1⟩ := at_T31 (Kd.C_below HR0.out HB.out) (j : Int) (by omega) (by omega)
            cases had'
            rw [rd_pt, Int.toNat_natCast] at hx0 hx1
            have hltI : ((j : Nat) : Int) < ((l0.length : Nat) : Int) := by omega
            have HS := Aside0.mk (foldl_snoc l0 (scStep at') at' j hlt)
            have HOP := Aside0.mk (show okPt (pt l0 j) = true from List.all_eq_true.1 HOK.out _ (pt_mem l0 j hlt))
            generalize pt l0 j = p at *
            generalize (l0.take j).foldl (scStep at') at' = tq at *
            obtain ⟨gP, hgP⟩ : ∃ g, g = wr.heap.size := ⟨_, rfl⟩
            have HLF := Aside0.mk (blk_lt BF.out)
            have HLA := Aside0.mk (blk_lt BA.out)
            have HLT := Aside0.mk (blk_lt BT.out)
            have BP1 := Aside0.mk (heap_alloc_new wr (Obj.cells #[.int .i64 p.f0, .int .i64 p.f1] 31))
            have BT1 := Aside0.mk (kA BT.out (Obj.cells #[.int .i64 p.f0, .int .i64 p.f1] 31))
            have HO1 := Aside0.mk (Kd.R_alloc HO.out (Obj.cells #[.int .i64 p.f0, .int .i64 p.f1] 31))
            have BF1 := Aside0.mk (kA BF.out (Obj.cells #[.int .i64 p.f0, .int .i64 p.f1] 31))
            have BA1 := Aside0.mk (kA BA.out (Obj.cells #[.int .i64 p.f0, .int .i64 p.f1] 31))
            have HB1 := Aside0.mk (lA HB.out (Obj.cells #[.int .i64 p.f0, .int .i64 p.f1] 31))
            have a0' : (wr.alloc (Obj.cells #[.int .i64 p.f0, .int .i64 p.f1] 31)).cell? ⟨gA, 0, none⟩ = some (.int .i64 at'.f0) := blk_cell BA1.out 0
            have a1' : (wr.alloc (Obj.cells #[.int .i64 p.f0, .int .i64 p.f1] 31)).cell? ⟨gA, 1, none⟩ = some (.int .i64 at'.f1) := blk_cell BA1.out 1
            have t0' : (wr.alloc (Obj.cells #[.int .i64 p.f0, .int .i64 p.f1] 31)).cell? ⟨gT, 0, none⟩ = some (.int .i64 tq.f0) := blk_cell BT1.out 0
            have t1' : (wr.alloc (Obj.cells #[.int .i64 p.f0, .int .i64 p.f1] 31)).cell? ⟨gT, 1, none⟩ = some (.int .i64 tq.f1) := blk_cell BT1.out 1
            by_cases e1 : p = at'
            · have d1 : (p.f0 == at'.f0 && p.f1 == at'.f1) = true := (eqB' p at').2 e1
              have HSS := Aside0.mk (show scStep at' tq p = tq by unfold scStep; rw [if_pos e1])
              clear e1
              go_wp2
              go_roundw
              case rel => exact ⟨j + 1, by omega, by go_num, ⟨by rw [HS.out, HSS.out]; exact HOT.out⟩, ⟨by rw [HS.out, HSS.out]; exact BT1.out⟩, HO1, BF1, BA1, HB1⟩
              case measure => simp [intOf]; omega
            · have d1 : (p.f0 == at'.f0 && p.f1 == at'.f1) = false := by rw [eqB, decide_eq_false_iff_not]; exact e1
              have HSS := Aside0.mk (show scStep at' tq p = if tq = at' ∨ crs at' tq p < 0 ∨ (crs at' tq p = 0 ∧ sqd at' tq < sqd at' p) then p else tq by unfold scStep; rw [if_neg e1])
              have HPT := Aside0.mk (show okPt (scStep at' tq p) = true by unfold scStep; split; exact HOT.out; split; exact HOP.out; exact HOT.out)
              clear e1
              have HTU := Aside0.mk (refturn_is HOA.out HOT.out HOP.out)
              generalize hcr : crs at' tq p = cr at *
              clear hcr
              go_wp2_with (first | (go_at_call 31; go_must (refine (silversideref01_Turn.calls at'.f0 at'.f1 tq.f0 tq.f1 p.f0 p.f1 _ _ HTU.out).mono ?_); rintro e w3 ⟨rfl, hb3⟩; have HO3 := Aside0.mk (Kd.R_below HO1.out hb3); have BF3 := Aside0.mk (blk_below BF1.out hb3); have BA3 := Aside0.mk (blk_below BA1.out hb3); have BT3 := Aside0.mk (blk_below BT1.out hb3); have BP3 := Aside0.mk (blk_below BP1.out hb3); have HB3 := Aside0.mk (below_step HB1.out hb3); clear hb3))
              rw [← hgP] at BP3
              rw [← hgP]
              have GP := Aside0.mk (show w.heap.size ≤ gP ∧ gF ≠ gP ∧ gA ≠ gP ∧ gT ≠ gP from ⟨by have := below_size HB.out; omega, by have := HLF.out; omega, by have := HLA.out; omega, by have := HLT.out; omega⟩)
              clear hgP a0 a1 t0 t1 a0' a1' t0' t1' ft0 ft1 HO1 BF1 BA1 BT1 BP1 HB1 HO BF BA BT HB HLF HLA HLT hx0 hx1
              have a0 : w3.cell? ⟨gA, 0, none⟩ = some (.int .i64 at'.f0) := blk_cell BA3.out 0
              have a1 : w3.cell? ⟨gA, 1, none⟩ = some (.int .i64 at'.f1) := blk_cell BA3.out 1
              have t0 : w3.cell? ⟨gT, 0, none⟩ = some (.int .i64 tq.f0) := blk_cell BT3.out 0
              have t1 : w3.cell? ⟨gT, 1, none⟩ = some (.int .i64 tq.f1) := blk_cell BT3.out 1
              have p0' : w3.cell? ⟨gP, 0, none⟩ = some (.int .i64 p.f0) := blk_cell BP3.out 0
              have p1' : w3.cell? ⟨gP, 1, none⟩ = some (.int .i64 p.f1) := blk_cell BP3.out 1
              have ft0 := blk_frozen BT3.out 0
              have ft1 := blk_frozen BT3.out 1
              have HSG := Aside0.mk (show (cr < 0 ↔ sgn cr < 0) ∧ (cr = 0 ↔ sgn cr = 0) from ⟨sgn_neg.symm, sgn_zero.symm⟩)
              have HQ1 := Aside0.mk (sqd_is HOA.out HOP.out)
              have HQ2 := Aside0.mk (sqd_is HOA.out HOT.out)
              generalize sgn cr = sg at *
              by_cases e2 : tq = at'
              · have d2 : (tq.f0 == at'.f0 && tq.f1 == at'.f1) = true := (eqB' tq at').2 e2
                have HS2 := Aside0.mk (show scStep at' tq p = p by rw [HSS.out, if_pos (Or.inl e2)])
                clear HSS e2
                go_quiet (fail)
                go_wp2
                go_roundw
                case rel => exact ⟨j + 1, by omega, by go_num, ⟨by rw [HS.out]; exact HPT.out⟩, ⟨by rw [HS.out, HS2.out]; exact blk_put (blk_put (kN BT3.out nq) 0 _ rfl) 1 _ rfl⟩, ⟨Kd.R_far (p := ⟨gT, 1, none⟩) (Kd.R_far (p := ⟨gT, 0, none⟩) (Kd.R_drewN HO3.out nq) (fun _ h => h.2) _) (fun _ h => h.2) _⟩, ⟨blk_far (blk_far (kN BF3.out nq) HGT.out.2.1 _) HGT.out.2.1 _⟩, ⟨blk_far (blk_far (kN BA3.out nq) HGT.out.2.2 _) HGT.out.2.2 _⟩, ⟨lS (lS (lN HB3.out nq) HGT.out.1) HGT.out.1⟩⟩
                case measure => simp [intOf]; omega
              · have d2 : (tq.f0 == at'.f0 && tq.f1 == at'.f1) = false := by rw [eqB, decide_eq_false_iff_not]; exact e2
                by_cases e3 : sg < 0
                · have d3 : decide (sg < 0) = true := decide_eq_true e3
                  have HS2 := Aside0.mk (show scStep at' tq p = p by rw [HSS.out, if_pos (Or.inr (Or.inl (HSG.out.1.2 e3)))])
                  clear HSS e2 e3
                  go_quiet (fail)
                  go_wp2
                  go_roundw
                  case rel => exact ⟨j + 1, by omega, by go_num, ⟨by rw [HS.out]; exact HPT.out⟩, ⟨by rw [HS.out, HS2.out]; exact blk_put (blk_put (kN BT3.out nq) 0 _ rfl) 1 _ rfl⟩, ⟨Kd.R_far (p := ⟨gT, 1, none⟩) (Kd.R_far (p := ⟨gT, 0, none⟩) (Kd.R_drewN HO3.out nq) (fun _ h => h.2) _) (fun _ h => h.2) _⟩, ⟨blk_far (blk_far (kN BF3.out nq) HGT.out.2.1 _) HGT.out.2.1 _⟩, ⟨blk_far (blk_far (kN BA3.out nq) HGT.out.2.2 _) HGT.out.2.2 _⟩, ⟨lS (lS (lN HB3.out nq) HGT.out.1) HGT.out.1⟩⟩
                  case measure => simp [intOf]; omega
                · have d3 : decide (sg < 0) = false := decide_eq_false e3
                  by_cases e4 : sg = 0
                  · have d4 : (sg == 0) = true := beq_iff_eq.2 e4
                    have HS2 := Aside0.mk (show scStep at' tq p = if sqd at' tq < sqd at' p then p else tq by
                      rw [HSS.out]
                      by_cases h : sqd at' tq < sqd at' p
                      · rw [if_pos h, if_pos (Or.inr (Or.inr ⟨HSG.out.2.2 e4, h⟩))]
                      · rw [if_neg h, if_neg (by rintro (h1 | h1 | h1); exact e2 h1; exact e3 (HSG.out.1.1 h1); exact h h1.2)])
                    clear HSS e2 e3 e4
                    obtain ⟨b, hbq⟩ : ∃ b, decide (sqd at' tq < sqd at' p) = b := ⟨_, rfl⟩
                    have HBQ := Aside0.mk hbq
                    have HO3 := Aside0.mk (Kd.R_drew HO3.out)
                    have BF3 := Aside0.mk (kD BF3.out)
                    have BA3 := Aside0.mk (kD BA3.out)
                    have BT3 := Aside0.mk (kD BT3.out)
                    have BP3 := Aside0.mk (kD BP3.out)
                    have HB3 := Aside0.mk (lD HB3.out)
                    clear a0 a1 t0 t1 p0' p1' ft0 ft1
                    refine start_ (n := 20) (S := fun w' => w'.cell? ⟨gT, 0, none⟩ = some (.int .i64 tq.f0) ∧ w'.cell? ⟨gT, 1, none⟩ = some (.int .i64 tq.f1) ∧ w'.cell? ⟨gA, 0, none⟩ = some (.int .i64 at'.f0) ∧ w'.cell? ⟨gA, 1, none⟩ = some (.int .i64 at'.f1) ∧ w'.cell? ⟨gP, 0, none⟩ = some (.int .i64 p.f0) ∧ w'.cell? ⟨gP, 1, none⟩ = some (.int .i64 p.f1)) (ds := []) (Bs 0 20) (by kernel_rfl) rfl rfl ⟨(blk_cell BT3.out 0).trans rfl, (blk_cell BT3.out 1).trans rfl, (blk_cell BA3.out 0).trans rfl, (blk_cell BA3.out 1).trans rfl, (blk_cell BP3.out 0).trans rfl, (blk_cell BP3.out 1).trans rfl⟩ (fun hHeld => ?_); refine with_tabW refhull_tab refhull_bits (fun HT_ HW_ => ?_)
                    generalize w3.drew = w4 at HO3 BF3 BA3 BT3 BP3 HB3 hHeld ⊢
                    refine take_ (i := 0) (N := some 75) (v := ?_) (a' := ?_) (Bs 1 20) rfl rfl (take_ofW HT_.out HW_.out (by kernel_rfl)) (fun _ _ _ h => h) (Or.inl ⟨by rfl, ?_⟩) hHeld ?_ ?_; rotate_left
                    ·rintro w' ⟨s0, s1, s2, s3, s4, s5⟩; go_simp; with_reducible rfl
                    rotate_left
                    ·simp only [Act.put, sA, sB, sC, i64_w, i32_w]; rfl
                    refine take_ (i := 1) (N := some 76) (v := ?_) (a' := ?_) (Bs 2 20) rfl rfl (take_ofW HT_.out HW_.out (by kernel_rfl)) (fun _ _ _ h => h) (Or.inl ⟨by rfl, ?_⟩) hHeld ?_ ?_; rotate_left
                    ·rintro w' ⟨s0, s1, s2, s3, s4, s5⟩; go_simp; with_reducible rfl
                    rotate_left
                    ·simp only [Act.put, sA, sB, sC, i64_w, i32_w]; rfl
                    refine pure_ (i := 2) (N := some 77) (v := ?_) (a' := ?_) (Bs 3 20) rfl rfl (any_of HT_.out (by kernel_rfl)) (fun _ _ _ h => h) (Or.inl ⟨by rfl, ?_⟩) ?_ ?_; rotate_left
                    ·intro w'; go_simp; with_reducible rfl
                    rotate_left
                    ·simp only [Act.put, sA, sB, sC, i64_w, i32_w]; rfl
                    refine pure_ (i := 3) (N := some 78) (v := ?_) (a' := ?_) (Bs 4 20) rfl rfl (any_of HT_.out (by kernel_rfl)) (fun _ _ _ h => h) (Or.inl ⟨by rfl, ?_⟩) ?_ ?_; rotate_left
                    ·intro w'; go_simp; with_reducible rfl
                    rotate_left
                    ·simp only [Act.put, sA, sB, sC, i64_w, i32_w]; rfl
                    refine pure_ (i := 4) (N := some 79) (v := ?_) (a' := ?_) (Bs 5 20) rfl rfl (any_of HT_.out (by kernel_rfl)) (fun _ _ _ h => h) (Or.inl ⟨by rfl, ?_⟩) ?_ ?_; rotate_left
                    ·intro w'; go_simp; with_reducible rfl
                    rotate_left
                    ·simp only [Act.put, sA, sB, sC, i64_w, i32_w]; rfl
                    refine pure_ (i := 5) (N := some 80) (v := ?_) (a' := ?_) (Bs 6 20) rfl rfl (any_of HT_.out (by kernel_rfl)) (fun _ _ _ h => h) (Or.inl ⟨by rfl, ?_⟩) ?_ ?_; rotate_left
                    ·intro w'; go_simp; with_reducible rfl
                    rotate_left
                    ·simp only [Act.put, sA, sB, sC, i64_w, i32_w]; rfl
                    refine pure_ (i := 6) (N := some 81) (v := ?_) (a' := ?_) (Bs 7 20) rfl rfl (any_of HT_.out (by kernel_rfl)) (fun _ _ _ h => h) (Or.inl ⟨by rfl, ?_⟩) ?_ ?_; rotate_left
                    ·intro w'; go_simp; with_reducible rfl
                    rotate_left
                    ·simp only [Act.put, sA, sB, sC, i64_w, i32_w]; rfl
                    refine pure_ (i := 7) (N := some 82) (v := ?_) (a' := ?_) (Bs 8 20) rfl rfl (any_of HT_.out (by kernel_rfl)) (fun _ _ _ h => h) (Or.inl ⟨by rfl, ?_⟩) ?_ ?_; rotate_left
                    ·intro w'; go_simp; with_reducible rfl
                    rotate_left
                    ·simp only [Act.put, sA, sB, sC, i64_w, i32_w]; rfl
                    refine pure_ (i := 8) (N := some 83) (v := ?_) (a' := ?_) (Bs 9 20) rfl rfl (any_of HT_.out (by kernel_rfl)) (fun _ _ _ h => h) (Or.inl ⟨by rfl, ?_⟩) ?_ ?_; rotate_left
                    ·intro w'; go_simp; with_reducible rfl
                    rotate_left
                    ·simp only [Act.put, sA, sB, sC, i64_w, i32_w]; rfl
                    refine pure_ (i := 9) (N := some 84) (v := ?_) (a' := ?_) (Bs 10 20) rfl rfl (any_of HT_.out (by kernel_rfl)) (fun _ _ _ h => h) (Or.inl ⟨by rfl, ?_⟩) ?_ ?_; rotate_left
                    ·intro w'; go_simp; with_reducible rfl
                    rotate_left
                    ·simp only [Act.put, sA, sB, sC, i64_w, i32_w]; rfl
                    refine pure_ (i := 10) (N := some 85) (v := ?_) (a' := ?_) (Bs 11 20) rfl rfl (any_of HT_.out (by kernel_rfl)) (fun _ _ _ h => h) (Or.inl ⟨by rfl, ?_⟩) ?_ ?_; rotate_left
                    ·intro w'; go_simp; with_reducible rfl
                    rotate_left
                    ·simp only [Act.put, sA, sB, sC, i64_w, i32_w]; rfl
                    refine take_ (i := 11) (N := some 86) (v := ?_) (a' := ?_) (Bs 12 20) rfl rfl (take_ofW HT_.out HW_.out (by kernel_rfl)) (fun _ _ _ h => h) (Or.inl ⟨by rfl, ?_⟩) hHeld ?_ ?_; rotate_left
                    ·rintro w' ⟨s0, s1, s2, s3, s4, s5⟩; go_simp; with_reducible rfl
                    rotate_left
                    ·simp only [Act.put, sA, sB, sC, i64_w, i32_w]; rfl
                    refine take_ (i := 12) (N := some 87) (v := ?_) (a' := ?_) (Bs 13 20) rfl rfl (take_ofW HT_.out HW_.out (by kernel_rfl)) (fun _ _ _ h => h) (Or.inl ⟨by rfl, ?_⟩) hHeld ?_ ?_; rotate_left
                    ·rintro w' ⟨s0, s1, s2, s3, s4, s5⟩; go_simp; with_reducible rfl
                    rotate_left
                    ·simp only [Act.put, sA, sB, sC, i64_w, i32_w]; rfl
                    refine take_ (i := 14) (N := some 89) (v := ?_) (a' := ?_) (Br [13,1,1,5]) rfl rfl (take_ofW HT_.out HW_.out (by kernel_rfl)) (fun _ _ _ h => h) (Or.inl ⟨by rfl, ?_⟩) hHeld ?_ ?_; rotate_left
                    ·rintro w' ⟨s0, s1, s2, s3, s4, s5⟩; go_simp; with_reducible rfl
                    rotate_left
                    ·simp only [Act.put, sA, sB, sC, i64_w, i32_w]; rfl
                    refine take_ (i := 15) (N := some 90) (v := ?_) (a' := ?_) (Br [13,1,2,4]) rfl rfl (take_ofW HT_.out HW_.out (by kernel_rfl)) (fun _ _ _ h => h) (Or.inl ⟨by rfl, ?_⟩) hHeld ?_ ?_; rotate_left
                    ·rintro w' ⟨s0, s1, s2, s3, s4, s5⟩; go_simp; with_reducible rfl
                    rotate_left
                    ·simp only [Act.put, sA, sB, sC, i64_w, i32_w]; rfl
                    refine one_ (i := 13) (N := some 88) (Bs 16 20) rfl rfl (one_of HT_.out (by kernel_rfl)) (by decide) (fun K hK => ?_)
                    refine goes_ Try.func65 (by kernel_rfl) rfl #[.agg #[.int .i64 at'.f0, .int .i64 at'.f1], .agg #[.int .i64 p.f0, .int .i64 p.f1]] (by rfl) rfl rfl (by (try simp only [List.map_toArray, List.map_cons, List.map_nil]); first | done | rfl | (simp only [List.length_drop, List.length_take]; rfl)) ?_
                    with_reducible refine (silversideref01_Square.calls at'.f0 at'.f1 p.f0 p.f1 (sqd at' p) _ HQ1.out).mono ?_
                    rintro e w5 ⟨rfl, hb⟩
                    refine ⟨_, rfl, ?_⟩
                    have n0_ := Aside0.mk (Kd.R_below HO3.out hb)
                    have n1_ := Aside0.mk (blk_below (g := gF) BF3.out hb)
                    have n2_ := Aside0.mk (blk_below (g := gA) BA3.out hb)
                    have n3_ := Aside0.mk (blk_below (g := gT) BT3.out hb)
                    have n4_ := Aside0.mk (blk_below (g := gP) BP3.out hb)
                    have n5_ := Aside0.mk (below_step HB3.out hb)
                    clear HO3
                    clear BF3
                    clear BA3
                    clear BT3
                    clear BP3
                    clear HB3
                    have HO3 := n0_
                    have BF3 := n1_
                    have BA3 := n2_
                    have BT3 := n3_
                    have BP3 := n4_
                    have HB3 := n5_
                    clear n0_ n1_ n2_ n3_ n4_ n5_
                    (try clear hb)
                    (try clear hb2)
                    (try clear hk)
                    (try clear hi)
                    refine hK.out _ _ ⟨(blk_cell BT3.out 0).trans rfl, (blk_cell BT3.out 1).trans rfl, (blk_cell BA3.out 0).trans rfl, (blk_cell BA3.out 1).trans rfl, (blk_cell BP3.out 0).trans rfl, (blk_cell BP3.out 1).trans rfl⟩ (fun hHeld => ?_)
                    clear hK K
                    refine norm_ (a' := ?_) ?_ ?_
                    rotate_left
                    ·show Act.put _ (some 88) _ = _
                     simp only [Act.put, sA, sB, sC, i64_w, i32_w]
                     rfl
                    refine one_ (i := 16) (N := some 91) (Bs 17 20) rfl rfl (one_of HT_.out (by kernel_rfl)) (by decide) (fun K hK => ?_)
                    refine goes_ Try.func65 (by kernel_rfl) rfl #[.agg #[.int .i64 at'.f0, .int .i64 at'.f1], .agg #[.int .i64 tq.f0, .int .i64 tq.f1]] (by rfl) rfl rfl (by (try simp only [List.map_toArray, List.map_cons, List.map_nil]); first | done | rfl | (simp only [List.length_drop, List.length_take]; rfl)) ?_
                    with_reducible refine (silversideref01_Square.calls at'.f0 at'.f1 tq.f0 tq.f1 (sqd at' tq) _ HQ2.out).mono ?_
                    rintro e w6 ⟨rfl, hb⟩
                    refine ⟨_, rfl, ?_⟩
                    have n0_ := Aside0.mk (Kd.R_below HO3.out hb)
                    have n1_ := Aside0.mk (blk_below (g := gF) BF3.out hb)
                    have n2_ := Aside0.mk (blk_below (g := gA) BA3.out hb)
                    have n3_ := Aside0.mk (blk_below (g := gT) BT3.out hb)
                    have n4_ := Aside0.mk (blk_below (g := gP) BP3.out hb)
                    have n5_ := Aside0.mk (below_step HB3.out hb)
                    clear HO3
                    clear BF3
                    clear BA3
                    clear BT3
                    clear BP3
                    clear HB3
                    have HO3 := n0_
                    have BF3 := n1_
                    have BA3 := n2_
                    have BT3 := n3_
                    have BP3 := n4_
                    have HB3 := n5_
                    clear n0_ n1_ n2_ n3_ n4_ n5_
                    (try clear hb)
                    (try clear hb2)
                    (try clear hk)
                    (try clear hi)
                    refine hK.out _ _ ⟨(blk_cell BT3.out 0).trans rfl, (blk_cell BT3.out 1).trans rfl, (blk_cell BA3.out 0).trans rfl, (blk_cell BA3.out 1).trans rfl, (blk_cell BP3.out 0).trans rfl, (blk_cell BP3.out 1).trans rfl⟩ (fun hHeld => ?_)
                    clear hK K
                    refine norm_ (a' := ?_) ?_ ?_
                    rotate_left
                    ·show Act.put _ (some 91) _ = _
                     simp only [Act.put, sA, sB, sC, i64_w, i32_w]
                     rfl
                    refine pure_ (i := 17) (N := some 92) (v := ?_) (a' := ?_) (Bs 18 20) rfl rfl (any_of HT_.out (by kernel_rfl)) (fun _ _ _ h => h) (Or.inl ⟨by rfl, ?_⟩) ?_ ?_; rotate_left
                    ·intro w'; go_simp; with_reducible rfl
                    rotate_left
                    ·simp only [Act.put, sA, sB, sC, i64_w, i32_w]; rfl
                    refine pure_ (i := 18) (N := some 93) (v := ?_) (a' := ?_) (Bs 19 20) rfl rfl (any_of HT_.out (by kernel_rfl)) (fun _ _ _ h => h) (Or.inl ⟨by rfl, ?_⟩) ?_ ?_; rotate_left
                    ·intro w'; go_simp; with_reducible rfl
                    rotate_left
                    ·simp only [Act.put, sA, sB, sC, i64_w, i32_w]; rfl
                    refine pure_ (i := 19) (N := some 94) (v := ?_) (a' := ?_) (Bs 20 20) rfl rfl (any_of HT_.out (by kernel_rfl)) (fun _ _ _ h => h) (Or.inl ⟨by rfl, ?_⟩) ?_ ?_; rotate_left
                    ·intro w'; go_simp; with_reducible rfl
                    rotate_left
                    ·simp only [Act.put, sA, sB, sC, i64_w, i32_w]; rfl
                    refine done_ (done_of HT_.out (by kernel_rfl)) ?_
                    have t0 : w6.cell? ⟨gT, 0, none⟩ = some (.int .i64 tq.f0) := blk_cell BT3.out 0
                    have t1 : w6.cell? ⟨gT, 1, none⟩ = some (.int .i64 tq.f1) := blk_cell BT3.out 1
                    have p0' : w6.cell? ⟨gP, 0, none⟩ = some (.int .i64 p.f0) := blk_cell BP3.out 0
                    have p1' : w6.cell? ⟨gP, 1, none⟩ = some (.int .i64 p.f1) := blk_cell BP3.out 1
                    have ft0 := blk_frozen BT3.out 0
                    have ft1 := blk_frozen BT3.out 1
                    cases b with
                    | true =>
                      have HS2 := Aside0.mk (show scStep at' tq p = p by rw [HS2.out, if_pos (of_decide_eq_true HBQ.out)])
                      go_wp2
                      go_roundw
                      case rel => exact ⟨j + 1, by omega, by go_num, ⟨by rw [HS.out]; exact HPT.out⟩, ⟨by rw [HS.out, HS2.out]; exact blk_put (blk_put BT3.out 0 _ rfl) 1 _ rfl⟩, ⟨Kd.R_far (p := ⟨gT, 1, none⟩) (Kd.R_far (p := ⟨gT, 0, none⟩) HO3.out (fun _ h => h.2) _) (fun _ h => h.2) _⟩, ⟨blk_far (blk_far BF3.out HGT.out.2.1 _) HGT.out.2.1 _⟩, ⟨blk_far (blk_far BA3.out HGT.out.2.2 _) HGT.out.2.2 _⟩, ⟨lS (lS HB3.out HGT.out.1) HGT.out.1⟩⟩
                      case measure => simp [intOf]; omega
                    | false =>
                      have HS2 := Aside0.mk (show scStep at' tq p = tq by rw [HS2.out, if_neg (of_decide_eq_false HBQ.out)])
                      go_wp2
                      go_roundw
                      case rel => exact ⟨j + 1, by omega, by go_num, ⟨by rw [HS.out]; exact HPT.out⟩, ⟨by rw [HS.out, HS2.out]; exact BT3.out⟩, ⟨HO3.out⟩, ⟨BF3.out⟩, ⟨BA3.out⟩, ⟨HB3.out⟩⟩
                      case measure => simp [intOf]; omega
                  · have d4 : (sg == 0) = false := beq_eq_false_iff_ne.2 e4
                    have HS2 := Aside0.mk (show scStep at' tq p = tq by rw [HSS.out, if_neg (by rintro (h1 | h1 | h1); exact e2 h1; exact e3 (HSG.out.1.1 h1); exact e4 (HSG.out.2.1 h1.1))])
                    clear HSS e2 e3 e4
                    go_quiet (fail)
                    go_wp2
                    go_roundw
                    case rel => exact ⟨j + 1, by omega, by go_num, ⟨by rw [HS.out]; exact HPT.out⟩, ⟨by rw [HS.out, HS2.out]; exact (kN BT3.out nq)⟩, ⟨(Kd.R_drewN HO3.out nq)⟩, ⟨(kN BF3.out nq)⟩, ⟨(kN BA3.out nq)⟩, ⟨(lN HB3.out nq)⟩⟩
                    case measure => simp [intOf]; omega
          · obtain rfl : j = l0.length := by omega
            rw [List.take_length, HNX.out] at BT HOT t0 t1
            have f0 : wr.cell? ⟨gF, 0, none⟩ = some (.int .i64 f.f0) := blk_cell BF.out 0
            have f1 : wr.cell? ⟨gF, 1, none⟩ = some (.int .i64 f.f1) := blk_cell BF.out 1
            have HTK := Aside0.mk (show i + 1 < H.length → H.take (i + 1) ++ [pt H (i + 1)] = H.take (i + 1 + 1) from fun h => (take_pt H (i + 1) h).symm)
            by_cases hn : i + 1 < H.length
            · obtain ⟨n1, n2, n3⟩ := HNE.out.1 hn
              have HTK := Aside0.mk (HTK.out hn)
              rw [n1] at BT HOT t0 t1
              have HPN := Aside0.mk (show pt H (i + 1) = pt H (i + 1) from rfl)
              obtain ⟨tq, htq⟩ : ∃ q, q = pt H (i + 1) := ⟨_, rfl⟩
              rw [← htq] at BT HOT t0 t1 n2 n3 HTK
              have HTQ := Aside0.mk htq
              clear htq HPN
              have d1 : (tq.f0 == at'.f0 && tq.f1 == at'.f1) = false := by rw [eqB, decide_eq_false_iff_not]; exact n2
              have d2 : (tq.f0 == f.f0 && tq.f1 == f.f1) = false := by rw [eqB, decide_eq_false_iff_not]; exact n3
              clear n1 n2 n3 HNE HNX
              have hlen : (H.take (i + 1)).length ≤ 8192 := by rw [List.length_take]; omega
              go_wp2_with (first | ((with_reducible refine gate_builtin (b := .append) (xs := #[.tmp 105, .tmp 107]) rfl ?_); at_builtin; refine Kd.R_append k31 (w0 := w) w.heap.size rfl (.tmp 105) (.tmp 107) 22 31 (.agg #[(.int .i64 0), (.int .i64 0)]) 16 rfl Try.underlying22 info31 rfl (by decide) (by omega) u5 (H.take (i + 1)) tq [.int .i64 tq.f0, .int .i64 tq.f1] (fun k_ => (k_ ≠ gF ∧ k_ ≠ gA) ∧ k_ ≠ gT) (fun _ => False) rfl rfl ?aP (fun _ hk => hk.elim) ?aF ?aO ?aB ?aS ?aL ?_; (case aP => exact k31_mkM _ _ _ tq); (case aB => exact HB.out); (case aF => exact (fun k_ hk => ⟨⟨Kd.freshB (g := gF) (kX BF.out) k_ hk, Kd.freshB (g := gA) (kX BA.out) k_ hk⟩, Kd.freshB (g := gT) (kX BT.out) k_ hk⟩)); (case aO => exact HO.out); (case aS => exact (below_size HB.out)); (case aL => omega); intro v5 w5 ho hb hg hat; have BF5 := Aside0.mk (blk_grown (g := gF) (kX BF.out) hg (fun e => (HO.out.1 _ e.symm).1.1 rfl)); have BA5 := Aside0.mk (blk_grown (g := gA) (kX BA.out) hg (fun e => (HO.out.1 _ e.symm).1.2 rfl)); have BT5 := Aside0.mk (blk_grown (g := gT) (kX BT.out) hg (fun e => (HO.out.1 _ e.symm).2 rfl)); have HB5 := Aside0.mk hb; have HO5 := Aside0.mk ho; clear BF BA BT HB HO ho hb hg hat t0 t1 a0 a1 f0 f1 ft0 ft1; have t0 : w5.cell? ⟨gT, 0, none⟩ = some (.int .i64 tq.f0) := blk_cell BT5.out 0; have t1 : w5.cell? ⟨gT, 1, none⟩ = some (.int .i64 tq.f1) := blk_cell BT5.out 1; have a0 : w5.cell? ⟨gA, 0, none⟩ = some (.int .i64 at'.f0) := blk_cell BA5.out 0; have a1 : w5.cell? ⟨gA, 1, none⟩ = some (.int .i64 at'.f1) := blk_cell BA5.out 1; have fa0 := blk_frozen BA5.out 0; have fa1 := blk_frozen BA5.out 1))
              have hsz : ((w5.setCell ⟨gA, 0, none⟩ (.int .i64 tq.f0)).setCell ⟨gA, 1, none⟩ (.int .i64 tq.f1)).heap.size = w5.heap.size := by simp [World.setCell]
              have BN := Aside0.mk (heap_alloc_new ((w5.setCell ⟨gA, 0, none⟩ (.int .i64 tq.f0)).setCell ⟨gA, 1, none⟩ (.int .i64 tq.f1)) (Obj.cells #[.int .i64 tq.f0, .int .i64 tq.f1] 31))
              rw [hsz] at BN
              go_roundg (gk - 1)
              case measure => omega
              case rel => exact ⟨i + 1, w5.heap.size, by omega, hn, rfl, ⟨below_size HB5.out, by have := blk_lt BF5.out; omega⟩, ⟨by rw [← HTK.out]; exact Kd.R_mono (Kd.R_alloc (Kd.R_far (p := ⟨gA, 1, none⟩) (Kd.R_far (p := ⟨gA, 0, none⟩) (Kd.R_elderB HO5.out w5.heap.size (Nat.le_refl _)) (fun _ h => h.1.1.2) _) (fun _ h => h.1.1.2) _) _) (fun _ h => ⟨h.1.1.1, h.2⟩)⟩, ⟨kA (blk_far (blk_far BF5.out HGA.out.2 _) HGA.out.2 _) _⟩, ⟨by rw [← HTQ.out]; exact BN.out⟩, ⟨lA (lS (lS HB5.out HGA.out.1) HGA.out.1) _⟩⟩
            · have h1 : pt H (nxt i H.length) = f := by rw [HNE.out.2 hn]; exact HPF.out
              rw [h1] at BT HOT t0 t1
              have d2 : (f.f0 == f.f0 && f.f1 == f.f1) = true := (eqB' f f).2 rfl
              have HTK2 := Aside0.mk (show H.take (i + 1) = H by rw [show i + 1 = H.length by omega, List.take_length])
              clear h1
              obtain ⟨b, hb⟩ : ∃ b, (f.f0 == at'.f0 && f.f1 == at'.f1) = b := ⟨_, rfl⟩
              cases b with
              | true =>
                go_wp2
                go_ret
                exact ⟨_, rfl, by rw [HHE.out]; rw [HTK2.out] at HO; exact Kd.R_mono HO.out (fun _ _ => trivial), HB.out⟩
              | false =>
                go_wp2
                go_ret
                exact ⟨_, rfl, by rw [HHE.out]; rw [HTK2.out] at HO; exact Kd.R_mono HO.out (fun _ _ => trivial), HB.out⟩
/-- the reference's hull, or nothing where it is no set of points -/
def silversideref01_Hull.f (l0 : List S31) : Option (List S31) := if 1 ≤ l0.length ∧ l0.length ≤ 4096 ∧ allOk l0 = true then some (cornersS l0) else none
theorem silversideref01_Hull.calls (A0 : Option Addr) (c0 : Nat) (l0 : List S31) (r : List S31) (w : World) (hr0 : Kd.C k31 w A0 l0.length l0) (hc0 : l0.length ≤ c0) (h : silversideref01_Hull.f l0 = some r) :
    Calls Try.prog 35 #[.slice A0 l0.length c0] w fun e w' => ∃ v0_ : Value, e = .returned (v0_) ∧ Kd.R k31 31 w' w.heap.size (fun _ => True) v0_ r ∧ Below w.heap.size w w' := by
  unfold silversideref01_Hull.f at h
  split at h
  · rename_i hh
    cases h
    exact refhull_calls A0 c0 l0 w hr0 hc0 hh.1 hh.2.1 hh.2.2
  · cases h
end Go.Proofs.Ythaklbjcjoolcaa.P
namespace Go.Proofs.Ythaklbjcjoolcaa.P
open Go.RowKit Go.Proofs.YthaklbjcjoolcaaW.PrintWords Go.Proofs.YthaklbjcjoolcaaW.PrintLast Go.Proofs.YthaklbjcjoolcaaW.PrintMore
attribute [local go_sem] max2_int min2_int max_two min_two max_three min_three max_four min_four   -- for this text's walks alone
set_option linter.unusedVariables false
set_option linter.unusedSimpArgs false

/-! ### silversideref01_within: function 70 -/
def silversideref01_within.f (a0 : Int) (a1 : Int) : Option (Bool) := if a0 ≥ (wrap64 (-a1)) then (some (decide (a0 ≤ a1))) else (some false)
set_option maxHeartbeats 8000000 in
set_option maxRecDepth 100000 in
theorem silversideref01_within.calls (a0 : Int) (a1 : Int) (r : Bool) (w : World) (h : silversideref01_within.f a0 a1 = some r) :
  Calls Try.prog 70 #[.int .i64 a0, .int .i64 a1] w fun e w' => e = .returned (.bool r) ∧ Drawn0 w w' := by
 have H : (if a0 ≥ (wrap64 (-a1)) then (some (decide (a0 ≤ a1))) else (some false)) = some r := h
 clear h
 by_cases c3 : a0 ≥ (wrap64 (-a1))
 ·rw [if_pos c3] at H
  have c3b0 : decide ((wrap64 (-a1)) ≤ a0) = true := decide_eq_true c3
  clear c3
  obtain rfl := Option.some.inj H
  go_enter Try.func70, Try.ntmps70
  go_wp2
  go_ret
  exact ⟨by first | rfl | (simp; done) | (simp [*]; done), by repeat (first | exact Drawn0.refl _ | apply Drawn0.step)⟩
 rw [if_neg c3] at H
 have c3b0 : decide ((wrap64 (-a1)) ≤ a0) = false := decide_eq_false c3
 clear c3
 obtain rfl := Option.some.inj H
 go_enter Try.func70, Try.ntmps70
 go_wp2
 go_ret
 exact ⟨by first | rfl | (simp; done) | (simp [*]; done), by repeat (first | exact Drawn0.refl _ | apply Drawn0.step)⟩

end Go.Proofs.Ythaklbjcjoolcaa.P
namespace Go.Proofs.Ythaklbjcjoolcaa.P
open Go.RowKit Go.Shelf Go.Sort Go.Proofs.YthaklbjcjoolcaaW.PrintWords Go.Proofs.YthaklbjcjoolcaaW.PrintLast Go.Proofs.YthaklbjcjoolcaaW.PrintMore
set_option linter.unusedVariables false
set_option linter.unusedSimpArgs false
theorem refwithin_is (n m : Int) (hm : 0 ≤ m ∧ m ≤ 1152921504606846976) : silversideref01_within.f n m = some (decide (-m ≤ n ∧ n ≤ m)) := by
  unfold silversideref01_within.f
  rw [w64i (x := -m) (by omega) (by omega)]
  by_cases h : n ≥ -m
  · rw [if_pos h]; congr 1; rw [Bool.eq_iff_iff, decide_eq_true_eq, decide_eq_true_eq]; omega
  · rw [if_neg h]; congr 1; symm; rw [decide_eq_false_iff_not]; omega
theorem refwithin_quiet {a b : Int} {r : Bool} (h : silversideref01_within.f a b = some r) (w : World) : Calls Try.prog 70 #[.int .i64 a, .int .i64 b] w fun e w' => e = .returned (.bool r) ∧ ∃ m, w' = w.drewN m :=
  (silversideref01_within.calls a b r w h).mono fun e w' ⟨he, n, hn⟩ => ⟨he, n, hn⟩
theorem sideW_neg {a b : S31} (ha : okPt a = true) (hb : okPt b = true) {X Y D : Int} (hx : -4398046511104 ≤ X ∧ X ≤ 4398046511104) (hy : -4398046511104 ≤ Y ∧ Y ≤ 4398046511104) (hd : 1 ≤ D ∧ D ≤ 1073741824) : sideW b a X Y D = -sideW a b X Y D := by
  rw [okPt_iff] at ha hb
  have h1 := mul_bd (a := a.f1) (b := D) (m := 4096) (n := 1073741824) (by omega) (by omega)
  have h2 := mul_bd (a := a.f0) (b := D) (m := 4096) (n := 1073741824) (by omega) (by omega)
  have h3 := mul_bd (a := b.f0 - a.f0) (b := Y - a.f1 * D) (m := 8192) (n := 8796093022208) (by omega) (by omega)
  have h4 := mul_bd (a := b.f1 - a.f1) (b := X - a.f0 * D) (m := 8192) (n := 8796093022208) (by omega) (by omega)
  have h5 := mul_bd (a := b.f1) (b := D) (m := 4096) (n := 1073741824) (by omega) (by omega)
  have h6 := mul_bd (a := b.f0) (b := D) (m := 4096) (n := 1073741824) (by omega) (by omega)
  have h7 := mul_bd (a := a.f0 - b.f0) (b := Y - b.f1 * D) (m := 8192) (n := 8796093022208) (by omega) (by omega)
  have h8 := mul_bd (a := a.f1 - b.f1) (b := X - b.f0 * D) (m := 8192) (n := 8796093022208) (by omega) (by omega)
  unfold sideW
  rw [w64i (x := a.f1 * D) (by omega) (by omega), w64i (x := a.f0 * D) (by omega) (by omega), w64i (x := b.f0 - a.f0) (by omega) (by omega), w64i (x := b.f1 - a.f1) (by omega) (by omega), w64i (x := Y - a.f1 * D) (by omega) (by omega), w64i (x := X - a.f0 * D) (by omega) (by omega),
    w64i (x := (b.f0 - a.f0) * (Y - a.f1 * D)) (by omega) (by omega), w64i (x := (b.f1 - a.f1) * (X - a.f0 * D)) (by omega) (by omega), w64i (x := (b.f0 - a.f0) * (Y - a.f1 * D) - _) (by omega) (by omega),
    w64i (x := b.f1 * D) (by omega) (by omega), w64i (x := b.f0 * D) (by omega) (by omega), w64i (x := a.f0 - b.f0) (by omega) (by omega), w64i (x := a.f1 - b.f1) (by omega) (by omega), w64i (x := Y - b.f1 * D) (by omega) (by omega), w64i (x := X - b.f0 * D) (by omega) (by omega),
    w64i (x := (a.f0 - b.f0) * (Y - b.f1 * D)) (by omega) (by omega), w64i (x := (a.f1 - b.f1) * (X - b.f0 * D)) (by omega) (by omega), w64i (by omega) (by omega)]
  grind
/-- the reference's test of a point is the program's -/
theorem refin_holds {H : List S31} (h0 : 1 ≤ H.length) (hok : allOk H = true) {X Y D : Int} (hx : -4398046511104 ≤ X ∧ X ≤ 4398046511104) (hy : -4398046511104 ≤ Y ∧ Y ≤ 4398046511104) (hd : 1 ≤ D ∧ D ≤ 1073741824) : refInB H X Y D = holdsB H X Y D := by
  by_cases h1 : H.length = 1
  · unfold refInB holdsB; rw [if_pos h1, if_pos h1]
  by_cases h2 : H.length = 2
  · have e := sideW_neg (allOk_pt hok 0 (by omega)) (allOk_pt hok 1 (by omega)) hx hy hd
    unfold refInB holdsB
    rw [if_neg h1, if_neg h1, if_pos h2, h2, decide_eq_false (show ¬ 2 < 2 by omega), Bool.false_or, Bool.eq_iff_iff, Bool.and_eq_true, List.all_eq_true, decide_eq_true_eq, decide_eq_true_eq]
    constructor
    · rintro ⟨h3, h4⟩
      have k0 := h3 0 (by simp)
      have k1 := h3 1 (by simp)
      rw [decide_eq_true_eq] at k0 k1
      simp only [Nat.reduceAdd, Nat.reduceMod] at k0 k1
      exact ⟨by omega, h4⟩
    · rintro ⟨h3, h4⟩
      refine ⟨fun i hi => ?_, h4⟩
      rw [List.mem_range] at hi
      rw [decide_eq_true_eq]
      have : i = 0 ∨ i = 1 := by omega
      rcases this with rfl | rfl
      · simp only [Nat.reduceAdd, Nat.reduceMod]; omega
      · simp only [Nat.reduceAdd, Nat.reduceMod]; omega
  · unfold refInB holdsB
    rw [if_neg h1, if_neg h1, if_neg h2, decide_eq_true (show 2 < H.length by omega), Bool.true_or, Bool.and_true]
def silversideref01_Right.f (l0 l1 : List S31) (m : Bool) (x y d u v t : Int) : Option Bool := if isSetB l0 = true ∧ isSetB l1 = true then some (rightB l0 l1 m x y d u v t) else none
def rrightR.T2 : Bool × List (List Nat × List Nat) := (true, [([], []), ([0], [0]), ([1], [1]), ([2], [2]), ([3], [3]), ([4, 3], [3, 4]), ([5, 3], [3, 5]), ([3, 6], [3, 6]), ([7, 3], [7]), ([8], [8]), ([9, 8], [8, 9]), ([10, 8], [8, 10]), ([8, 11], [8, 11]), ([12, 8], [12]), ([13], [13]), ([14, 13], [13, 14]), ([15, 13], [13, 15]), ([13, 16], [13, 16]), ([17, 13], [17]), ([18], [18]), ([19, 18], [18, 19]), ([20, 18], [18, 20]), ([18, 21], [18, 21]), ([22, 18], [22]), ([23], [23]), ([24, 23], [23, 24]), ([25, 23, 23], [23, 25]), ([23, 26], [23, 26]), ([27, 26], [27]), ([28], [28]), ([29, 28], [28, 29]), ([30, 28, 28], [28, 30]), ([28, 31], [28, 31]), ([32, 31], [32]), ([33], [33]), ([34, 33, 33], [33, 34]), ([33], [33]), ([36, 33], [33, 36]), ([33], [33]), ([38, 33], [33, 38]), ([33], [33]), ([40, 33], [33, 40]), ([35, 37, 39, 41, 35, 33], [33, 35, 37, 39, 41]), ([33, 42], [33, 42]), ([43, 42], [43]), ([44], [44]), ([45, 44, 44], [44, 45]), ([44], [44]), ([47, 44], [44, 47]), ([44], [44]), ([49, 44], [44, 49]), ([44], [44]), ([51, 44], [44, 51]), ([46, 48, 50, 52, 46, 44], [44, 46, 48, 50, 52]), ([44, 53], [44, 53]), ([54, 53, 0, 1, 2, 3, 4, 5, 6, 7, 8, 9, 10, 11, 12, 13, 14, 15, 16, 17, 18, 19, 20, 21, 22, 23, 24, 25, 26, 27, 28, 29, 30, 31, 32, 33, 34, 35, 36, 37, 38, 39, 40, 41, 42, 43, 44, 45, 46, 47, 48, 49, 50, 51, 52, 53, 54], [54])])
def rrightR.B2 : List Nat := [0, 1, 3, 7, 15, 31, 63, 127, 255, 511, 1023, 2047, 4095, 8191, 16383, 32767, 65535, 131071, 262143, 524287, 1048575, 2097151, 4194303, 8388607, 16777215, 33554431, 67108863, 134217727, 268435455, 536870911, 1073741823, 2147483647, 4294967295, 8589934591, 17179869183, 34359738367, 17179869183, 85899345919, 17179869183, 292057776127, 17179869183, 1116691496959, 4398046511103, 8796093022207, 17592186044415, 35184372088831, 70368744177663, 35184372088831, 175921860444159, 35184372088831, 598134325510143, 35184372088831, 2286984185774079, 9007199254740991, 18014398509481983, 36028797018963967]
theorem rrightR.tab2 : rtab .any (opsOf Try.f40 2) = rrightR.T2 := by kernel_rfl
theorem rrightR.bits2 : waitsOk rrightR.T2.2 rrightR.B2 = true := by kernel_rfl
set_option maxHeartbeats 40000000 in
set_option maxRecDepth 100000 in
theorem rright_meet (A0 : Option Addr) (c0 : Nat) (a : List S31) (A1 : Option Addr) (c1 : Nat) (b : List S31) (x y d u v t : Int) (w : World) (hr0 : Kd.C k31 w A0 a.length a) (hc0 : a.length ≤ c0) (hr1 : Kd.C k31 w A1 b.length b) (hc1 : b.length ≤ c1) (ha : isSetB a = true) (hb : isSetB b = true) :
    Calls Try.prog 40 #[.slice A0 a.length c0, .slice A1 b.length c1, .agg #[.bool true, .int .i64 x, .int .i64 y, .int .i64 d, .int .i64 u, .int .i64 v, .int .i64 t]] w fun e w' => e = .returned (.bool (rightB a b true x y d u v t)) ∧ Below w.heap.size w w' := by
  obtain ⟨⟨la1, la2⟩, oa⟩ := (isSetB_iff a).1 ha
  obtain ⟨⟨lb1, lb2⟩, ob⟩ := (isSetB_iff b).1 hb
  have HC0 := Aside0.mk (fun W (hb : Below w.heap.size w W) => refhull_calls A0 c0 a W (Kd.C_below hr0 hb) hc0 la1 (by omega) oa)
  have HC1 := Aside0.mk (fun W (hb : Below w.heap.size w W) => refhull_calls A1 c1 b W (Kd.C_below hr1 hb) hc1 lb1 (by omega) ob)
  have hpl := cornersS_len a
  have hql := cornersS_len b
  have hpp := cornersS_pos la1
  have hqp := cornersS_pos lb1
  have HH0 := Aside0.mk (show silversideref01_in.f (cornersS a) x y d = some (refInB (cornersS a) x y d) from if_pos (by omega))
  have HH1 := Aside0.mk (show silversideref01_in.f (cornersS b) x y d = some (refInB (cornersS b) x y d) from if_pos (by omega))
  have HW4 := Aside0.mk (refwithin_is x 4398046511104 (by omega))
  have HW5 := Aside0.mk (refwithin_is y 4398046511104 (by omega))
  have HE := Aside0.mk (show rightB a b true x y d u v t = ((u == 0) && ((v == 0) && ((t == 0) && (decide (1 ≤ d) && (decide (d ≤ 1073741824) && (decide (-4398046511104 ≤ x ∧ x ≤ 4398046511104) && (decide (-4398046511104 ≤ y ∧ y ≤ 4398046511104) && (refInB (cornersS a) x y d && refInB (cornersS b) x y d)))))))) from by
    have hsplit : decide (1 ≤ d ∧ d ≤ 1073741824) = (decide (1 ≤ d) && decide (d ≤ 1073741824)) := by rw [Bool.eq_iff_iff]; simp
    have e : rightB a b true x y d u v t = ((u == 0) && ((v == 0) && ((t == 0) && (decide (1 ≤ d ∧ d ≤ 1073741824) && (decide (-4398046511104 ≤ x ∧ x ≤ 4398046511104) && (decide (-4398046511104 ≤ y ∧ y ≤ 4398046511104) && (holdsB (cornersS a) x y d && holdsB (cornersS b) x y d))))))) := rfl
    rw [e]
    by_cases hd : 1 ≤ d ∧ d ≤ 1073741824
    · by_cases hx : -4398046511104 ≤ x ∧ x ≤ 4398046511104
      · by_cases hy : -4398046511104 ≤ y ∧ y ≤ 4398046511104
        · rw [refin_holds hpp (cornersS_ok oa) hx hy hd, refin_holds hqp (cornersS_ok ob) hx hy hd, hsplit, Bool.and_assoc]
        · rw [decide_eq_false hy, hsplit]; simp
      · rw [decide_eq_false hx, hsplit]; simp
    · rw [decide_eq_false hd]
      cases h1 : decide (1 ≤ d)
      · simp
      · rw [show decide (d ≤ 1073741824) = false by rw [decide_eq_false_iff_not]; intro h; exact hd ⟨of_decide_eq_true h1, h⟩]; simp)
  have HB := Aside0.mk (lA (Below.refl w.heap.size w) (Obj.cells #[.bool true, .int .i64 x, .int .i64 y, .int .i64 d, .int .i64 u, .int .i64 v, .int .i64 t] 44))
  obtain ⟨f0, f1, f2, f3, f4, f5, f6⟩ := cells7 (heap_alloc_new w (Obj.cells #[.bool true, .int .i64 x, .int .i64 y, .int .i64 d, .int .i64 u, .int .i64 v, .int .i64 t] 44))
  clear hr0 hr1 ha hb oa ob hpl hql la1 la2 lb1 lb2 hpp hqp
  generalize rightB a b true x y d u v t = r at *
  generalize cornersS a = p at *
  generalize cornersS b = q at *
  generalize decide (-4398046511104 ≤ x ∧ x ≤ 4398046511104) = t4 at *
  generalize decide (-4398046511104 ≤ y ∧ y ≤ 4398046511104) = t5 at *
  generalize refInB p x y d = t6 at *
  generalize refInB q x y d = t7 at *
  go_enter Try.func40, Try.ntmps40
  go_wp2
  generalize w.alloc (Obj.cells #[.bool true, .int .i64 x, .int .i64 y, .int .i64 d, .int .i64 u, .int .i64 v, .int .i64 t] 44) = W at *
  cases h0 : (u == 0)
  · have HR := Aside0.mk (show r = false by rw [HE.out, h0]; simp)
    go_quiet (first | (go_at_call 70; with_reducible refine Calls.quiet_of (refwithin_quiet HW4.out _)) | (go_at_call 70; with_reducible refine Calls.quiet_of (refwithin_quiet HW5.out _)))
    try go_wp2
    go_ret
    exact ⟨by rw [HR.out]; rfl, lN HB.out _⟩
  cases h1 : (v == 0)
  · have HR := Aside0.mk (show r = false by rw [HE.out, h0, h1]; simp)
    go_quiet (first | (go_at_call 70; with_reducible refine Calls.quiet_of (refwithin_quiet HW4.out _)) | (go_at_call 70; with_reducible refine Calls.quiet_of (refwithin_quiet HW5.out _)))
    try go_wp2
    go_ret
    exact ⟨by rw [HR.out]; rfl, lN HB.out _⟩
  cases h2 : (t == 0)
  · have HR := Aside0.mk (show r = false by rw [HE.out, h0, h1, h2]; simp)
    go_quiet (first | (go_at_call 70; with_reducible refine Calls.quiet_of (refwithin_quiet HW4.out _)) | (go_at_call 70; with_reducible refine Calls.quiet_of (refwithin_quiet HW5.out _)))
    try go_wp2
    go_ret
    exact ⟨by rw [HR.out]; rfl, lN HB.out _⟩
  cases h3 : decide (1 ≤ d)
  · have HR := Aside0.mk (show r = false by rw [HE.out, h0, h1, h2, h3]; simp)
    go_quiet (first | (go_at_call 70; with_reducible refine Calls.quiet_of (refwithin_quiet HW4.out _)) | (go_at_call 70; with_reducible refine Calls.quiet_of (refwithin_quiet HW5.out _)))
    try go_wp2
    go_ret
    exact ⟨by rw [HR.out]; rfl, lN HB.out _⟩
  cases h4 : decide (d ≤ 1073741824)
  · have HR := Aside0.mk (show r = false by rw [HE.out, h0, h1, h2, h3, h4]; simp)
    go_quiet (first | (go_at_call 70; with_reducible refine Calls.quiet_of (refwithin_quiet HW4.out _)) | (go_at_call 70; with_reducible refine Calls.quiet_of (refwithin_quiet HW5.out _)))
    try go_wp2
    go_ret
    exact ⟨by rw [HR.out]; rfl, lN HB.out _⟩
  cases t4
  · have HR := Aside0.mk (show r = false by rw [HE.out, h0, h1, h2, h3, h4]; simp)
    go_quiet (first | (go_at_call 70; with_reducible refine Calls.quiet_of (refwithin_quiet HW4.out _)) | (go_at_call 70; with_reducible refine Calls.quiet_of (refwithin_quiet HW5.out _)))
    try go_wp2
    go_ret
    exact ⟨by rw [HR.out]; rfl, lN HB.out _⟩
  cases t5
  · have HR := Aside0.mk (show r = false by rw [HE.out, h0, h1, h2, h3, h4]; simp)
    go_quiet (first | (go_at_call 70; with_reducible refine Calls.quiet_of (refwithin_quiet HW4.out _)) | (go_at_call 70; with_reducible refine Calls.quiet_of (refwithin_quiet HW5.out _)))
    try go_wp2
    go_ret
    exact ⟨by rw [HR.out]; rfl, lN HB.out _⟩
  cases t6
  · have HR := Aside0.mk (show r = false by rw [HE.out, h0, h1, h2, h3, h4]; simp)
    refine start_ (n := 56) (S := fun w' => w'.cell? ⟨w.heap.size, 1, none⟩ = some (.int .i64 x) ∧ w'.cell? ⟨w.heap.size, 2, none⟩ = some (.int .i64 y) ∧ w'.cell? ⟨w.heap.size, 3, none⟩ = some (.int .i64 d) ∧ w'.cell? ⟨w.heap.size, 4, none⟩ = some (.int .i64 u) ∧ w'.cell? ⟨w.heap.size, 5, none⟩ = some (.int .i64 v) ∧ w'.cell? ⟨w.heap.size, 6, none⟩ = some (.int .i64 t)) (ds := []) (Bs 0 56) (by kernel_rfl) rfl rfl ⟨f1, f2, f3, f4, f5, f6⟩ (fun hHeld => ?_)
    refine with_tabW rrightR.tab2 rrightR.bits2 (fun HT_ HW_ => ?_)
    refine pure_ (i := 0) (N := some 11) (v := ?_) (a' := ?_) (Bs 1 56) rfl rfl (any_of HT_.out (by kernel_rfl)) (fun _ _ _ h => h) (Or.inl ⟨by rfl, ?_⟩) ?_ ?_; rotate_left
    · intro w'; go_simp; with_reducible rfl
    rotate_left
    · simp only [Act.put, sA, sB, sC, i64_w, i32_w]; rfl
    refine take_ (i := 1) (N := some 12) (v := ?_) (a' := ?_) (Bs 2 56) rfl rfl (take_ofW HT_.out HW_.out (by kernel_rfl)) (fun _ _ _ h => h) (Or.inl ⟨by rfl, ?_⟩) hHeld ?_ ?_; rotate_left
    · rintro w' ⟨s0, s1, s2, s3, s4, s5⟩; go_simp; with_reducible rfl
    rotate_left
    · simp only [Act.put, sA, sB, sC, i64_w, i32_w]; rfl
    refine pure_ (i := 2) (N := some 13) (v := ?_) (a' := ?_) (Bs 3 56) rfl rfl (any_of HT_.out (by kernel_rfl)) (fun _ _ _ h => h) (Or.inl ⟨by rfl, ?_⟩) ?_ ?_; rotate_left
    · intro w'; go_simp; with_reducible rfl
    rotate_left
    · simp only [Act.put, sA, sB, sC, i64_w, i32_w]; rfl
    refine pure_ (i := 3) (N := some 14) (v := ?_) (a' := ?_) (Bs 4 56) rfl rfl (any_of HT_.out (by kernel_rfl)) (fun _ _ _ h => h) (Or.inl ⟨by rfl, ?_⟩) ?_ ?_; rotate_left
    · intro w'; go_simp; with_reducible rfl
    rotate_left
    · simp only [Act.put, sA, sB, sC, i64_w, i32_w]; rfl
    refine pure_ (i := 4) (N := some 15) (v := ?_) (a' := ?_) (Bs 5 56) rfl rfl (any_of HT_.out (by kernel_rfl)) (fun _ _ _ h => h) (Or.inl ⟨by rfl, ?_⟩) ?_ ?_; rotate_left
    · intro w'; go_simp; with_reducible rfl
    rotate_left
    · simp only [Act.put, sA, sB, sC, i64_w, i32_w]; rfl
    refine take_ (i := 5) (N := some 16) (v := ?_) (a' := ?_) (Bs 6 56) rfl rfl (take_ofW HT_.out HW_.out (by kernel_rfl)) (fun _ _ _ h => h) (Or.inl ⟨by rfl, ?_⟩) hHeld ?_ ?_; rotate_left
    · rintro w' ⟨s0, s1, s2, s3, s4, s5⟩; go_simp; with_reducible rfl
    rotate_left
    · simp only [Act.put, sA, sB, sC, i64_w, i32_w]; rfl
    refine pure_ (i := 6) (N := some 17) (v := ?_) (a' := ?_) (Bs 7 56) rfl rfl (any_of HT_.out (by kernel_rfl)) (fun _ _ _ h => h) (Or.inl ⟨by rfl, ?_⟩) ?_ ?_; rotate_left
    · intro w'; go_simp; with_reducible rfl
    rotate_left
    · simp only [Act.put, sA, sB, sC, i64_w, i32_w]; rfl
    refine pure_ (i := 7) (N := some 18) (v := ?_) (a' := ?_) (Bs 8 56) rfl rfl (any_of HT_.out (by kernel_rfl)) (fun _ _ _ h => h) (Or.inl ⟨by rfl, ?_⟩) ?_ ?_; rotate_left
    · intro w'; go_simp; with_reducible rfl
    rotate_left
    · simp only [Act.put, sA, sB, sC, i64_w, i32_w]; rfl
    refine pure_ (i := 8) (N := some 19) (v := ?_) (a' := ?_) (Bs 9 56) rfl rfl (any_of HT_.out (by kernel_rfl)) (fun _ _ _ h => h) (Or.inl ⟨by rfl, ?_⟩) ?_ ?_; rotate_left
    · intro w'; go_simp; with_reducible rfl
    rotate_left
    · simp only [Act.put, sA, sB, sC, i64_w, i32_w]; rfl
    refine pure_ (i := 9) (N := some 20) (v := ?_) (a' := ?_) (Bs 10 56) rfl rfl (any_of HT_.out (by kernel_rfl)) (fun _ _ _ h => h) (Or.inl ⟨by rfl, ?_⟩) ?_ ?_; rotate_left
    · intro w'; go_simp; with_reducible rfl
    rotate_left
    · simp only [Act.put, sA, sB, sC, i64_w, i32_w]; rfl
    refine take_ (i := 10) (N := some 21) (v := ?_) (a' := ?_) (Bs 11 56) rfl rfl (take_ofW HT_.out HW_.out (by kernel_rfl)) (fun _ _ _ h => h) (Or.inl ⟨by rfl, ?_⟩) hHeld ?_ ?_; rotate_left
    · rintro w' ⟨s0, s1, s2, s3, s4, s5⟩; go_simp; with_reducible rfl
    rotate_left
    · simp only [Act.put, sA, sB, sC, i64_w, i32_w]; rfl
    refine pure_ (i := 11) (N := some 22) (v := ?_) (a' := ?_) (Bs 12 56) rfl rfl (any_of HT_.out (by kernel_rfl)) (fun _ _ _ h => h) (Or.inl ⟨by rfl, ?_⟩) ?_ ?_; rotate_left
    · intro w'; go_simp; with_reducible rfl
    rotate_left
    · simp only [Act.put, sA, sB, sC, i64_w, i32_w]; rfl
    refine pure_ (i := 12) (N := some 23) (v := ?_) (a' := ?_) (Bs 13 56) rfl rfl (any_of HT_.out (by kernel_rfl)) (fun _ _ _ h => h) (Or.inl ⟨by rfl, ?_⟩) ?_ ?_; rotate_left
    · intro w'; go_simp; with_reducible rfl
    rotate_left
    · simp only [Act.put, sA, sB, sC, i64_w, i32_w]; rfl
    refine pure_ (i := 13) (N := some 24) (v := ?_) (a' := ?_) (Bs 14 56) rfl rfl (any_of HT_.out (by kernel_rfl)) (fun _ _ _ h => h) (Or.inl ⟨by rfl, ?_⟩) ?_ ?_; rotate_left
    · intro w'; go_simp; with_reducible rfl
    rotate_left
    · simp only [Act.put, sA, sB, sC, i64_w, i32_w]; rfl
    refine pure_ (i := 14) (N := some 25) (v := ?_) (a' := ?_) (Bs 15 56) rfl rfl (any_of HT_.out (by kernel_rfl)) (fun _ _ _ h => h) (Or.inl ⟨by rfl, ?_⟩) ?_ ?_; rotate_left
    · intro w'; go_simp; with_reducible rfl
    rotate_left
    · simp only [Act.put, sA, sB, sC, i64_w, i32_w]; rfl
    refine take_ (i := 15) (N := some 26) (v := ?_) (a' := ?_) (Bs 16 56) rfl rfl (take_ofW HT_.out HW_.out (by kernel_rfl)) (fun _ _ _ h => h) (Or.inl ⟨by rfl, ?_⟩) hHeld ?_ ?_; rotate_left
    · rintro w' ⟨s0, s1, s2, s3, s4, s5⟩; go_simp; with_reducible rfl
    rotate_left
    · simp only [Act.put, sA, sB, sC, i64_w, i32_w]; rfl
    refine pure_ (i := 16) (N := some 27) (v := ?_) (a' := ?_) (Bs 17 56) rfl rfl (any_of HT_.out (by kernel_rfl)) (fun _ _ _ h => h) (Or.inl ⟨by rfl, ?_⟩) ?_ ?_; rotate_left
    · intro w'; go_simp; with_reducible rfl
    rotate_left
    · simp only [Act.put, sA, sB, sC, i64_w, i32_w]; rfl
    refine pure_ (i := 17) (N := some 28) (v := ?_) (a' := ?_) (Bs 18 56) rfl rfl (any_of HT_.out (by kernel_rfl)) (fun _ _ _ h => h) (Or.inl ⟨by rfl, ?_⟩) ?_ ?_; rotate_left
    · intro w'; go_simp; with_reducible rfl
    rotate_left
    · simp only [Act.put, sA, sB, sC, i64_w, i32_w]; rfl
    refine pure_ (i := 18) (N := some 29) (v := ?_) (a' := ?_) (Bs 19 56) rfl rfl (any_of HT_.out (by kernel_rfl)) (fun _ _ _ h => h) (Or.inl ⟨by rfl, ?_⟩) ?_ ?_; rotate_left
    · intro w'; go_simp; with_reducible rfl
    rotate_left
    · simp only [Act.put, sA, sB, sC, i64_w, i32_w]; rfl
    refine pure_ (i := 19) (N := some 30) (v := ?_) (a' := ?_) (Bs 20 56) rfl rfl (any_of HT_.out (by kernel_rfl)) (fun _ _ _ h => h) (Or.inl ⟨by rfl, ?_⟩) ?_ ?_; rotate_left
    · intro w'; go_simp; with_reducible rfl
    rotate_left
    · simp only [Act.put, sA, sB, sC, i64_w, i32_w]; rfl
    refine take_ (i := 20) (N := some 31) (v := ?_) (a' := ?_) (Bs 21 56) rfl rfl (take_ofW HT_.out HW_.out (by kernel_rfl)) (fun _ _ _ h => h) (Or.inl ⟨by rfl, ?_⟩) hHeld ?_ ?_; rotate_left
    · rintro w' ⟨s0, s1, s2, s3, s4, s5⟩; go_simp; with_reducible rfl
    rotate_left
    · simp only [Act.put, sA, sB, sC, i64_w, i32_w]; rfl
    refine pure_ (i := 21) (N := some 32) (v := ?_) (a' := ?_) (Bs 22 56) rfl rfl (any_of HT_.out (by kernel_rfl)) (fun _ _ _ h => h) (Or.inl ⟨by rfl, ?_⟩) ?_ ?_; rotate_left
    · intro w'; go_simp; with_reducible rfl
    rotate_left
    · simp only [Act.put, sA, sB, sC, i64_w, i32_w]; rfl
    refine pure_ (i := 22) (N := some 33) (v := ?_) (a' := ?_) (Bs 23 56) rfl rfl (any_of HT_.out (by kernel_rfl)) (fun _ _ _ h => h) (Or.inl ⟨by rfl, ?_⟩) ?_ ?_; rotate_left
    · intro w'; go_simp; with_reducible rfl
    rotate_left
    · simp only [Act.put, sA, sB, sC, i64_w, i32_w]; rfl
    refine pure_ (i := 23) (N := some 34) (v := ?_) (a' := ?_) (Bs 24 56) rfl rfl (any_of HT_.out (by kernel_rfl)) (fun _ _ _ h => h) (Or.inl ⟨by rfl, ?_⟩) ?_ ?_; rotate_left
    · intro w'; go_simp; with_reducible rfl
    rotate_left
    · simp only [Act.put, sA, sB, sC, i64_w, i32_w]; rfl
    refine pure_ (i := 24) (N := some 35) (v := ?_) (a' := ?_) (Bs 25 56) rfl rfl (any_of HT_.out (by kernel_rfl)) (fun _ _ _ h => h) (Or.inl ⟨by rfl, ?_⟩) ?_ ?_; rotate_left
    · intro w'; go_simp; with_reducible rfl
    rotate_left
    · simp only [Act.put, sA, sB, sC, i64_w, i32_w]; rfl
    refine take_ (i := 25) (N := some 36) (v := ?_) (a' := ?_) (Bs 26 56) rfl rfl (take_ofW HT_.out HW_.out (by kernel_rfl)) (fun _ _ _ h => h) (Or.inl ⟨by rfl, ?_⟩) hHeld ?_ ?_; rotate_left
    · rintro w' ⟨s0, s1, s2, s3, s4, s5⟩; go_simp; with_reducible rfl
    rotate_left
    · simp only [Act.put, sA, sB, sC, i64_w, i32_w]; rfl
    refine one_ (i := 26) (N := some 37) (Bs 27 56) rfl rfl (one_of HT_.out (by kernel_rfl)) (by decide) (fun K hK => ?_)
    refine goes_ Try.func70 (by kernel_rfl) rfl #[.int .i64 x, .int .i64 (4398046511104)] (by rfl) rfl rfl (by simp only [List.map_toArray, List.map_cons, List.map_nil]; rfl) ?_
    with_reducible refine (silversideref01_within.calls _ _ _ _ HW4.out).mono ?_
    rintro e w' ⟨rfl, ⟨n2, rfl⟩⟩
    refine ⟨_, rfl, ?_⟩
    refine hK.out _ _ ⟨hHeld.1, hHeld.2.1, hHeld.2.2.1, hHeld.2.2.2.1, hHeld.2.2.2.2.1, hHeld.2.2.2.2.2⟩ (fun hHeld => ?_)
    clear hK K
    refine norm_ (a' := ?_) ?_ ?_
    rotate_left
    · show Act.put _ (some 37) _ = _
      simp only [Act.put, sA, sB, sC, i64_w, i32_w]
      rfl
    refine pure_ (i := 27) (N := some 38) (v := ?_) (a' := ?_) (Bs 28 56) rfl rfl (any_of HT_.out (by kernel_rfl)) (fun _ _ _ h => h) (Or.inl ⟨by rfl, ?_⟩) ?_ ?_; rotate_left
    · intro w'; go_simp; with_reducible rfl
    rotate_left
    · simp only [Act.put, sA, sB, sC, i64_w, i32_w]; rfl
    refine pure_ (i := 28) (N := some 39) (v := ?_) (a' := ?_) (Bs 29 56) rfl rfl (any_of HT_.out (by kernel_rfl)) (fun _ _ _ h => h) (Or.inl ⟨by rfl, ?_⟩) ?_ ?_; rotate_left
    · intro w'; go_simp; with_reducible rfl
    rotate_left
    · simp only [Act.put, sA, sB, sC, i64_w, i32_w]; rfl
    refine pure_ (i := 29) (N := some 40) (v := ?_) (a' := ?_) (Bs 30 56) rfl rfl (any_of HT_.out (by kernel_rfl)) (fun _ _ _ h => h) (Or.inl ⟨by rfl, ?_⟩) ?_ ?_; rotate_left
    · intro w'; go_simp; with_reducible rfl
    rotate_left
    · simp only [Act.put, sA, sB, sC, i64_w, i32_w]; rfl
    refine take_ (i := 30) (N := some 41) (v := ?_) (a' := ?_) (Bs 31 56) rfl rfl (take_ofW HT_.out HW_.out (by kernel_rfl)) (fun _ _ _ h => h) (Or.inl ⟨by rfl, ?_⟩) hHeld ?_ ?_; rotate_left
    · rintro w' ⟨s0, s1, s2, s3, s4, s5⟩; go_simp; with_reducible rfl
    rotate_left
    · simp only [Act.put, sA, sB, sC, i64_w, i32_w]; rfl
    refine one_ (i := 31) (N := some 42) (Bs 32 56) rfl rfl (one_of HT_.out (by kernel_rfl)) (by decide) (fun K hK => ?_)
    refine goes_ Try.func70 (by kernel_rfl) rfl #[.int .i64 y, .int .i64 (4398046511104)] (by rfl) rfl rfl (by simp only [List.map_toArray, List.map_cons, List.map_nil]; rfl) ?_
    with_reducible refine (silversideref01_within.calls _ _ _ _ HW5.out).mono ?_
    rintro e w' ⟨rfl, ⟨n3, rfl⟩⟩
    refine ⟨_, rfl, ?_⟩
    have HB3 := Aside0.mk (lN (lN (below_drew HB.out) n2) n3)
    refine hK.out _ _ ⟨hHeld.1, hHeld.2.1, hHeld.2.2.1, hHeld.2.2.2.1, hHeld.2.2.2.2.1, hHeld.2.2.2.2.2⟩ (fun hHeld => ?_)
    clear hK K
    refine norm_ (a' := ?_) ?_ ?_
    rotate_left
    · show Act.put _ (some 42) _ = _
      simp only [Act.put, sA, sB, sC, i64_w, i32_w]
      rfl
    refine pure_ (i := 32) (N := some 43) (v := ?_) (a' := ?_) (Bs 33 56) rfl rfl (any_of HT_.out (by kernel_rfl)) (fun _ _ _ h => h) (Or.inl ⟨by rfl, ?_⟩) ?_ ?_; rotate_left
    · intro w'; go_simp; with_reducible rfl
    rotate_left
    · simp only [Act.put, sA, sB, sC, i64_w, i32_w]; rfl
    refine pure_ (i := 33) (N := some 44) (v := ?_) (a' := ?_) (Bs 34 56) rfl rfl (any_of HT_.out (by kernel_rfl)) (fun _ _ _ h => h) (Or.inl ⟨by rfl, ?_⟩) ?_ ?_; rotate_left
    · intro w'; go_simp; with_reducible rfl
    rotate_left
    · simp only [Act.put, sA, sB, sC, i64_w, i32_w]; rfl
    refine pure_ (i := 34) (N := some 45) (v := ?_) (a' := ?_) (Bs 35 56) rfl rfl (any_of HT_.out (by kernel_rfl)) (fun _ _ _ h => h) (Or.inl ⟨by rfl, ?_⟩) ?_ ?_; rotate_left
    · intro w'; go_simp; with_reducible rfl
    rotate_left
    · simp only [Act.put, sA, sB, sC, i64_w, i32_w]; rfl
    refine pure_ (i := 36) (N := some 47) (v := ?_) (a' := ?_) (Br [35,1,1,19]) rfl rfl (any_of HT_.out (by kernel_rfl)) (fun _ _ _ h => h) (Or.inl ⟨by rfl, ?_⟩) ?_ ?_; rotate_left
    · intro w'; go_simp; with_reducible rfl
    rotate_left
    · simp only [Act.put, sA, sB, sC, i64_w, i32_w]; rfl
    refine pure_ (i := 38) (N := some 49) (v := ?_) (a' := ?_) (Br [35,1,1,1,1,17]) rfl rfl (any_of HT_.out (by kernel_rfl)) (fun _ _ _ h => h) (Or.inl ⟨by rfl, ?_⟩) ?_ ?_; rotate_left
    · intro w'; go_simp; with_reducible rfl
    rotate_left
    · simp only [Act.put, sA, sB, sC, i64_w, i32_w]; rfl
    refine pure_ (i := 40) (N := some 51) (v := ?_) (a' := ?_) (Br [35,1,1,1,1,1,1,15]) rfl rfl (any_of HT_.out (by kernel_rfl)) (fun _ _ _ h => h) (Or.inl ⟨by rfl, ?_⟩) ?_ ?_; rotate_left
    · intro w'; go_simp; with_reducible rfl
    rotate_left
    · simp only [Act.put, sA, sB, sC, i64_w, i32_w]; rfl
    refine take_ (i := 37) (N := some 48) (v := ?_) (a' := ?_) (Br [35,1,3,1,1,15]) rfl rfl (take_ofW HT_.out HW_.out (by kernel_rfl)) (fun _ _ _ h => h) (Or.inl ⟨by rfl, ?_⟩) hHeld ?_ ?_; rotate_left
    · rintro w' ⟨s0, s1, s2, s3, s4, s5⟩; go_simp; with_reducible rfl
    rotate_left
    · simp only [Act.put, sA, sB, sC, i64_w, i32_w]; rfl
    refine take_ (i := 39) (N := some 50) (v := ?_) (a' := ?_) (Br [35,1,5,15]) rfl rfl (take_ofW HT_.out HW_.out (by kernel_rfl)) (fun _ _ _ h => h) (Or.inl ⟨by rfl, ?_⟩) hHeld ?_ ?_; rotate_left
    · rintro w' ⟨s0, s1, s2, s3, s4, s5⟩; go_simp; with_reducible rfl
    rotate_left
    · simp only [Act.put, sA, sB, sC, i64_w, i32_w]; rfl
    refine take_ (i := 41) (N := some 52) (v := ?_) (a' := ?_) (Br [35,1,6,14]) rfl rfl (take_ofW HT_.out HW_.out (by kernel_rfl)) (fun _ _ _ h => h) (Or.inl ⟨by rfl, ?_⟩) hHeld ?_ ?_; rotate_left
    · rintro w' ⟨s0, s1, s2, s3, s4, s5⟩; go_simp; with_reducible rfl
    rotate_left
    · simp only [Act.put, sA, sB, sC, i64_w, i32_w]; rfl
    refine one_ (i := 35) (N := some 46) (Bs 42 56) rfl rfl (one_of HT_.out (by kernel_rfl)) (by decide) (fun K hK => ?_)
    refine goes_ Try.func35 (by kernel_rfl) rfl #[.slice A0 a.length c0] (by rfl) rfl rfl (by simp only [List.map_toArray, List.map_cons, List.map_nil]; rfl) ?_
    with_reducible refine (HC0.out _ HB3.out).mono ?_
    rintro e w4 ⟨v4, rfl, hR4, hb4⟩
    refine ⟨_, rfl, ?_⟩
    have HB4 := Aside0.mk (below_step HB3.out hb4)
    obtain ⟨A4, c4, e4⟩ := Kd.R_slice hR4
    subst e4
    have HR4 := Aside0.mk (Kd.R_reads' hR4)
    clear hR4
    refine hK.out _ _ ⟨(hb4.cell (World.block_lt_of_cell? _ _ hHeld.1)).trans hHeld.1, (hb4.cell (World.block_lt_of_cell? _ _ hHeld.2.1)).trans hHeld.2.1, (hb4.cell (World.block_lt_of_cell? _ _ hHeld.2.2.1)).trans hHeld.2.2.1, (hb4.cell (World.block_lt_of_cell? _ _ hHeld.2.2.2.1)).trans hHeld.2.2.2.1, (hb4.cell (World.block_lt_of_cell? _ _ hHeld.2.2.2.2.1)).trans hHeld.2.2.2.2.1, (hb4.cell (World.block_lt_of_cell? _ _ hHeld.2.2.2.2.2)).trans hHeld.2.2.2.2.2⟩ (fun hHeld => ?_)
    clear hK K
    refine norm_ (a' := ?_) ?_ ?_
    rotate_left
    · show Act.put _ (some 46) _ = _
      simp only [Act.put, sA, sB, sC, i64_w, i32_w]
      rfl
    refine one_ (i := 42) (N := some 53) (Bs 43 56) rfl rfl (one_of HT_.out (by kernel_rfl)) (by decide) (fun K hK => ?_)
    refine goes_ Try.func71 (by kernel_rfl) rfl #[.slice A4 p.length c4, .int .i64 x, .int .i64 y, .int .i64 d] (by rfl) rfl rfl (by simp only [List.map_toArray, List.map_cons, List.map_nil]; rfl) ?_
    with_reducible refine (silversideref01_in.calls A4 c4 p x y d _ _ HR4.out.2.2 HR4.out.2.1 HH0.out).mono ?_
    rintro e w5 ⟨rfl, hb5⟩
    refine ⟨_, rfl, ?_⟩
    have HB5 := Aside0.mk (below_step HB4.out hb5)
    refine hK.out _ _ ⟨(hb5.cell (World.block_lt_of_cell? _ _ hHeld.1)).trans hHeld.1, (hb5.cell (World.block_lt_of_cell? _ _ hHeld.2.1)).trans hHeld.2.1, (hb5.cell (World.block_lt_of_cell? _ _ hHeld.2.2.1)).trans hHeld.2.2.1, (hb5.cell (World.block_lt_of_cell? _ _ hHeld.2.2.2.1)).trans hHeld.2.2.2.1, (hb5.cell (World.block_lt_of_cell? _ _ hHeld.2.2.2.2.1)).trans hHeld.2.2.2.2.1, (hb5.cell (World.block_lt_of_cell? _ _ hHeld.2.2.2.2.2)).trans hHeld.2.2.2.2.2⟩ (fun hHeld => ?_)
    clear hK K
    refine norm_ (a' := ?_) ?_ ?_
    rotate_left
    · show Act.put _ (some 53) _ = _
      simp only [Act.put, sA, sB, sC, i64_w, i32_w]
      rfl
    refine pure_ (i := 43) (N := some 54) (v := ?_) (a' := ?_) (Bs 44 56) rfl rfl (any_of HT_.out (by kernel_rfl)) (fun _ _ _ h => h) (Or.inl ⟨by rfl, ?_⟩) ?_ ?_; rotate_left
    · intro w'; go_simp; with_reducible rfl
    rotate_left
    · simp only [Act.put, sA, sB, sC, i64_w, i32_w]; rfl
    refine pure_ (i := 44) (N := some 55) (v := ?_) (a' := ?_) (Bs 45 56) rfl rfl (any_of HT_.out (by kernel_rfl)) (fun _ _ _ h => h) (Or.inl ⟨by rfl, ?_⟩) ?_ ?_; rotate_left
    · intro w'; go_simp; with_reducible rfl
    rotate_left
    · simp only [Act.put, sA, sB, sC, i64_w, i32_w]; rfl
    refine pure_ (i := 45) (N := some 56) (v := undef) (a' := ?_) (Bs 46 56) rfl rfl (any_of HT_.out (by kernel_rfl)) (fun _ _ _ h => h) (Or.inr ⟨by rfl, rfl⟩) ?_ ?_; rotate_left
    · simp only [Act.put, sA, sB, sC, i64_w, i32_w]; rfl
    refine pure_ (i := 46) (N := some 57) (v := undef) (a' := ?_) (Bs 47 56) rfl rfl (any_of HT_.out (by kernel_rfl)) (fun _ _ _ h => h) (Or.inr ⟨by rfl, rfl⟩) ?_ ?_; rotate_left
    · simp only [Act.put, sA, sB, sC, i64_w, i32_w]; rfl
    refine pure_ (i := 47) (N := some 58) (v := undef) (a' := ?_) (Bs 48 56) rfl rfl (any_of HT_.out (by kernel_rfl)) (fun _ _ _ h => h) (Or.inr ⟨by rfl, rfl⟩) ?_ ?_; rotate_left
    · simp only [Act.put, sA, sB, sC, i64_w, i32_w]; rfl
    refine pure_ (i := 48) (N := some 59) (v := undef) (a' := ?_) (Bs 49 56) rfl rfl (any_of HT_.out (by kernel_rfl)) (fun _ _ _ h => h) (Or.inr ⟨by rfl, rfl⟩) ?_ ?_; rotate_left
    · simp only [Act.put, sA, sB, sC, i64_w, i32_w]; rfl
    refine pure_ (i := 49) (N := some 60) (v := undef) (a' := ?_) (Bs 50 56) rfl rfl (any_of HT_.out (by kernel_rfl)) (fun _ _ _ h => h) (Or.inr ⟨by rfl, rfl⟩) ?_ ?_; rotate_left
    · simp only [Act.put, sA, sB, sC, i64_w, i32_w]; rfl
    refine pure_ (i := 50) (N := some 61) (v := undef) (a' := ?_) (Bs 51 56) rfl rfl (any_of HT_.out (by kernel_rfl)) (fun _ _ _ h => h) (Or.inr ⟨by rfl, rfl⟩) ?_ ?_; rotate_left
    · simp only [Act.put, sA, sB, sC, i64_w, i32_w]; rfl
    refine pure_ (i := 51) (N := some 62) (v := undef) (a' := ?_) (Bs 52 56) rfl rfl (any_of HT_.out (by kernel_rfl)) (fun _ _ _ h => h) (Or.inr ⟨by rfl, rfl⟩) ?_ ?_; rotate_left
    · simp only [Act.put, sA, sB, sC, i64_w, i32_w]; rfl
    refine pure_ (i := 52) (N := some 63) (v := undef) (a' := ?_) (Bs 53 56) rfl rfl (any_of HT_.out (by kernel_rfl)) (fun _ _ _ h => h) (Or.inr ⟨by rfl, rfl⟩) ?_ ?_; rotate_left
    · simp only [Act.put, sA, sB, sC, i64_w, i32_w]; rfl
    refine pure_ (i := 53) (N := some 64) (v := undef) (a' := ?_) (Bs 54 56) rfl rfl (any_of HT_.out (by kernel_rfl)) (fun _ _ _ h => h) (Or.inr ⟨by rfl, rfl⟩) ?_ ?_; rotate_left
    · simp only [Act.put, sA, sB, sC, i64_w, i32_w]; rfl
    refine pure_ (i := 54) (N := some 65) (v := ?_) (a' := ?_) (Bs 55 56) rfl rfl (any_of HT_.out (by kernel_rfl)) (fun _ _ _ h => h) (Or.inl ⟨by rfl, ?_⟩) ?_ ?_; rotate_left
    · intro w'; go_simp; with_reducible rfl
    rotate_left
    · simp only [Act.put, sA, sB, sC, i64_w, i32_w]; rfl
    refine pure_ (i := 55) (N := some 6) (v := ?_) (a' := ?_) (Bs 56 56) rfl rfl (any_of HT_.out (by kernel_rfl)) (fun _ _ _ h => h) (Or.inl ⟨by rfl, ?_⟩) ?_ ?_; rotate_left
    · intro w'; go_simp; with_reducible rfl
    rotate_left
    · simp only [Act.put, sA, sB, sC, i64_w, i32_w]; rfl
    refine done_ (done_of HT_.out (by kernel_rfl)) ?_
    try go_wp2
    all_goals (go_ret; exact ⟨by rw [HR.out]; rfl, HB5.out⟩)
  have HR := Aside0.mk (show r = t7 by rw [HE.out, h0, h1, h2, h3, h4]; simp)
  refine start_ (n := 56) (S := fun w' => w'.cell? ⟨w.heap.size, 1, none⟩ = some (.int .i64 x) ∧ w'.cell? ⟨w.heap.size, 2, none⟩ = some (.int .i64 y) ∧ w'.cell? ⟨w.heap.size, 3, none⟩ = some (.int .i64 d) ∧ w'.cell? ⟨w.heap.size, 4, none⟩ = some (.int .i64 u) ∧ w'.cell? ⟨w.heap.size, 5, none⟩ = some (.int .i64 v) ∧ w'.cell? ⟨w.heap.size, 6, none⟩ = some (.int .i64 t)) (ds := []) (Bs 0 56) (by kernel_rfl) rfl rfl ⟨f1, f2, f3, f4, f5, f6⟩ (fun hHeld => ?_)
  refine with_tabW rrightR.tab2 rrightR.bits2 (fun HT_ HW_ => ?_)
  refine pure_ (i := 0) (N := some 11) (v := ?_) (a' := ?_) (Bs 1 56) rfl rfl (any_of HT_.out (by kernel_rfl)) (fun _ _ _ h => h) (Or.inl ⟨by rfl, ?_⟩) ?_ ?_; rotate_left
  · intro w'; go_simp; with_reducible rfl
  rotate_left
  · simp only [Act.put, sA, sB, sC, i64_w, i32_w]; rfl
  refine take_ (i := 1) (N := some 12) (v := ?_) (a' := ?_) (Bs 2 56) rfl rfl (take_ofW HT_.out HW_.out (by kernel_rfl)) (fun _ _ _ h => h) (Or.inl ⟨by rfl, ?_⟩) hHeld ?_ ?_; rotate_left
  · rintro w' ⟨s0, s1, s2, s3, s4, s5⟩; go_simp; with_reducible rfl
  rotate_left
  · simp only [Act.put, sA, sB, sC, i64_w, i32_w]; rfl
  refine pure_ (i := 2) (N := some 13) (v := ?_) (a' := ?_) (Bs 3 56) rfl rfl (any_of HT_.out (by kernel_rfl)) (fun _ _ _ h => h) (Or.inl ⟨by rfl, ?_⟩) ?_ ?_; rotate_left
  · intro w'; go_simp; with_reducible rfl
  rotate_left
  · simp only [Act.put, sA, sB, sC, i64_w, i32_w]; rfl
  refine pure_ (i := 3) (N := some 14) (v := ?_) (a' := ?_) (Bs 4 56) rfl rfl (any_of HT_.out (by kernel_rfl)) (fun _ _ _ h => h) (Or.inl ⟨by rfl, ?_⟩) ?_ ?_; rotate_left
  · intro w'; go_simp; with_reducible rfl
  rotate_left
  · simp only [Act.put, sA, sB, sC, i64_w, i32_w]; rfl
  refine pure_ (i := 4) (N := some 15) (v := ?_) (a' := ?_) (Bs 5 56) rfl rfl (any_of HT_.out (by kernel_rfl)) (fun _ _ _ h => h) (Or.inl ⟨by rfl, ?_⟩) ?_ ?_; rotate_left
  · intro w'; go_simp; with_reducible rfl
  rotate_left
  · simp only [Act.put, sA, sB, sC, i64_w, i32_w]; rfl
  refine take_ (i := 5) (N := some 16) (v := ?_) (a' := ?_) (Bs 6 56) rfl rfl (take_ofW HT_.out HW_.out (by kernel_rfl)) (fun _ _ _ h => h) (Or.inl ⟨by rfl, ?_⟩) hHeld ?_ ?_; rotate_left
  · rintro w' ⟨s0, s1, s2, s3, s4, s5⟩; go_simp; with_reducible rfl
  rotate_left
  · simp only [Act.put, sA, sB, sC, i64_w, i32_w]; rfl
  refine pure_ (i := 6) (N := some 17) (v := ?_) (a' := ?_) (Bs 7 56) rfl rfl (any_of HT_.out (by kernel_rfl)) (fun _ _ _ h => h) (Or.inl ⟨by rfl, ?_⟩) ?_ ?_; rotate_left
  · intro w'; go_simp; with_reducible rfl
  rotate_left
  · simp only [Act.put, sA, sB, sC, i64_w, i32_w]; rfl
  refine pure_ (i := 7) (N := some 18) (v := ?_) (a' := ?_) (Bs 8 56) rfl rfl (any_of HT_.out (by kernel_rfl)) (fun _ _ _ h => h) (Or.inl ⟨by rfl, ?_⟩) ?_ ?_; rotate_left
  · intro w'; go_simp; with_reducible rfl
  rotate_left
  · simp only [Act.put, sA, sB, sC, i64_w, i32_w]; rfl
  refine pure_ (i := 8) (N := some 19) (v := ?_) (a' := ?_) (Bs 9 56) rfl rfl (any_of HT_.out (by kernel_rfl)) (fun _ _ _ h => h) (Or.inl ⟨by rfl, ?_⟩) ?_ ?_; rotate_left
  · intro w'; go_simp; with_reducible rfl
  rotate_left
  · simp only [Act.put, sA, sB, sC, i64_w, i32_w]; rfl
  refine pure_ (i := 9) (N := some 20) (v := ?_) (a' := ?_) (Bs 10 56) rfl rfl (any_of HT_.out (by kernel_rfl)) (fun _ _ _ h => h) (Or.inl ⟨by rfl, ?_⟩) ?_ ?_; rotate_left
  · intro w'; go_simp; with_reducible rfl
  rotate_left
  · simp only [Act.put, sA, sB, sC, i64_w, i32_w]; rfl
  refine take_ (i := 10) (N := some 21) (v := ?_) (a' := ?_) (Bs 11 56) rfl rfl (take_ofW HT_.out HW_.out (by kernel_rfl)) (fun _ _ _ h => h) (Or.inl ⟨by rfl, ?_⟩) hHeld ?_ ?_; rotate_left
  · rintro w' ⟨s0, s1, s2, s3, s4, s5⟩; go_simp; with_reducible rfl
  rotate_left
  · simp only [Act.put, sA, sB, sC, i64_w, i32_w]; rfl
  refine pure_ (i := 11) (N := some 22) (v := ?_) (a' := ?_) (Bs 12 56) rfl rfl (any_of HT_.out (by kernel_rfl)) (fun _ _ _ h => h) (Or.inl ⟨by rfl, ?_⟩) ?_ ?_; rotate_left
  · intro w'; go_simp; with_reducible rfl
  rotate_left
  · simp only [Act.put, sA, sB, sC, i64_w, i32_w]; rfl
  refine pure_ (i := 12) (N := some 23) (v := ?_) (a' := ?_) (Bs 13 56) rfl rfl (any_of HT_.out (by kernel_rfl)) (fun _ _ _ h => h) (Or.inl ⟨by rfl, ?_⟩) ?_ ?_; rotate_left
  · intro w'; go_simp; with_reducible rfl
  rotate_left
  · simp only [Act.put, sA, sB, sC, i64_w, i32_w]; rfl
  refine pure_ (i := 13) (N := some 24) (v := ?_) (a' := ?_) (Bs 14 56) rfl rfl (any_of HT_.out (by kernel_rfl)) (fun _ _ _ h => h) (Or.inl ⟨by rfl, ?_⟩) ?_ ?_; rotate_left
  · intro w'; go_simp; with_reducible rfl
  rotate_left
  · simp only [Act.put, sA, sB, sC, i64_w, i32_w]; rfl
  refine pure_ (i := 14) (N := some 25) (v := ?_) (a' := ?_) (Bs 15 56) rfl rfl (any_of HT_.out (by kernel_rfl)) (fun _ _ _ h => h) (Or.inl ⟨by rfl, ?_⟩) ?_ ?_; rotate_left
  · intro w'; go_simp; with_reducible rfl
  rotate_left
  · simp only [Act.put, sA, sB, sC, i64_w, i32_w]; rfl
  refine take_ (i := 15) (N := some 26) (v := ?_) (a' := ?_) (Bs 16 56) rfl rfl (take_ofW HT_.out HW_.out (by kernel_rfl)) (fun _ _ _ h => h) (Or.inl ⟨by rfl, ?_⟩) hHeld ?_ ?_; rotate_left
  · rintro w' ⟨s0, s1, s2, s3, s4, s5⟩; go_simp; with_reducible rfl
  rotate_left
  · simp only [Act.put, sA, sB, sC, i64_w, i32_w]; rfl
  refine pure_ (i := 16) (N := some 27) (v := ?_) (a' := ?_) (Bs 17 56) rfl rfl (any_of HT_.out (by kernel_rfl)) (fun _ _ _ h => h) (Or.inl ⟨by rfl, ?_⟩) ?_ ?_; rotate_left
  · intro w'; go_simp; with_reducible rfl
  rotate_left
  · simp only [Act.put, sA, sB, sC, i64_w, i32_w]; rfl
  refine pure_ (i := 17) (N := some 28) (v := ?_) (a' := ?_) (Bs 18 56) rfl rfl (any_of HT_.out (by kernel_rfl)) (fun _ _ _ h => h) (Or.inl ⟨by rfl, ?_⟩) ?_ ?_; rotate_left
  · intro w'; go_simp; with_reducible rfl
  rotate_left
  · simp only [Act.put, sA, sB, sC, i64_w, i32_w]; rfl
  refine pure_ (i := 18) (N := some 29) (v := ?_) (a' := ?_) (Bs 19 56) rfl rfl (any_of HT_.out (by kernel_rfl)) (fun _ _ _ h => h) (Or.inl ⟨by rfl, ?_⟩) ?_ ?_; rotate_left
  · intro w'; go_simp; with_reducible rfl
  rotate_left
  · simp only [Act.put, sA, sB, sC, i64_w, i32_w]; rfl
  refine pure_ (i := 19) (N := some 30) (v := ?_) (a' := ?_) (Bs 20 56) rfl rfl (any_of HT_.out (by kernel_rfl)) (fun _ _ _ h => h) (Or.inl ⟨by rfl, ?_⟩) ?_ ?_; rotate_left
  · intro w'; go_simp; with_reducible rfl
  rotate_left
  · simp only [Act.put, sA, sB, sC, i64_w, i32_w]; rfl
  refine take_ (i := 20) (N := some 31) (v := ?_) (a' := ?_) (Bs 21 56) rfl rfl (take_ofW HT_.out HW_.out (by kernel_rfl)) (fun _ _ _ h => h) (Or.inl ⟨by rfl, ?_⟩) hHeld ?_ ?_; rotate_left
  · rintro w' ⟨s0, s1, s2, s3, s4, s5⟩; go_simp; with_reducible rfl
  rotate_left
  · simp only [Act.put, sA, sB, sC, i64_w, i32_w]; rfl
  refine pure_ (i := 21) (N := some 32) (v := ?_) (a' := ?_) (Bs 22 56) rfl rfl (any_of HT_.out (by kernel_rfl)) (fun _ _ _ h => h) (Or.inl ⟨by rfl, ?_⟩) ?_ ?_; rotate_left
  · intro w'; go_simp; with_reducible rfl
  rotate_left
  · simp only [Act.put, sA, sB, sC, i64_w, i32_w]; rfl
  refine pure_ (i := 22) (N := some 33) (v := ?_) (a' := ?_) (Bs 23 56) rfl rfl (any_of HT_.out (by kernel_rfl)) (fun _ _ _ h => h) (Or.inl ⟨by rfl, ?_⟩) ?_ ?_; rotate_left
  · intro w'; go_simp; with_reducible rfl
  rotate_left
  · simp only [Act.put, sA, sB, sC, i64_w, i32_w]; rfl
  refine pure_ (i := 23) (N := some 34) (v := ?_) (a' := ?_) (Bs 24 56) rfl rfl (any_of HT_.out (by kernel_rfl)) (fun _ _ _ h => h) (Or.inl ⟨by rfl, ?_⟩) ?_ ?_; rotate_left
  · intro w'; go_simp; with_reducible rfl
  rotate_left
  · simp only [Act.put, sA, sB, sC, i64_w, i32_w]; rfl
  refine pure_ (i := 24) (N := some 35) (v := ?_) (a' := ?_) (Bs 25 56) rfl rfl (any_of HT_.out (by kernel_rfl)) (fun _ _ _ h => h) (Or.inl ⟨by rfl, ?_⟩) ?_ ?_; rotate_left
  · intro w'; go_simp; with_reducible rfl
  rotate_left
  · simp only [Act.put, sA, sB, sC, i64_w, i32_w]; rfl
  refine take_ (i := 25) (N := some 36) (v := ?_) (a' := ?_) (Bs 26 56) rfl rfl (take_ofW HT_.out HW_.out (by kernel_rfl)) (fun _ _ _ h => h) (Or.inl ⟨by rfl, ?_⟩) hHeld ?_ ?_; rotate_left
  · rintro w' ⟨s0, s1, s2, s3, s4, s5⟩; go_simp; with_reducible rfl
  rotate_left
  · simp only [Act.put, sA, sB, sC, i64_w, i32_w]; rfl
  refine one_ (i := 26) (N := some 37) (Bs 27 56) rfl rfl (one_of HT_.out (by kernel_rfl)) (by decide) (fun K hK => ?_)
  refine goes_ Try.func70 (by kernel_rfl) rfl #[.int .i64 x, .int .i64 (4398046511104)] (by rfl) rfl rfl (by simp only [List.map_toArray, List.map_cons, List.map_nil]; rfl) ?_
  with_reducible refine (silversideref01_within.calls _ _ _ _ HW4.out).mono ?_
  rintro e w' ⟨rfl, ⟨n2, rfl⟩⟩
  refine ⟨_, rfl, ?_⟩
  refine hK.out _ _ ⟨hHeld.1, hHeld.2.1, hHeld.2.2.1, hHeld.2.2.2.1, hHeld.2.2.2.2.1, hHeld.2.2.2.2.2⟩ (fun hHeld => ?_)
  clear hK K
  refine norm_ (a' := ?_) ?_ ?_
  rotate_left
  · show Act.put _ (some 37) _ = _
    simp only [Act.put, sA, sB, sC, i64_w, i32_w]
    rfl
  refine pure_ (i := 27) (N := some 38) (v := ?_) (a' := ?_) (Bs 28 56) rfl rfl (any_of HT_.out (by kernel_rfl)) (fun _ _ _ h => h) (Or.inl ⟨by rfl, ?_⟩) ?_ ?_; rotate_left
  · intro w'; go_simp; with_reducible rfl
  rotate_left
  · simp only [Act.put, sA, sB, sC, i64_w, i32_w]; rfl
  refine pure_ (i := 28) (N := some 39) (v := ?_) (a' := ?_) (Bs 29 56) rfl rfl (any_of HT_.out (by kernel_rfl)) (fun _ _ _ h => h) (Or.inl ⟨by rfl, ?_⟩) ?_ ?_; rotate_left
  · intro w'; go_simp; with_reducible rfl
  rotate_left
  · simp only [Act.put, sA, sB, sC, i64_w, i32_w]; rfl
  refine pure_ (i := 29) (N := some 40) (v := ?_) (a' := ?_) (Bs 30 56) rfl rfl (any_of HT_.out (by kernel_rfl)) (fun _ _ _ h => h) (Or.inl ⟨by rfl, ?_⟩) ?_ ?_; rotate_left
  · intro w'; go_simp; with_reducible rfl
  rotate_left
  · simp only [Act.put, sA, sB, sC, i64_w, i32_w]; rfl
  refine take_ (i := 30) (N := some 41) (v := ?_) (a' := ?_) (Bs 31 56) rfl rfl (take_ofW HT_.out HW_.out (by kernel_rfl)) (fun _ _ _ h => h) (Or.inl ⟨by rfl, ?_⟩) hHeld ?_ ?_; rotate_left
  · rintro w' ⟨s0, s1, s2, s3, s4, s5⟩; go_simp; with_reducible rfl
  rotate_left
  · simp only [Act.put, sA, sB, sC, i64_w, i32_w]; rfl
  refine one_ (i := 31) (N := some 42) (Bs 32 56) rfl rfl (one_of HT_.out (by kernel_rfl)) (by decide) (fun K hK => ?_)
  refine goes_ Try.func70 (by kernel_rfl) rfl #[.int .i64 y, .int .i64 (4398046511104)] (by rfl) rfl rfl (by simp only [List.map_toArray, List.map_cons, List.map_nil]; rfl) ?_
  with_reducible refine (silversideref01_within.calls _ _ _ _ HW5.out).mono ?_
  rintro e w' ⟨rfl, ⟨n3, rfl⟩⟩
  refine ⟨_, rfl, ?_⟩
  have HB3 := Aside0.mk (lN (lN (below_drew HB.out) n2) n3)
  refine hK.out _ _ ⟨hHeld.1, hHeld.2.1, hHeld.2.2.1, hHeld.2.2.2.1, hHeld.2.2.2.2.1, hHeld.2.2.2.2.2⟩ (fun hHeld => ?_)
  clear hK K
  refine norm_ (a' := ?_) ?_ ?_
  rotate_left
  · show Act.put _ (some 42) _ = _
    simp only [Act.put, sA, sB, sC, i64_w, i32_w]
    rfl
  refine pure_ (i := 32) (N := some 43) (v := ?_) (a' := ?_) (Bs 33 56) rfl rfl (any_of HT_.out (by kernel_rfl)) (fun _ _ _ h => h) (Or.inl ⟨by rfl, ?_⟩) ?_ ?_; rotate_left
  · intro w'; go_simp; with_reducible rfl
  rotate_left
  · simp only [Act.put, sA, sB, sC, i64_w, i32_w]; rfl
  refine pure_ (i := 33) (N := some 44) (v := ?_) (a' := ?_) (Bs 34 56) rfl rfl (any_of HT_.out (by kernel_rfl)) (fun _ _ _ h => h) (Or.inl ⟨by rfl, ?_⟩) ?_ ?_; rotate_left
  · intro w'; go_simp; with_reducible rfl
  rotate_left
  · simp only [Act.put, sA, sB, sC, i64_w, i32_w]; rfl
  refine pure_ (i := 34) (N := some 45) (v := ?_) (a' := ?_) (Bs 35 56) rfl rfl (any_of HT_.out (by kernel_rfl)) (fun _ _ _ h => h) (Or.inl ⟨by rfl, ?_⟩) ?_ ?_; rotate_left
  · intro w'; go_simp; with_reducible rfl
  rotate_left
  · simp only [Act.put, sA, sB, sC, i64_w, i32_w]; rfl
  refine pure_ (i := 36) (N := some 47) (v := ?_) (a' := ?_) (Br [35,1,1,19]) rfl rfl (any_of HT_.out (by kernel_rfl)) (fun _ _ _ h => h) (Or.inl ⟨by rfl, ?_⟩) ?_ ?_; rotate_left
  · intro w'; go_simp; with_reducible rfl
  rotate_left
  · simp only [Act.put, sA, sB, sC, i64_w, i32_w]; rfl
  refine pure_ (i := 38) (N := some 49) (v := ?_) (a' := ?_) (Br [35,1,1,1,1,17]) rfl rfl (any_of HT_.out (by kernel_rfl)) (fun _ _ _ h => h) (Or.inl ⟨by rfl, ?_⟩) ?_ ?_; rotate_left
  · intro w'; go_simp; with_reducible rfl
  rotate_left
  · simp only [Act.put, sA, sB, sC, i64_w, i32_w]; rfl
  refine pure_ (i := 40) (N := some 51) (v := ?_) (a' := ?_) (Br [35,1,1,1,1,1,1,15]) rfl rfl (any_of HT_.out (by kernel_rfl)) (fun _ _ _ h => h) (Or.inl ⟨by rfl, ?_⟩) ?_ ?_; rotate_left
  · intro w'; go_simp; with_reducible rfl
  rotate_left
  · simp only [Act.put, sA, sB, sC, i64_w, i32_w]; rfl
  refine take_ (i := 37) (N := some 48) (v := ?_) (a' := ?_) (Br [35,1,3,1,1,15]) rfl rfl (take_ofW HT_.out HW_.out (by kernel_rfl)) (fun _ _ _ h => h) (Or.inl ⟨by rfl, ?_⟩) hHeld ?_ ?_; rotate_left
  · rintro w' ⟨s0, s1, s2, s3, s4, s5⟩; go_simp; with_reducible rfl
  rotate_left
  · simp only [Act.put, sA, sB, sC, i64_w, i32_w]; rfl
  refine take_ (i := 39) (N := some 50) (v := ?_) (a' := ?_) (Br [35,1,5,15]) rfl rfl (take_ofW HT_.out HW_.out (by kernel_rfl)) (fun _ _ _ h => h) (Or.inl ⟨by rfl, ?_⟩) hHeld ?_ ?_; rotate_left
  · rintro w' ⟨s0, s1, s2, s3, s4, s5⟩; go_simp; with_reducible rfl
  rotate_left
  · simp only [Act.put, sA, sB, sC, i64_w, i32_w]; rfl
  refine take_ (i := 41) (N := some 52) (v := ?_) (a' := ?_) (Br [35,1,6,14]) rfl rfl (take_ofW HT_.out HW_.out (by kernel_rfl)) (fun _ _ _ h => h) (Or.inl ⟨by rfl, ?_⟩) hHeld ?_ ?_; rotate_left
  · rintro w' ⟨s0, s1, s2, s3, s4, s5⟩; go_simp; with_reducible rfl
  rotate_left
  · simp only [Act.put, sA, sB, sC, i64_w, i32_w]; rfl
  refine one_ (i := 35) (N := some 46) (Bs 42 56) rfl rfl (one_of HT_.out (by kernel_rfl)) (by decide) (fun K hK => ?_)
  refine goes_ Try.func35 (by kernel_rfl) rfl #[.slice A0 a.length c0] (by rfl) rfl rfl (by simp only [List.map_toArray, List.map_cons, List.map_nil]; rfl) ?_
  with_reducible refine (HC0.out _ HB3.out).mono ?_
  rintro e w4 ⟨v4, rfl, hR4, hb4⟩
  refine ⟨_, rfl, ?_⟩
  have HB4 := Aside0.mk (below_step HB3.out hb4)
  obtain ⟨A4, c4, e4⟩ := Kd.R_slice hR4
  subst e4
  have HR4 := Aside0.mk (Kd.R_reads' hR4)
  clear hR4
  refine hK.out _ _ ⟨(hb4.cell (World.block_lt_of_cell? _ _ hHeld.1)).trans hHeld.1, (hb4.cell (World.block_lt_of_cell? _ _ hHeld.2.1)).trans hHeld.2.1, (hb4.cell (World.block_lt_of_cell? _ _ hHeld.2.2.1)).trans hHeld.2.2.1, (hb4.cell (World.block_lt_of_cell? _ _ hHeld.2.2.2.1)).trans hHeld.2.2.2.1, (hb4.cell (World.block_lt_of_cell? _ _ hHeld.2.2.2.2.1)).trans hHeld.2.2.2.2.1, (hb4.cell (World.block_lt_of_cell? _ _ hHeld.2.2.2.2.2)).trans hHeld.2.2.2.2.2⟩ (fun hHeld => ?_)
  clear hK K
  refine norm_ (a' := ?_) ?_ ?_
  rotate_left
  · show Act.put _ (some 46) _ = _
    simp only [Act.put, sA, sB, sC, i64_w, i32_w]
    rfl
  refine one_ (i := 42) (N := some 53) (Bs 43 56) rfl rfl (one_of HT_.out (by kernel_rfl)) (by decide) (fun K hK => ?_)
  refine goes_ Try.func71 (by kernel_rfl) rfl #[.slice A4 p.length c4, .int .i64 x, .int .i64 y, .int .i64 d] (by rfl) rfl rfl (by simp only [List.map_toArray, List.map_cons, List.map_nil]; rfl) ?_
  with_reducible refine (silversideref01_in.calls A4 c4 p x y d _ _ HR4.out.2.2 HR4.out.2.1 HH0.out).mono ?_
  rintro e w5 ⟨rfl, hb5⟩
  refine ⟨_, rfl, ?_⟩
  have HB5 := Aside0.mk (below_step HB4.out hb5)
  refine hK.out _ _ ⟨(hb5.cell (World.block_lt_of_cell? _ _ hHeld.1)).trans hHeld.1, (hb5.cell (World.block_lt_of_cell? _ _ hHeld.2.1)).trans hHeld.2.1, (hb5.cell (World.block_lt_of_cell? _ _ hHeld.2.2.1)).trans hHeld.2.2.1, (hb5.cell (World.block_lt_of_cell? _ _ hHeld.2.2.2.1)).trans hHeld.2.2.2.1, (hb5.cell (World.block_lt_of_cell? _ _ hHeld.2.2.2.2.1)).trans hHeld.2.2.2.2.1, (hb5.cell (World.block_lt_of_cell? _ _ hHeld.2.2.2.2.2)).trans hHeld.2.2.2.2.2⟩ (fun hHeld => ?_)
  clear hK K
  refine norm_ (a' := ?_) ?_ ?_
  rotate_left
  · show Act.put _ (some 53) _ = _
    simp only [Act.put, sA, sB, sC, i64_w, i32_w]
    rfl
  refine pure_ (i := 43) (N := some 54) (v := ?_) (a' := ?_) (Bs 44 56) rfl rfl (any_of HT_.out (by kernel_rfl)) (fun _ _ _ h => h) (Or.inl ⟨by rfl, ?_⟩) ?_ ?_; rotate_left
  · intro w'; go_simp; with_reducible rfl
  rotate_left
  · simp only [Act.put, sA, sB, sC, i64_w, i32_w]; rfl
  refine pure_ (i := 44) (N := some 55) (v := ?_) (a' := ?_) (Bs 45 56) rfl rfl (any_of HT_.out (by kernel_rfl)) (fun _ _ _ h => h) (Or.inl ⟨by rfl, ?_⟩) ?_ ?_; rotate_left
  · intro w'; go_simp; with_reducible rfl
  rotate_left
  · simp only [Act.put, sA, sB, sC, i64_w, i32_w]; rfl
  refine pure_ (i := 45) (N := some 56) (v := ?_) (a' := ?_) (Bs 46 56) rfl rfl (any_of HT_.out (by kernel_rfl)) (fun _ _ _ h => h) (Or.inl ⟨by rfl, ?_⟩) ?_ ?_; rotate_left
  · intro w'; go_simp; with_reducible rfl
  rotate_left
  · simp only [Act.put, sA, sB, sC, i64_w, i32_w]; rfl
  refine pure_ (i := 47) (N := some 58) (v := ?_) (a' := ?_) (Br [46,1,1,8]) rfl rfl (any_of HT_.out (by kernel_rfl)) (fun _ _ _ h => h) (Or.inl ⟨by rfl, ?_⟩) ?_ ?_; rotate_left
  · intro w'; go_simp; with_reducible rfl
  rotate_left
  · simp only [Act.put, sA, sB, sC, i64_w, i32_w]; rfl
  refine pure_ (i := 49) (N := some 60) (v := ?_) (a' := ?_) (Br [46,1,1,1,1,6]) rfl rfl (any_of HT_.out (by kernel_rfl)) (fun _ _ _ h => h) (Or.inl ⟨by rfl, ?_⟩) ?_ ?_; rotate_left
  · intro w'; go_simp; with_reducible rfl
  rotate_left
  · simp only [Act.put, sA, sB, sC, i64_w, i32_w]; rfl
  refine pure_ (i := 51) (N := some 62) (v := ?_) (a' := ?_) (Br [46,1,1,1,1,1,1,4]) rfl rfl (any_of HT_.out (by kernel_rfl)) (fun _ _ _ h => h) (Or.inl ⟨by rfl, ?_⟩) ?_ ?_; rotate_left
  · intro w'; go_simp; with_reducible rfl
  rotate_left
  · simp only [Act.put, sA, sB, sC, i64_w, i32_w]; rfl
  refine take_ (i := 48) (N := some 59) (v := ?_) (a' := ?_) (Br [46,1,3,1,1,4]) rfl rfl (take_ofW HT_.out HW_.out (by kernel_rfl)) (fun _ _ _ h => h) (Or.inl ⟨by rfl, ?_⟩) hHeld ?_ ?_; rotate_left
  · rintro w' ⟨s0, s1, s2, s3, s4, s5⟩; go_simp; with_reducible rfl
  rotate_left
  · simp only [Act.put, sA, sB, sC, i64_w, i32_w]; rfl
  refine take_ (i := 50) (N := some 61) (v := ?_) (a' := ?_) (Br [46,1,5,4]) rfl rfl (take_ofW HT_.out HW_.out (by kernel_rfl)) (fun _ _ _ h => h) (Or.inl ⟨by rfl, ?_⟩) hHeld ?_ ?_; rotate_left
  · rintro w' ⟨s0, s1, s2, s3, s4, s5⟩; go_simp; with_reducible rfl
  rotate_left
  · simp only [Act.put, sA, sB, sC, i64_w, i32_w]; rfl
  refine take_ (i := 52) (N := some 63) (v := ?_) (a' := ?_) (Br [46,1,6,3]) rfl rfl (take_ofW HT_.out HW_.out (by kernel_rfl)) (fun _ _ _ h => h) (Or.inl ⟨by rfl, ?_⟩) hHeld ?_ ?_; rotate_left
  · rintro w' ⟨s0, s1, s2, s3, s4, s5⟩; go_simp; with_reducible rfl
  rotate_left
  · simp only [Act.put, sA, sB, sC, i64_w, i32_w]; rfl
  refine one_ (i := 46) (N := some 57) (Bs 53 56) rfl rfl (one_of HT_.out (by kernel_rfl)) (by decide) (fun K hK => ?_)
  refine goes_ Try.func35 (by kernel_rfl) rfl #[.slice A1 b.length c1] (by rfl) rfl rfl (by simp only [List.map_toArray, List.map_cons, List.map_nil]; rfl) ?_
  with_reducible refine (HC1.out _ HB5.out).mono ?_
  rintro e w6 ⟨v6, rfl, hR6, hb6⟩
  refine ⟨_, rfl, ?_⟩
  have HB6 := Aside0.mk (below_step HB5.out hb6)
  obtain ⟨A6, c6, e6⟩ := Kd.R_slice hR6
  subst e6
  have HR6 := Aside0.mk (Kd.R_reads' hR6)
  clear hR6
  refine hK.out _ _ ⟨(hb6.cell (World.block_lt_of_cell? _ _ hHeld.1)).trans hHeld.1, (hb6.cell (World.block_lt_of_cell? _ _ hHeld.2.1)).trans hHeld.2.1, (hb6.cell (World.block_lt_of_cell? _ _ hHeld.2.2.1)).trans hHeld.2.2.1, (hb6.cell (World.block_lt_of_cell? _ _ hHeld.2.2.2.1)).trans hHeld.2.2.2.1, (hb6.cell (World.block_lt_of_cell? _ _ hHeld.2.2.2.2.1)).trans hHeld.2.2.2.2.1, (hb6.cell (World.block_lt_of_cell? _ _ hHeld.2.2.2.2.2)).trans hHeld.2.2.2.2.2⟩ (fun hHeld => ?_)
  clear hK K
  refine norm_ (a' := ?_) ?_ ?_
  rotate_left
  · show Act.put _ (some 57) _ = _
    simp only [Act.put, sA, sB, sC, i64_w, i32_w]
    rfl
  refine one_ (i := 53) (N := some 64) (Bs 54 56) rfl rfl (one_of HT_.out (by kernel_rfl)) (by decide) (fun K hK => ?_)
  refine goes_ Try.func71 (by kernel_rfl) rfl #[.slice A6 q.length c6, .int .i64 x, .int .i64 y, .int .i64 d] (by rfl) rfl rfl (by simp only [List.map_toArray, List.map_cons, List.map_nil]; rfl) ?_
  with_reducible refine (silversideref01_in.calls A6 c6 q x y d _ _ HR6.out.2.2 HR6.out.2.1 HH1.out).mono ?_
  rintro e w7 ⟨rfl, hb7⟩
  refine ⟨_, rfl, ?_⟩
  have HB7 := Aside0.mk (below_step HB6.out hb7)
  refine hK.out _ _ ⟨(hb7.cell (World.block_lt_of_cell? _ _ hHeld.1)).trans hHeld.1, (hb7.cell (World.block_lt_of_cell? _ _ hHeld.2.1)).trans hHeld.2.1, (hb7.cell (World.block_lt_of_cell? _ _ hHeld.2.2.1)).trans hHeld.2.2.1, (hb7.cell (World.block_lt_of_cell? _ _ hHeld.2.2.2.1)).trans hHeld.2.2.2.1, (hb7.cell (World.block_lt_of_cell? _ _ hHeld.2.2.2.2.1)).trans hHeld.2.2.2.2.1, (hb7.cell (World.block_lt_of_cell? _ _ hHeld.2.2.2.2.2)).trans hHeld.2.2.2.2.2⟩ (fun hHeld => ?_)
  clear hK K
  refine norm_ (a' := ?_) ?_ ?_
  rotate_left
  · show Act.put _ (some 64) _ = _
    simp only [Act.put, sA, sB, sC, i64_w, i32_w]
    rfl
  refine pure_ (i := 54) (N := some 65) (v := ?_) (a' := ?_) (Bs 55 56) rfl rfl (any_of HT_.out (by kernel_rfl)) (fun _ _ _ h => h) (Or.inl ⟨by rfl, ?_⟩) ?_ ?_; rotate_left
  · intro w'; go_simp; with_reducible rfl
  rotate_left
  · simp only [Act.put, sA, sB, sC, i64_w, i32_w]; rfl
  refine pure_ (i := 55) (N := some 6) (v := ?_) (a' := ?_) (Bs 56 56) rfl rfl (any_of HT_.out (by kernel_rfl)) (fun _ _ _ h => h) (Or.inl ⟨by rfl, ?_⟩) ?_ ?_; rotate_left
  · intro w'; go_simp; with_reducible rfl
  rotate_left
  · simp only [Act.put, sA, sB, sC, i64_w, i32_w]; rfl
  refine done_ (done_of HT_.out (by kernel_rfl)) ?_
  try go_wp2
  all_goals (go_ret; exact ⟨by rw [HR.out]; rfl, HB7.out⟩)
set_option maxHeartbeats 40000000 in
set_option maxRecDepth 100000 in
theorem rright_line (A0 : Option Addr) (c0 : Nat) (a : List S31) (A1 : Option Addr) (c1 : Nat) (b : List S31) (x y d u v t : Int) (w : World) (hr0 : Kd.C k31 w A0 a.length a) (hc0 : a.length ≤ c0) (hr1 : Kd.C k31 w A1 b.length b) (hc1 : b.length ≤ c1) (ha : isSetB a = true) (hb : isSetB b = true) :
    Calls Try.prog 40 #[.slice A0 a.length c0, .slice A1 b.length c1, .agg #[.bool false, .int .i64 x, .int .i64 y, .int .i64 d, .int .i64 u, .int .i64 v, .int .i64 t]] w fun e w' => e = .returned (.bool (rightB a b false x y d u v t)) ∧ Below w.heap.size w w' := by
  obtain ⟨⟨la1, la2⟩, oa⟩ := (isSetB_iff a).1 ha
  obtain ⟨⟨lb1, lb2⟩, ob⟩ := (isSetB_iff b).1 hb
  have HW3 := Aside0.mk (refwithin_is u 1073741824 (by omega))
  have HW4 := Aside0.mk (refwithin_is v 1073741824 (by omega))
  have HW5 := Aside0.mk (refwithin_is t 1152921504606846976 (by omega))
  have HE := Aside0.mk (show rightB a b false x y d u v t = ((x == 0) && ((y == 0) && ((d == 0) && (decide (-1073741824 ≤ u ∧ u ≤ 1073741824) && (decide (-1073741824 ≤ v ∧ v ≤ 1073741824) && (decide (-1152921504606846976 ≤ t ∧ t ≤ 1152921504606846976) && ((a.all fun p => decide (lin u v p < t)) && (b.all fun p => decide (t < lin u v p))))))))) from rfl)
  have HB := Aside0.mk (lA (Below.refl w.heap.size w) (Obj.cells #[.bool false, .int .i64 x, .int .i64 y, .int .i64 d, .int .i64 u, .int .i64 v, .int .i64 t] 44))
  have HG := Aside0.mk (heap_alloc_new w (Obj.cells #[.bool false, .int .i64 x, .int .i64 y, .int .i64 d, .int .i64 u, .int .i64 v, .int .i64 t] 44))
  have HRA := Aside0.mk (Kd.C_below hr0 HB.out)
  have HRB := Aside0.mk (Kd.C_below hr1 HB.out)
  have HOA := Aside0.mk oa
  have HOB := Aside0.mk ob
  obtain ⟨f0, f1, f2, f3, f4, f5, f6⟩ := cells7 HG.out
  clear hr0 hr1 ha hb oa ob la1 lb1
  generalize rightB a b false x y d u v t = r at *
  cases h0 : (x == 0)
  · have HR := Aside0.mk (show r = false by rw [HE.out, h0]; simp)
    have m0 : (x != 0) = true := by simp only [bne, h0]; rfl
    go_enter Try.func40, Try.ntmps40
    go_wp2_with (first | (go_at_call 70; with_reducible refine (silversideref01_within.calls _ _ _ _ HW3.out).mono ?_; rintro e w' ⟨rfl, ⟨nd, rfl⟩⟩) | (go_at_call 70; with_reducible refine (silversideref01_within.calls _ _ _ _ HW4.out).mono ?_; rintro e w' ⟨rfl, ⟨nd, rfl⟩⟩) | (go_at_call 70; with_reducible refine (silversideref01_within.calls _ _ _ _ HW5.out).mono ?_; rintro e w' ⟨rfl, ⟨nd, rfl⟩⟩))
    go_ret
    exact ⟨by rw [HR.out]; rfl, by repeat (first | exact HB.out | apply lN)⟩
  have m0 : (x != 0) = false := by simp only [bne, h0]; rfl
  cases h1 : (y == 0)
  · have HR := Aside0.mk (show r = false by rw [HE.out, h0, h1]; simp)
    have m1 : (y != 0) = true := by simp only [bne, h1]; rfl
    go_enter Try.func40, Try.ntmps40
    go_wp2_with (first | (go_at_call 70; with_reducible refine (silversideref01_within.calls _ _ _ _ HW3.out).mono ?_; rintro e w' ⟨rfl, ⟨nd, rfl⟩⟩) | (go_at_call 70; with_reducible refine (silversideref01_within.calls _ _ _ _ HW4.out).mono ?_; rintro e w' ⟨rfl, ⟨nd, rfl⟩⟩) | (go_at_call 70; with_reducible refine (silversideref01_within.calls _ _ _ _ HW5.out).mono ?_; rintro e w' ⟨rfl, ⟨nd, rfl⟩⟩))
    go_ret
    exact ⟨by rw [HR.out]; rfl, by repeat (first | exact HB.out | apply lN)⟩
  have m1 : (y != 0) = false := by simp only [bne, h1]; rfl
  cases h2 : (d == 0)
  · have HR := Aside0.mk (show r = false by rw [HE.out, h0, h1, h2]; simp)
    have m2 : (d != 0) = true := by simp only [bne, h2]; rfl
    go_enter Try.func40, Try.ntmps40
    go_wp2_with (first | (go_at_call 70; with_reducible refine (silversideref01_within.calls _ _ _ _ HW3.out).mono ?_; rintro e w' ⟨rfl, ⟨nd, rfl⟩⟩) | (go_at_call 70; with_reducible refine (silversideref01_within.calls _ _ _ _ HW4.out).mono ?_; rintro e w' ⟨rfl, ⟨nd, rfl⟩⟩) | (go_at_call 70; with_reducible refine (silversideref01_within.calls _ _ _ _ HW5.out).mono ?_; rintro e w' ⟨rfl, ⟨nd, rfl⟩⟩))
    go_ret
    exact ⟨by rw [HR.out]; rfl, by repeat (first | exact HB.out | apply lN)⟩
  have m2 : (d != 0) = false := by simp only [bne, h2]; rfl
  cases h3 : decide (-1073741824 ≤ u ∧ u ≤ 1073741824)
  · rw [h3] at HW3
    have HR := Aside0.mk (show r = false by rw [HE.out, h0, h1, h2, h3]; simp)
    go_enter Try.func40, Try.ntmps40
    go_wp2_with (first | (go_at_call 70; with_reducible refine (silversideref01_within.calls _ _ _ _ HW3.out).mono ?_; rintro e w' ⟨rfl, ⟨nd, rfl⟩⟩) | (go_at_call 70; with_reducible refine (silversideref01_within.calls _ _ _ _ HW4.out).mono ?_; rintro e w' ⟨rfl, ⟨nd, rfl⟩⟩) | (go_at_call 70; with_reducible refine (silversideref01_within.calls _ _ _ _ HW5.out).mono ?_; rintro e w' ⟨rfl, ⟨nd, rfl⟩⟩))
    go_ret
    exact ⟨by rw [HR.out]; rfl, by repeat (first | exact HB.out | apply lN)⟩
  rw [h3] at HW3
  cases h4 : decide (-1073741824 ≤ v ∧ v ≤ 1073741824)
  · rw [h4] at HW4
    have HR := Aside0.mk (show r = false by rw [HE.out, h0, h1, h2, h3, h4]; simp)
    go_enter Try.func40, Try.ntmps40
    go_wp2_with (first | (go_at_call 70; with_reducible refine (silversideref01_within.calls _ _ _ _ HW3.out).mono ?_; rintro e w' ⟨rfl, ⟨nd, rfl⟩⟩) | (go_at_call 70; with_reducible refine (silversideref01_within.calls _ _ _ _ HW4.out).mono ?_; rintro e w' ⟨rfl, ⟨nd, rfl⟩⟩) | (go_at_call 70; with_reducible refine (silversideref01_within.calls _ _ _ _ HW5.out).mono ?_; rintro e w' ⟨rfl, ⟨nd, rfl⟩⟩))
    go_ret
    exact ⟨by rw [HR.out]; rfl, by repeat (first | exact HB.out | apply lN)⟩
  rw [h4] at HW4
  cases h5 : decide (-1152921504606846976 ≤ t ∧ t ≤ 1152921504606846976)
  · rw [h5] at HW5
    have HR := Aside0.mk (show r = false by rw [HE.out, h0, h1, h2, h3, h4, h5]; simp)
    go_enter Try.func40, Try.ntmps40
    go_wp2_with (first | (go_at_call 70; with_reducible refine (silversideref01_within.calls _ _ _ _ HW3.out).mono ?_; rintro e w' ⟨rfl, ⟨nd, rfl⟩⟩) | (go_at_call 70; with_reducible refine (silversideref01_within.calls _ _ _ _ HW4.out).mono ?_; rintro e w' ⟨rfl, ⟨nd, rfl⟩⟩) | (go_at_call 70; with_reducible refine (silversideref01_within.calls _ _ _ _ HW5.out).mono ?_; rintro e w' ⟨rfl, ⟨nd, rfl⟩⟩))
    go_ret
    exact ⟨by rw [HR.out]; rfl, by repeat (first | exact HB.out | apply lN)⟩
  rw [h5] at HW5
  have HRR := Aside0.mk (show r = ((a.all fun p => decide (lin u v p < t)) && (b.all fun p => decide (t < lin u v p))) by rw [HE.out, h0, h1, h2, h3, h4, h5]; simp only [Bool.true_and])
  have HU := Aside0.mk (of_decide_eq_true h3)
  have HV := Aside0.mk (of_decide_eq_true h4)
  clear HE h0 h1 h2 h3 h4 h5
  go_enter Try.func40, Try.ntmps40
  go_wp2_with (first | (go_at_call 70; with_reducible refine (silversideref01_within.calls _ _ _ _ HW3.out).mono ?_; rintro e w' ⟨rfl, ⟨nd, rfl⟩⟩) | (go_at_call 70; with_reducible refine (silversideref01_within.calls _ _ _ _ HW4.out).mono ?_; rintro e w' ⟨rfl, ⟨nd, rfl⟩⟩) | (go_at_call 70; with_reducible refine (silversideref01_within.calls _ _ _ _ HW5.out).mono ?_; rintro e w' ⟨rfl, ⟨nd, rfl⟩⟩))
  generalize w.alloc (Obj.cells #[.bool false, .int .i64 x, .int .i64 y, .int .i64 d, .int .i64 u, .int .i64 v, .int .i64 t] 44) = W at *
  go_loopw [7] (fun v7 wr => ∃ k q : Nat, k ≤ a.length ∧ v7 = .int .i64 k ∧ Aside0 (∀ i, i < k → lin u v (pt a i) < t) ∧ wr = W.drewN q) (fun v7 _ => a.length - (intOf v7).toNat)
  case atStart => exact ⟨0, _, by omega, rfl, ⟨fun i h => by omega⟩, rfl⟩
  case round =>
    obtain ⟨k, q, hk, rfl, HA, rfl⟩ := hrel
    by_cases hlt : k < a.length
    · obtain ⟨ad, rfl, x0, x1⟩ := at_T31 HRA.out (k : Int) (by omega) (by omega)
      rw [rd_pt, Int.toNat_natCast] at x0 x1
      have hltI : ((k : Nat) : Int) < ((a.length : Nat) : Int) := by omega
      have hcI : ((k : Nat) : Int) ≤ ((c0 : Nat) : Int) := by omega
      have HP := Aside0.mk (allOk_pt HOA.out k hlt)
      have HK := Aside0.mk (show ∀ i, i < k + 1 → i < k ∨ i = k by omega)
      have HM := Aside0.mk (pt_mem a k hlt)
      obtain ⟨p, hp⟩ : ∃ p, p = pt a k := ⟨_, rfl⟩
      rw [← hp] at x0 x1 HP HM
      have HPK := Aside0.mk hp
      clear hp
      have HL : Aside0 (wrap64 (wrap64 (u * p.f0) + wrap64 (v * p.f1)) = lin u v p) := by
        have ho := (okPt_iff p).1 HP.out
        have b1 := mul_bd (a := u) (b := p.f0) (m := 1073741824) (n := 4096) HU.out (by omega)
        have b2 := mul_bd (a := v) (b := p.f1) (m := 1073741824) (n := 4096) HV.out (by omega)
        exact ⟨by rw [w64i (x := u * p.f0) (by omega) (by omega), w64i (x := v * p.f1) (by omega) (by omega)]; exact w64i (by omega) (by omega)⟩
      go_wp2
      go_quiet (fail)
      clear x0 x1
      cases hB : decide (t ≤ wrap64 (wrap64 (u * p.f0) + wrap64 (v * p.f1)))
      · have HA1 : Aside0 (∀ i, i < k + 1 → lin u v (pt a i) < t) := ⟨fun i hi => by
          rcases HK.out i hi with h | rfl
          · exact HA.out i h
          · rw [← HPK.out, ← HL.out]; have := of_decide_eq_false hB; omega⟩
        go_wp2
        go_roundw
        case rel => exact ⟨k + 1, _, by omega, by go_num, HA1, rfl⟩
        case measure => simp [intOf]; omega
      · have HF : Aside0 (r = false) := ⟨by
          rw [HRR.out]
          have : ((a.all fun p => decide (lin u v p < t))) = false := by
            rw [List.all_eq_false]
            exact ⟨p, HM.out, by rw [decide_eq_true_eq, ← HL.out]; have := of_decide_eq_true hB; omega⟩
          rw [this]; simp⟩
        go_wp2
        go_ret
        exact ⟨by rw [HF.out]; rfl, by repeat (first | exact HB.out | apply lN)⟩
    · have HAL : Aside0 ((a.all fun p => decide (lin u v p < t)) = true) := ⟨by
        rw [List.all_eq_true]
        intro p hp
        obtain ⟨i, hi, rfl⟩ := mem_pt hp
        exact decide_eq_true (HA.out i (by omega))⟩
      obtain rfl : k = a.length := by omega
      clear HA
      go_wp2
      have HALA := HAL
      clear HAL
      go_loopw [8] (fun v8 wr => ∃ k q : Nat, k ≤ b.length ∧ v8 = .int .i64 k ∧ Aside0 (∀ i, i < k → t < lin u v (pt b i)) ∧ wr = W.drewN q) (fun v8 _ => b.length - (intOf v8).toNat)
      case atStart => exact ⟨0, _, by omega, rfl, ⟨fun i h => by omega⟩, rfl⟩
      case round =>
        obtain ⟨k, q, hk, rfl, HA, rfl⟩ := hrel
        by_cases hlt : k < b.length
        · obtain ⟨ad, rfl, x0, x1⟩ := at_T31 HRB.out (k : Int) (by omega) (by omega)
          rw [rd_pt, Int.toNat_natCast] at x0 x1
          have hltI : ((k : Nat) : Int) < ((b.length : Nat) : Int) := by omega
          have hcI : ((k : Nat) : Int) ≤ ((c1 : Nat) : Int) := by omega
          have HP := Aside0.mk (allOk_pt HOB.out k hlt)
          have HK := Aside0.mk (show ∀ i, i < k + 1 → i < k ∨ i = k by omega)
          have HM := Aside0.mk (pt_mem b k hlt)
          obtain ⟨p, hp⟩ : ∃ p, p = pt b k := ⟨_, rfl⟩
          rw [← hp] at x0 x1 HP HM
          have HPK := Aside0.mk hp
          clear hp
          have HL : Aside0 (wrap64 (wrap64 (u * p.f0) + wrap64 (v * p.f1)) = lin u v p) := by
            have ho := (okPt_iff p).1 HP.out
            have b1 := mul_bd (a := u) (b := p.f0) (m := 1073741824) (n := 4096) HU.out (by omega)
            have b2 := mul_bd (a := v) (b := p.f1) (m := 1073741824) (n := 4096) HV.out (by omega)
            exact ⟨by rw [w64i (x := u * p.f0) (by omega) (by omega), w64i (x := v * p.f1) (by omega) (by omega)]; exact w64i (by omega) (by omega)⟩
          go_wp2
          go_quiet (fail)
          clear x0 x1
          cases hB : decide (wrap64 (wrap64 (u * p.f0) + wrap64 (v * p.f1)) ≤ t)
          · have HA1 : Aside0 (∀ i, i < k + 1 → t < lin u v (pt b i)) := ⟨fun i hi => by
              rcases HK.out i hi with h | rfl
              · exact HA.out i h
              · rw [← HPK.out, ← HL.out]; have := of_decide_eq_false hB; omega⟩
            go_wp2
            go_roundw
            case rel => exact ⟨k + 1, _, by omega, by go_num, HA1, rfl⟩
            case measure => simp [intOf]; omega
          · have HF : Aside0 (r = false) := ⟨by
              rw [HRR.out]
              have : ((b.all fun p => decide (t < lin u v p))) = false := by
                rw [List.all_eq_false]
                exact ⟨p, HM.out, by rw [decide_eq_true_eq, ← HL.out]; have := of_decide_eq_true hB; omega⟩
              rw [this]; simp⟩
            go_wp2
            go_ret
            exact ⟨by rw [HF.out]; rfl, by repeat (first | exact HB.out | apply lN)⟩
        · have HAL : Aside0 ((b.all fun p => decide (t < lin u v p)) = true) := ⟨by
            rw [List.all_eq_true]
            intro p hp
            obtain ⟨i, hi, rfl⟩ := mem_pt hp
            exact decide_eq_true (HA.out i (by omega))⟩
          obtain rfl : k = b.length := by omega
          clear HA
          go_wp2
          have HF := Aside0.mk (show r = true by rw [HRR.out, HALA.out, HAL.out]; rfl)
          go_ret
          exact ⟨by rw [HF.out]; rfl, lN HB.out _⟩
theorem silversideref01_Right.calls (A0 : Option Addr) (c0 : Nat) (l0 : List S31) (A1 : Option Addr) (c1 : Nat) (l1 : List S31) (m : Bool) (x y d u v t : Int) (r : Bool) (w : World) (hr0 : Kd.C k31 w A0 l0.length l0) (hc0 : l0.length ≤ c0) (hr1 : Kd.C k31 w A1 l1.length l1) (hc1 : l1.length ≤ c1) (h : silversideref01_Right.f l0 l1 m x y d u v t = some r) :
    Calls Try.prog 40 #[.slice A0 l0.length c0, .slice A1 l1.length c1, .agg #[.bool m, .int .i64 x, .int .i64 y, .int .i64 d, .int .i64 u, .int .i64 v, .int .i64 t]] w fun e w' => e = .returned (.bool r) ∧ Below w.heap.size w w' := by
  unfold silversideref01_Right.f at h
  by_cases hs : isSetB l0 = true ∧ isSetB l1 = true
  · rw [if_pos hs] at h
    injection h with h
    subst h
    cases m
    · exact rright_line A0 c0 l0 A1 c1 l1 x y d u v t w hr0 hc0 hr1 hc1 hs.1 hs.2
    · exact rright_meet A0 c0 l0 A1 c1 l1 x y d u v t w hr0 hc0 hr1 hc1 hs.1 hs.2
  · rw [if_neg hs] at h; cases h
end Go.Proofs.Ythaklbjcjoolcaa.P
namespace Go.Proofs.Ythaklbjcjoolcaa.P
open Go.RowKit Go.Proofs.YthaklbjcjoolcaaW.PrintWords Go.Proofs.YthaklbjcjoolcaaW.PrintLast Go.Proofs.YthaklbjcjoolcaaW.PrintMore
attribute [local go_sem] max2_int min2_int max_two min_two max_three min_three max_four min_four   -- for this text's walks alone
set_option linter.unusedVariables false
set_option linter.unusedSimpArgs false

/-! ### silversidelaw01_PlaneChecks: function 11 -/
def silversidelaw01_PlaneChecks.j0 : Nat → List (S31) → List (S31) → Int → Bool → Bool → Int → Int → Int → Int → Int → Int → Option (Bool)
 | 0, _, _, _, _, _, _, _, _, _, _, _ => none
 | k + 1, x7, x8, x9, x25, x495000, x495001, x495002, x495003, x495004, x495005, x495006 => if x25 = true then (if x9 = 2 then ((silversidelaw01_awake.f k).bind fun t504 => (some t504)) else (some false)) else ((silversideref01_Right.f x7 x8 x495000 x495001 x495002 x495003 x495004 x495005 x495006).bind fun t505 => (if t505 = true then (if x9 = 0 then ((silversidelaw01_awake.f k).bind fun t506 => (some t506)) else (some false)) else (if x9 = 10 then ((silversidelaw01_awake.f k).bind fun t507 => (some t507)) else (some false))))
def silversidelaw01_PlaneChecks.f (k : Nat) (l0 : List (S31)) (l1 : List (S31)) (a2_0 : Bool) (a2_1 : Int) (a2_2 : Int) (a2_3 : Int) (a2_4 : Int) (a2_5 : Int) (a2_6 : Int) : Option (Bool) := (silversidelaw01_some.f l0 40).bind fun t495 => ((silversidelaw01_some.f l1 40).bind fun t498 => ((plane_Check.f k t495 t498 a2_0 a2_1 a2_2 a2_3 a2_4 a2_5 a2_6).bind fun t501 => ((silversideref01_Set.f k t495).bind fun t502 => (if t502 = true then ((silversideref01_Set.f k t498).bind fun t503 => (silversidelaw01_PlaneChecks.j0 k t495 t498 t501 (!t503) a2_0 a2_1 a2_2 a2_3 a2_4 a2_5 a2_6)) else (silversidelaw01_PlaneChecks.j0 k t495 t498 t501 true a2_0 a2_1 a2_2 a2_3 a2_4 a2_5 a2_6)))))
theorem silversidelaw01_PlaneChecks.mono_l : ∀ k, (∀ y0 y1 y2 y3 y4 y5 y6 y7 y8 y9 y10, LeO (silversidelaw01_PlaneChecks.j0 k y0 y1 y2 y3 y4 y5 y6 y7 y8 y9 y10) (silversidelaw01_PlaneChecks.j0 (k + 1) y0 y1 y2 y3 y4 y5 y6 y7 y8 y9 y10))
 | 0 => fun _ _ _ _ _ _ _ _ _ _ _ r h => by simp [silversidelaw01_PlaneChecks.j0] at h
 | k + 1 => by
  have ih0 := silversidelaw01_PlaneChecks.mono_l k
  ·intro y0 y1 y2 y3 y4 y5 y6 y7 y8 y9 y10
   unfold silversidelaw01_PlaneChecks.j0
   repeat' first
   | (with_reducible exact ih0 _ _ _ _ _ _ _ _ _ _ _)
   | (with_reducible exact plane_Check.mono _ _ _ _ _ _ _ _ _ _)
   | (with_reducible exact silversidelaw01_awake.mono _)
   | (with_reducible exact silversideref01_Set.mono _ _)
   | (with_reducible exact LeO.refl _)
   | (with_reducible exact LeO.none _)
   | (with_reducible refine LeO.ite ?_ ?_)
   | (with_reducible refine LeO.bind ?_ (fun _ => ?_))
   | exact ih0 _ _ _ _ _ _ _ _ _ _ _
   | exact plane_Check.mono _ _ _ _ _ _ _ _ _ _
   | exact silversidelaw01_awake.mono _
   | exact silversideref01_Set.mono _ _
   | exact LeO.none _
   | refine LeO.ite ?_ ?_
   | refine LeO.bind ?_ (fun _ => ?_)
theorem silversidelaw01_PlaneChecks.mono : ∀ a0 a1 a2 a3 a4 a5 a6 a7 a8 k, LeO (silversidelaw01_PlaneChecks.f k a0 a1 a2 a3 a4 a5 a6 a7 a8) (silversidelaw01_PlaneChecks.f (k + 1) a0 a1 a2 a3 a4 a5 a6 a7 a8) := by
 intro a0 a1 a2 a3 a4 a5 a6 a7 a8 k
 have ih0 := silversidelaw01_PlaneChecks.mono_l k
 unfold silversidelaw01_PlaneChecks.f
 repeat' first
   | (with_reducible exact ih0 _ _ _ _ _ _ _ _ _ _ _)
   | (with_reducible exact plane_Check.mono _ _ _ _ _ _ _ _ _ _)
   | (with_reducible exact silversidelaw01_awake.mono _)
   | (with_reducible exact silversideref01_Set.mono _ _)
   | (with_reducible exact LeO.refl _)
   | (with_reducible exact LeO.none _)
   | (with_reducible refine LeO.ite ?_ ?_)
   | (with_reducible refine LeO.bind ?_ (fun _ => ?_))
   | exact ih0 _ _ _ _ _ _ _ _ _ _ _
   | exact plane_Check.mono _ _ _ _ _ _ _ _ _ _
   | exact silversidelaw01_awake.mono _
   | exact silversideref01_Set.mono _ _
   | exact LeO.none _
   | refine LeO.ite ?_ ?_
   | refine LeO.bind ?_ (fun _ => ?_)
set_option maxHeartbeats 8000000 in
set_option maxRecDepth 100000 in
theorem silversidelaw01_PlaneChecks.calls (k : Nat) (A0 : Option Addr) (c0 : Nat) (l0 : List (S31)) (A1 : Option Addr) (c1 : Nat) (l1 : List (S31)) (a2_0 : Bool) (a2_1 : Int) (a2_2 : Int) (a2_3 : Int) (a2_4 : Int) (a2_5 : Int) (a2_6 : Int) (r : Bool) (w : World) (hr0 : Kd.C k31 w A0 l0.length l0) (hc0 : l0.length ≤ c0) (hr1 : Kd.C k31 w A1 l1.length l1) (hc1 : l1.length ≤ c1) (h : silversidelaw01_PlaneChecks.f k l0 l1 a2_0 a2_1 a2_2 a2_3 a2_4 a2_5 a2_6 = some r) :
  Calls Try.prog 11 #[.slice A0 l0.length c0, .slice A1 l1.length c1, .agg #[.bool a2_0, .int .i64 a2_1, .int .i64 a2_2, .int .i64 a2_3, .int .i64 a2_4, .int .i64 a2_5, .int .i64 a2_6]] w fun e w' => e = .returned (.bool r) ∧ Below w.heap.size w w' := by
 have hu44 := Try.underlying44
 have HR0 := Aside0.mk hr0
 have HC0 := Aside0.mk hc0
 clear hr0 hc0
 have HR1 := Aside0.mk hr1
 have HC1 := Aside0.mk hc1
 clear hr1 hc1
 have HB := Aside0.mk (Below.refl w.heap.size w)
 have H : ((silversidelaw01_some.f l0 40).bind fun t495 => ((silversidelaw01_some.f l1 40).bind fun t498 => ((plane_Check.f k t495 t498 a2_0 a2_1 a2_2 a2_3 a2_4 a2_5 a2_6).bind fun t501 => ((silversideref01_Set.f k t495).bind fun t502 => (if t502 = true then ((silversideref01_Set.f k t498).bind fun t503 => (silversidelaw01_PlaneChecks.j0 k t495 t498 t501 (!t503) a2_0 a2_1 a2_2 a2_3 a2_4 a2_5 a2_6)) else (silversidelaw01_PlaneChecks.j0 k t495 t498 t501 true a2_0 a2_1 a2_2 a2_3 a2_4 a2_5 a2_6)))))) = some r := h
 clear h
 replace H := Option.bind_eq_some_iff.mp H
 obtain ⟨t495, A40, H⟩ := H
 replace H : ((silversidelaw01_some.f l1 40).bind fun t498 => ((plane_Check.f k t495 t498 a2_0 a2_1 a2_2 a2_3 a2_4 a2_5 a2_6).bind fun t501 => ((silversideref01_Set.f k t495).bind fun t502 => (if t502 = true then ((silversideref01_Set.f k t498).bind fun t503 => (silversidelaw01_PlaneChecks.j0 k t495 t498 t501 (!t503) a2_0 a2_1 a2_2 a2_3 a2_4 a2_5 a2_6)) else (silversidelaw01_PlaneChecks.j0 k t495 t498 t501 true a2_0 a2_1 a2_2 a2_3 a2_4 a2_5 a2_6))))) = some r := H
 have A4 := Aside0.mk A40
 clear A40
 replace H := Option.bind_eq_some_iff.mp H
 obtain ⟨t498, A50, H⟩ := H
 replace H : ((plane_Check.f k t495 t498 a2_0 a2_1 a2_2 a2_3 a2_4 a2_5 a2_6).bind fun t501 => ((silversideref01_Set.f k t495).bind fun t502 => (if t502 = true then ((silversideref01_Set.f k t498).bind fun t503 => (silversidelaw01_PlaneChecks.j0 k t495 t498 t501 (!t503) a2_0 a2_1 a2_2 a2_3 a2_4 a2_5 a2_6)) else (silversidelaw01_PlaneChecks.j0 k t495 t498 t501 true a2_0 a2_1 a2_2 a2_3 a2_4 a2_5 a2_6)))) = some r := H
 have A5 := Aside0.mk A50
 clear A50
 replace H := Option.bind_eq_some_iff.mp H
 obtain ⟨t501, A60, H⟩ := H
 replace H : ((silversideref01_Set.f k t495).bind fun t502 => (if t502 = true then ((silversideref01_Set.f k t498).bind fun t503 => (silversidelaw01_PlaneChecks.j0 k t495 t498 t501 (!t503) a2_0 a2_1 a2_2 a2_3 a2_4 a2_5 a2_6)) else (silversidelaw01_PlaneChecks.j0 k t495 t498 t501 true a2_0 a2_1 a2_2 a2_3 a2_4 a2_5 a2_6))) = some r := H
 have A6 := Aside0.mk A60
 clear A60
 have HC7 := Aside0.mk H
 clear H
 go_enter Try.func11, Try.ntmps11
 go_upto_region 3 with (first | ((with_reducible refine gate_dst (N := 5) rfl ?_); refine box_event ?hg (N := 5) ?hd (cs := #[.bool a2_0, .int .i64 a2_1, .int .i64 a2_2, .int .i64 a2_3, .int .i64 a2_4, .int .i64 a2_5, .int .i64 a2_6]) (t := 44) ?hr ?_; (case hd => rfl); (case hg => rfl); (case hr => first | (go_simp; done) | (go_simp; rfl)); intro gb494 hg w8 hbox hb; have n0_ := Aside0.mk (below_step (by repeat (first | (with_reducible first | exact HB.out | apply lA | apply lN | apply lD) | exact HB.out)) hb); have n1_ := Aside0.mk (hbox); have n2_ := Aside0.mk ((by rw [hg]; exact (below_size (by repeat (first | (with_reducible first | exact HB.out | apply lA | apply lN | apply lD) | exact HB.out))) : w.heap.size ≤ gb494)); have n3_ := Aside0.mk ((by rw [hg]; exact (below_size (by repeat (first | (with_reducible first | exact HB.out | apply lA | apply lN | apply lD) | exact HB.out))) : w.heap.size ≤ gb494)); clear HB; have HB := n0_; have BK494 := n1_; have GW494 := n2_; have GE494 := n3_; clear n0_ n1_ n2_ n3_; clear hb hbox hg) | ((with_reducible refine gate_callee (f := 20) rfl ?_); refine goesL_ (some 11) rfl rfl Try.func20 (by kernel_rfl) rfl #[.slice A0 l0.length c0, .int .i64 40] rfl (by (try simp only [List.map_toArray, List.map_cons, List.map_nil]); first | done | rfl | (simp only [List.length_drop, List.length_take]; rfl)) ?_; (with_reducible refine (silversidelaw01_some.calls _ _ l0 40 t495 _ ?side1 ?side2 A4.out).mono ?_); (case side1 => repeat (first | exact (Kd.C_below HR0.out HB.out) | (with_reducible refine Kd.C_alloc ?_ _) | (with_reducible refine Kd.C_drewN ?_ _) | (with_reducible refine Kd.C_drew ?_))); (case side2 => exact HC0.out); rintro e w9 ⟨v496, rfl, ho0, hb⟩; refine ⟨_, rfl, ?_⟩; have n0_ := Aside0.mk (Kd.R_lower ho0 (below_size (by repeat (first | (with_reducible first | exact HB.out | apply lA | apply lN | apply lD | refine lS ?_ GE494.out) | exact HB.out)))); have n1_ := Aside0.mk (blk_below (g := gb494) (o := .cells #[.bool a2_0, .int .i64 a2_1, .int .i64 a2_2, .int .i64 a2_3, .int .i64 a2_4, .int .i64 a2_5, .int .i64 a2_6] 44 (0, 0)) (kX BK494.out) hb); have n2_ := Aside0.mk (below_step (by repeat (first | (with_reducible first | exact HB.out | apply lA | apply lN | apply lD | refine lS ?_ GE494.out) | exact HB.out)) hb); clear BK494; clear HB; have HO497 := n0_; have BK494 := n1_; have HB := n2_; clear n0_ n1_ n2_; (try clear hb); (try clear hb2); (try clear hk); (try clear hi); (try clear ho0)) | ((with_reducible refine gate_callee (f := 20) rfl ?_); refine goesL_ (some 13) rfl rfl Try.func20 (by kernel_rfl) rfl #[.slice A1 l1.length c1, .int .i64 40] rfl (by (try simp only [List.map_toArray, List.map_cons, List.map_nil]); first | done | rfl | (simp only [List.length_drop, List.length_take]; rfl)) ?_; (with_reducible refine (silversidelaw01_some.calls _ _ l1 40 t498 _ ?side1 ?side2 A5.out).mono ?_); (case side1 => repeat (first | exact (Kd.C_below HR1.out HB.out) | (with_reducible refine Kd.C_alloc ?_ _) | (with_reducible refine Kd.C_drewN ?_ _) | (with_reducible refine Kd.C_drew ?_))); (case side2 => exact HC1.out); rintro e w10 ⟨v499, rfl, ho0, hb⟩; refine ⟨_, rfl, ?_⟩; have n0_ := Aside0.mk (Kd.R_elder' (by (with_reducible repeat (first | apply Kd.R_alloc | apply Kd.R_drewN | apply Kd.R_drew)); exact HO497.out) (Kd.R_base ho0) hb); have n1_ := Aside0.mk (Kd.R_lower (Kd.R_new' ho0 (Kd.R_lt (by (with_reducible repeat (first | apply Kd.R_alloc | apply Kd.R_drewN | apply Kd.R_drew)); exact HO497.out))) (below_size (by repeat (first | (with_reducible first | exact HB.out | apply lA | apply lN | apply lD | refine lS ?_ GE494.out) | exact HB.out)))); have n2_ := Aside0.mk (blk_below (g := gb494) (o := .cells #[.bool a2_0, .int .i64 a2_1, .int .i64 a2_2, .int .i64 a2_3, .int .i64 a2_4, .int .i64 a2_5, .int .i64 a2_6] 44 (0, 0)) (kX BK494.out) hb); have n3_ := Aside0.mk (below_step (by repeat (first | (with_reducible first | exact HB.out | apply lA | apply lN | apply lD | refine lS ?_ GE494.out) | exact HB.out)) hb); clear HO497; clear BK494; clear HB; have HO497 := n0_; have HO500 := n1_; have BK494 := n2_; have HB := n3_; clear n0_ n1_ n2_ n3_; (try clear hb); (try clear hb2); (try clear hk); (try clear hi); (try clear ho0); have hcz11_0 : w10.cell? ⟨gb494, 0, none⟩ = some (.bool a2_0) := (blk_cell BK494.out 0).trans rfl; have hcz11_1 : w10.cell? ⟨gb494, 1, none⟩ = some (.int .i64 a2_1) := (blk_cell BK494.out 1).trans rfl; have hcz11_2 : w10.cell? ⟨gb494, 2, none⟩ = some (.int .i64 a2_2) := (blk_cell BK494.out 2).trans rfl; have hcz11_3 : w10.cell? ⟨gb494, 3, none⟩ = some (.int .i64 a2_3) := (blk_cell BK494.out 3).trans rfl; have hcz11_4 : w10.cell? ⟨gb494, 4, none⟩ = some (.int .i64 a2_4) := (blk_cell BK494.out 4).trans rfl; have hcz11_5 : w10.cell? ⟨gb494, 5, none⟩ = some (.int .i64 a2_5) := (blk_cell BK494.out 5).trans rfl; have hcz11_6 : w10.cell? ⟨gb494, 6, none⟩ = some (.int .i64 a2_6) := (blk_cell BK494.out 6).trans rfl; have hfz11_0 := blk_frozen BK494.out 0; have hfz11_1 := blk_frozen BK494.out 1; have hfz11_2 := blk_frozen BK494.out 2; have hfz11_3 := blk_frozen BK494.out 3; have hfz11_4 := blk_frozen BK494.out 4; have hfz11_5 := blk_frozen BK494.out 5; have hfz11_6 := blk_frozen BK494.out 6; obtain ⟨Ao12, co12, eo12⟩ := Kd.R_slice HO497.out; subst eo12; obtain ⟨Ao13, co13, eo13⟩ := Kd.R_slice HO500.out; subst eo13) | ((with_reducible refine gate_callee (f := 39) rfl ?_); refine goesL_ (some 17) rfl rfl Try.func39 (by kernel_rfl) rfl #[.slice Ao12 t495.length co12, .slice Ao13 t498.length co13, .agg #[.bool a2_0, .int .i64 a2_1, .int .i64 a2_2, .int .i64 a2_3, .int .i64 a2_4, .int .i64 a2_5, .int .i64 a2_6]] rfl (by (try simp only [List.map_toArray, List.map_cons, List.map_nil]); first | done | rfl | (simp only [List.length_drop, List.length_take]; rfl)) ?_; (with_reducible refine (plane_Check.calls k _ _ t495 _ _ t498 a2_0 a2_1 a2_2 a2_3 a2_4 a2_5 a2_6 t501 _ ?side1 ?side2 ?side3 ?side4 A6.out).mono ?_); (case side1 => repeat (first | exact (Kd.R_reads' HO497.out).2.2 | (with_reducible refine Kd.C_alloc ?_ _) | (with_reducible refine Kd.C_drewN ?_ _) | (with_reducible refine Kd.C_drew ?_))); (case side2 => exact (Kd.R_reads' HO497.out).2.1); (case side3 => repeat (first | exact (Kd.R_reads' HO500.out).2.2 | (with_reducible refine Kd.C_alloc ?_ _) | (with_reducible refine Kd.C_drewN ?_ _) | (with_reducible refine Kd.C_drew ?_))); (case side4 => exact (Kd.R_reads' HO500.out).2.1); rintro e w14 ⟨rfl, hb⟩; refine ⟨_, rfl, ?_⟩; have n0_ := Aside0.mk (Kd.R_below (by (with_reducible repeat (first | apply Kd.R_alloc | apply Kd.R_drewN | apply Kd.R_drew)); exact HO497.out) hb); have n1_ := Aside0.mk (Kd.R_below (by (with_reducible repeat (first | apply Kd.R_alloc | apply Kd.R_drewN | apply Kd.R_drew)); exact HO500.out) hb); have n2_ := Aside0.mk (blk_below (g := gb494) (o := .cells #[.bool a2_0, .int .i64 a2_1, .int .i64 a2_2, .int .i64 a2_3, .int .i64 a2_4, .int .i64 a2_5, .int .i64 a2_6] 44 (0, 0)) (kX BK494.out) hb); have n3_ := Aside0.mk (below_step (by repeat (first | (with_reducible first | exact HB.out | apply lA | apply lN | apply lD | refine lS ?_ GE494.out) | exact HB.out)) hb); clear HO497; clear HO500; clear BK494; clear HB; have HO497 := n0_; have HO500 := n1_; have BK494 := n2_; have HB := n3_; clear n0_ n1_ n2_ n3_; (try clear hb); (try clear hb2); (try clear hk); (try clear hi)))
 (try simp only [Act.put, sA, sB, sC])
 go_cut [25] (fun v25 wc => ∃ (kq : Nat) (x25_6 : Bool), v25 = .bool x25_6 ∧ Aside0 (silversidelaw01_PlaneChecks.j0 kq t495 t498 t501 x25_6 a2_0 a2_1 a2_2 a2_3 a2_4 a2_5 a2_6 = some r) ∧ Aside0 (kq ≤ k) ∧ Aside0 (Kd.R k31 31 wc w.heap.size (fun k_ => some k_ ≠ ((.slice Ao13 t498.length co13) : Value).ownBlock) (.slice Ao12 t495.length co12) t495) ∧ Aside0 (Kd.R k31 31 wc w.heap.size (fun k_ => some k_ ≠ ((.slice Ao12 t495.length co12) : Value).ownBlock) (.slice Ao13 t498.length co13) t498) ∧ Aside0 (wc.heap[gb494]? = some (.cells #[.bool a2_0, .int .i64 a2_1, .int .i64 a2_2, .int .i64 a2_3, .int .i64 a2_4, .int .i64 a2_5, .int .i64 a2_6] 44 (0, 0))) ∧ Aside0 (Below w.heap.size w wc))
 case first =>
  have H := HC7.out
  clear HC7
  replace H := Option.bind_eq_some_iff.mp H
  obtain ⟨t502, A150, H⟩ := H
  replace H : (if t502 = true then ((silversideref01_Set.f k t498).bind fun t503 => (silversidelaw01_PlaneChecks.j0 k t495 t498 t501 (!t503) a2_0 a2_1 a2_2 a2_3 a2_4 a2_5 a2_6)) else (silversidelaw01_PlaneChecks.j0 k t495 t498 t501 true a2_0 a2_1 a2_2 a2_3 a2_4 a2_5 a2_6)) = some r := H
  have A15 := Aside0.mk A150
  clear A150
  by_cases c16 : t502 = true
  ·subst c16
   have H1 : ((silversideref01_Set.f k t498).bind fun t503 => (silversidelaw01_PlaneChecks.j0 k t495 t498 t501 (!t503) a2_0 a2_1 a2_2 a2_3 a2_4 a2_5 a2_6)) = some r := by rw [if_pos rfl] at H; exact H
   clear H
   have H := H1
   clear H1
   replace H := Option.bind_eq_some_iff.mp H
   obtain ⟨t503, A170, H⟩ := H
   replace H : (silversidelaw01_PlaneChecks.j0 k t495 t498 t501 (!t503) a2_0 a2_1 a2_2 a2_3 a2_4 a2_5 a2_6) = some r := H
   have A17 := Aside0.mk A170
   clear A170
   have H' := Aside0.mk H
   clear H
   go_wp2_with (first | ((with_reducible refine gate_callee (f := 33) rfl ?_); refine goesL_ (some 19) rfl rfl Try.func33 (by kernel_rfl) rfl #[.slice Ao12 t495.length co12] rfl (by (try simp only [List.map_toArray, List.map_cons, List.map_nil]); first | done | rfl | (simp only [List.length_drop, List.length_take]; rfl)) ?_; (with_reducible refine (silversideref01_Set.calls k _ _ t495 true _ ?side1 ?side2 A15.out).mono ?_); (case side1 => repeat (first | exact (Kd.R_reads' HO497.out).2.2 | (with_reducible refine Kd.C_alloc ?_ _) | (with_reducible refine Kd.C_drewN ?_ _) | (with_reducible refine Kd.C_drew ?_))); (case side2 => exact (Kd.R_reads' HO497.out).2.1); rintro e w18 ⟨rfl, hb⟩; refine ⟨_, rfl, ?_⟩; have n0_ := Aside0.mk (Kd.R_below (by (with_reducible repeat (first | apply Kd.R_alloc | apply Kd.R_drewN | apply Kd.R_drew)); exact HO497.out) hb); have n1_ := Aside0.mk (Kd.R_below (by (with_reducible repeat (first | apply Kd.R_alloc | apply Kd.R_drewN | apply Kd.R_drew)); exact HO500.out) hb); have n2_ := Aside0.mk (blk_below (g := gb494) (o := .cells #[.bool a2_0, .int .i64 a2_1, .int .i64 a2_2, .int .i64 a2_3, .int .i64 a2_4, .int .i64 a2_5, .int .i64 a2_6] 44 (0, 0)) (kX BK494.out) hb); have n3_ := Aside0.mk (below_step (by repeat (first | (with_reducible first | exact HB.out | apply lA | apply lN | apply lD | refine lS ?_ GE494.out) | exact HB.out)) hb); clear HO497; clear HO500; clear BK494; clear HB; have HO497 := n0_; have HO500 := n1_; have BK494 := n2_; have HB := n3_; clear n0_ n1_ n2_ n3_; (try clear hb); (try clear hb2); (try clear hk); (try clear hi)) | (go_at_call 33; (with_reducible refine (silversideref01_Set.calls k _ _ t498 t503 _ ?side1 ?side2 A17.out).mono ?_); (case side1 => repeat (first | exact (Kd.R_reads' HO500.out).2.2 | (with_reducible refine Kd.C_alloc ?_ _) | (with_reducible refine Kd.C_drewN ?_ _) | (with_reducible refine Kd.C_drew ?_))); (case side2 => exact (Kd.R_reads' HO500.out).2.1); rintro e w19 ⟨rfl, hb⟩; have n0_ := Aside0.mk (Kd.R_below (by (with_reducible repeat (first | apply Kd.R_alloc | apply Kd.R_drewN | apply Kd.R_drew)); exact HO497.out) hb); have n1_ := Aside0.mk (Kd.R_below (by (with_reducible repeat (first | apply Kd.R_alloc | apply Kd.R_drewN | apply Kd.R_drew)); exact HO500.out) hb); have n2_ := Aside0.mk (blk_below (g := gb494) (o := .cells #[.bool a2_0, .int .i64 a2_1, .int .i64 a2_2, .int .i64 a2_3, .int .i64 a2_4, .int .i64 a2_5, .int .i64 a2_6] 44 (0, 0)) (kX BK494.out) hb); have n3_ := Aside0.mk (below_step (by repeat (first | (with_reducible first | exact HB.out | apply lA | apply lN | apply lD | refine lS ?_ GE494.out) | exact HB.out)) hb); clear HO497; clear HO500; clear BK494; clear HB; have HO497 := n0_; have HO500 := n1_; have BK494 := n2_; have HB := n3_; clear n0_ n1_ n2_ n3_; (try clear hb); (try clear hb2); (try clear hk); (try clear hi)))
   go_meet
   case rel => exact ⟨_, (!t503), (by first | rfl | (simp; done) | (simp [*]; done)), H', ⟨by first | omega | exact Nat.le_refl _⟩, ⟨by (with_reducible repeat (first | apply Kd.R_alloc | apply Kd.R_drewN | apply Kd.R_drew)); exact Kd.R_mono HO497.out (fun _ hk => hk.2)⟩, ⟨by (with_reducible repeat (first | apply Kd.R_alloc | apply Kd.R_drewN | apply Kd.R_drew)); exact Kd.R_mono HO500.out (fun _ hk => hk.2)⟩, ⟨by (with_reducible repeat (first | refine kN ?_ _ | refine kD ?_ | refine kA ?_ _)); exact BK494.out⟩, ⟨by repeat (first | (with_reducible first | exact HB.out | apply lA | apply lN | apply lD | refine lS ?_ GE494.out) | exact HB.out)⟩⟩
  replace c16 := Bool.eq_false_iff.mpr c16
  subst c16
  have H1 : (silversidelaw01_PlaneChecks.j0 k t495 t498 t501 true a2_0 a2_1 a2_2 a2_3 a2_4 a2_5 a2_6) = some r := by rw [if_neg (show ¬ (false = true) by decide)] at H; exact H
  clear H
  have H := H1
  clear H1
  have H' := Aside0.mk H
  clear H
  go_wp2_with (first | ((with_reducible refine gate_callee (f := 33) rfl ?_); refine goesL_ (some 19) rfl rfl Try.func33 (by kernel_rfl) rfl #[.slice Ao12 t495.length co12] rfl (by (try simp only [List.map_toArray, List.map_cons, List.map_nil]); first | done | rfl | (simp only [List.length_drop, List.length_take]; rfl)) ?_; (with_reducible refine (silversideref01_Set.calls k _ _ t495 false _ ?side1 ?side2 A15.out).mono ?_); (case side1 => repeat (first | exact (Kd.R_reads' HO497.out).2.2 | (with_reducible refine Kd.C_alloc ?_ _) | (with_reducible refine Kd.C_drewN ?_ _) | (with_reducible refine Kd.C_drew ?_))); (case side2 => exact (Kd.R_reads' HO497.out).2.1); rintro e w20 ⟨rfl, hb⟩; refine ⟨_, rfl, ?_⟩; have n0_ := Aside0.mk (Kd.R_below (by (with_reducible repeat (first | apply Kd.R_alloc | apply Kd.R_drewN | apply Kd.R_drew)); exact HO497.out) hb); have n1_ := Aside0.mk (Kd.R_below (by (with_reducible repeat (first | apply Kd.R_alloc | apply Kd.R_drewN | apply Kd.R_drew)); exact HO500.out) hb); have n2_ := Aside0.mk (blk_below (g := gb494) (o := .cells #[.bool a2_0, .int .i64 a2_1, .int .i64 a2_2, .int .i64 a2_3, .int .i64 a2_4, .int .i64 a2_5, .int .i64 a2_6] 44 (0, 0)) (kX BK494.out) hb); have n3_ := Aside0.mk (below_step (by repeat (first | (with_reducible first | exact HB.out | apply lA | apply lN | apply lD | refine lS ?_ GE494.out) | exact HB.out)) hb); clear HO497; clear HO500; clear BK494; clear HB; have HO497 := n0_; have HO500 := n1_; have BK494 := n2_; have HB := n3_; clear n0_ n1_ n2_ n3_; (try clear hb); (try clear hb2); (try clear hk); (try clear hi)))
  go_meet
  case rel => exact ⟨_, (true), (by first | rfl | (simp; done) | (simp [*]; done)), H', ⟨by first | omega | exact Nat.le_refl _⟩, ⟨by (with_reducible repeat (first | apply Kd.R_alloc | apply Kd.R_drewN | apply Kd.R_drew)); exact Kd.R_mono HO497.out (fun _ hk => hk.2)⟩, ⟨by (with_reducible repeat (first | apply Kd.R_alloc | apply Kd.R_drewN | apply Kd.R_drew)); exact Kd.R_mono HO500.out (fun _ hk => hk.2)⟩, ⟨by (with_reducible repeat (first | refine kN ?_ _ | refine kD ?_ | refine kA ?_ _)); exact BK494.out⟩, ⟨by repeat (first | (with_reducible first | exact HB.out | apply lA | apply lN | apply lD | refine lS ?_ GE494.out) | exact HB.out)⟩⟩
 case rest =>
  clear HC7
  try clear c1
  try clear c2
  try clear p2
  try clear c3
  try clear c11
  try clear c16
  try clear c20
  try clear hcz11_0
  try clear hcz11_1
  try clear hcz11_2
  try clear hcz11_3
  try clear hcz11_4
  try clear hcz11_5
  try clear hcz11_6
  try clear hfz11_0
  try clear hfz11_1
  try clear hfz11_2
  try clear hfz11_3
  try clear hfz11_4
  try clear hfz11_5
  try clear hfz11_6
  obtain ⟨kq, x25_6, rfl, HA, HJ6, HO_7, HO_8, BK494, HB⟩ := hcut
  cases kq with
  | zero => exact absurd HA.out (by simp [silversidelaw01_PlaneChecks.j0])
  | succ kj6 =>
   have H := HA.out
   clear HA
   simp only [silversidelaw01_PlaneChecks.j0] at H
   by_cases c21 : x25_6 = true
   ·subst c21
    have H1 : (if t501 = 2 then ((silversidelaw01_awake.f kj6).bind fun t504 => (some t504)) else (some false)) = some r := by rw [if_pos rfl] at H; exact H
    clear H
    have H := H1
    clear H1
    by_cases c22 : t501 = 2
    ·rw [if_pos c22] at H
     have c22b0 : (t501 == 2) = true := beq_iff_eq.mpr c22
     have c22b1 : (t501 != 2) = false := bne_eq_false_iff_eq.mpr c22
     clear c22
     replace H := Option.bind_eq_some_iff.mp H
     obtain ⟨t504, A230, H⟩ := H
     replace H : (some t504) = some r := H
     have A23 := Aside0.mk A230
     clear A230
     obtain rfl := Option.some.inj H
     go_wp2_with (first | (go_at_call 23; (with_reducible refine (silversidelaw01_awake.calls kj6  t504 _ A23.out).mono ?_); rintro e w24 ⟨rfl, hb⟩; have n0_ := Aside0.mk (Kd.R_below (by (with_reducible repeat (first | apply Kd.R_alloc | apply Kd.R_drewN | apply Kd.R_drew)); exact HO_7.out) hb); have n1_ := Aside0.mk (Kd.R_below (by (with_reducible repeat (first | apply Kd.R_alloc | apply Kd.R_drewN | apply Kd.R_drew)); exact HO_8.out) hb); have n2_ := Aside0.mk (blk_below (g := gb494) (o := .cells #[.bool a2_0, .int .i64 a2_1, .int .i64 a2_2, .int .i64 a2_3, .int .i64 a2_4, .int .i64 a2_5, .int .i64 a2_6] 44 (0, 0)) (kX BK494.out) hb); have n3_ := Aside0.mk (below_step (by repeat (first | (with_reducible first | exact HB.out | apply lA | apply lN | apply lD | refine lS ?_ GE494.out) | exact HB.out)) hb); clear HO_7; clear HO_8; clear BK494; clear HB; have HO_7 := n0_; have HO_8 := n1_; have BK494 := n2_; have HB := n3_; clear n0_ n1_ n2_ n3_; (try clear hb); (try clear hb2); (try clear hk); (try clear hi)))
     go_ret
     exact ⟨by first | rfl | (simp [errW_none, errW_some] <;> rfl) | (simp [*, errW_none, errW_some] <;> rfl), by repeat (first | (with_reducible first | exact HB.out | apply lA | apply lN | apply lD | refine lS ?_ GE494.out) | exact HB.out)⟩
    ·rw [if_neg c22] at H
     have c22b0 : (t501 == 2) = false := beq_eq_false_iff_ne.mpr c22
     have c22b1 : (t501 != 2) = true := bne_iff_ne.mpr c22
     obtain rfl := Option.some.inj H
     go_wp2
     go_ret
     exact ⟨by first | rfl | (simp [errW_none, errW_some] <;> rfl) | (simp [*, errW_none, errW_some] <;> rfl), by repeat (first | (with_reducible first | exact HB.out | apply lA | apply lN | apply lD | refine lS ?_ GE494.out) | exact HB.out)⟩
   ·replace c21 := Bool.eq_false_iff.mpr c21
    subst c21
    have H1 : ((silversideref01_Right.f t495 t498 a2_0 a2_1 a2_2 a2_3 a2_4 a2_5 a2_6).bind fun t505 => (if t505 = true then (if t501 = 0 then ((silversidelaw01_awake.f kj6).bind fun t506 => (some t506)) else (some false)) else (if t501 = 10 then ((silversidelaw01_awake.f kj6).bind fun t507 => (some t507)) else (some false)))) = some r := by rw [if_neg (show ¬ (false = true) by decide)] at H; exact H
    clear H
    have H := H1
    clear H1
    replace H := Option.bind_eq_some_iff.mp H
    obtain ⟨t505, A250, H⟩ := H
    replace H : (if t505 = true then (if t501 = 0 then ((silversidelaw01_awake.f kj6).bind fun t506 => (some t506)) else (some false)) else (if t501 = 10 then ((silversidelaw01_awake.f kj6).bind fun t507 => (some t507)) else (some false))) = some r := H
    have A25 := Aside0.mk A250
    clear A250
    by_cases c26 : t505 = true
    ·subst c26
     have H1 : (if t501 = 0 then ((silversidelaw01_awake.f kj6).bind fun t506 => (some t506)) else (some false)) = some r := by rw [if_pos rfl] at H; exact H
     clear H
     have H := H1
     clear H1
     by_cases c27 : t501 = 0
     ·rw [if_pos c27] at H
      have c27b0 : (t501 == 0) = true := beq_iff_eq.mpr c27
      have c27b1 : (t501 != 0) = false := bne_eq_false_iff_eq.mpr c27
      clear c27
      replace H := Option.bind_eq_some_iff.mp H
      obtain ⟨t506, A280, H⟩ := H
      replace H : (some t506) = some r := H
      have A28 := Aside0.mk A280
      clear A280
      obtain rfl := Option.some.inj H
      have hcz29_0 : wc.cell? ⟨gb494, 0, none⟩ = some (.bool a2_0) := (blk_cell BK494.out 0).trans rfl
      have hcz29_1 : wc.cell? ⟨gb494, 1, none⟩ = some (.int .i64 a2_1) := (blk_cell BK494.out 1).trans rfl
      have hcz29_2 : wc.cell? ⟨gb494, 2, none⟩ = some (.int .i64 a2_2) := (blk_cell BK494.out 2).trans rfl
      have hcz29_3 : wc.cell? ⟨gb494, 3, none⟩ = some (.int .i64 a2_3) := (blk_cell BK494.out 3).trans rfl
      have hcz29_4 : wc.cell? ⟨gb494, 4, none⟩ = some (.int .i64 a2_4) := (blk_cell BK494.out 4).trans rfl
      have hcz29_5 : wc.cell? ⟨gb494, 5, none⟩ = some (.int .i64 a2_5) := (blk_cell BK494.out 5).trans rfl
      have hcz29_6 : wc.cell? ⟨gb494, 6, none⟩ = some (.int .i64 a2_6) := (blk_cell BK494.out 6).trans rfl
      have hfz29_0 := blk_frozen BK494.out 0
      have hfz29_1 := blk_frozen BK494.out 1
      have hfz29_2 := blk_frozen BK494.out 2
      have hfz29_3 := blk_frozen BK494.out 3
      have hfz29_4 := blk_frozen BK494.out 4
      have hfz29_5 := blk_frozen BK494.out 5
      have hfz29_6 := blk_frozen BK494.out 6
      go_wp2_with (first | ((with_reducible refine gate_callee (f := 40) rfl ?_); refine goesL_ (some 34) rfl rfl Try.func40 (by kernel_rfl) rfl #[.slice Ao12 t495.length co12, .slice Ao13 t498.length co13, .agg #[.bool a2_0, .int .i64 a2_1, .int .i64 a2_2, .int .i64 a2_3, .int .i64 a2_4, .int .i64 a2_5, .int .i64 a2_6]] rfl (by (try simp only [List.map_toArray, List.map_cons, List.map_nil]); first | done | rfl | (simp only [List.length_drop, List.length_take]; rfl)) ?_; (with_reducible refine (silversideref01_Right.calls _ _ t495 _ _ t498 a2_0 a2_1 a2_2 a2_3 a2_4 a2_5 a2_6 true _ ?side1 ?side2 ?side3 ?side4 A25.out).mono ?_); (case side1 => repeat (first | exact (Kd.R_reads' HO_7.out).2.2 | (with_reducible refine Kd.C_alloc ?_ _) | (with_reducible refine Kd.C_drewN ?_ _) | (with_reducible refine Kd.C_drew ?_))); (case side2 => exact (Kd.R_reads' HO_7.out).2.1); (case side3 => repeat (first | exact (Kd.R_reads' HO_8.out).2.2 | (with_reducible refine Kd.C_alloc ?_ _) | (with_reducible refine Kd.C_drewN ?_ _) | (with_reducible refine Kd.C_drew ?_))); (case side4 => exact (Kd.R_reads' HO_8.out).2.1); rintro e w30 ⟨rfl, hb⟩; refine ⟨_, rfl, ?_⟩; have n0_ := Aside0.mk (Kd.R_below (by (with_reducible repeat (first | apply Kd.R_alloc | apply Kd.R_drewN | apply Kd.R_drew)); exact HO_7.out) hb); have n1_ := Aside0.mk (Kd.R_below (by (with_reducible repeat (first | apply Kd.R_alloc | apply Kd.R_drewN | apply Kd.R_drew)); exact HO_8.out) hb); have n2_ := Aside0.mk (blk_below (g := gb494) (o := .cells #[.bool a2_0, .int .i64 a2_1, .int .i64 a2_2, .int .i64 a2_3, .int .i64 a2_4, .int .i64 a2_5, .int .i64 a2_6] 44 (0, 0)) (kX BK494.out) hb); have n3_ := Aside0.mk (below_step (by repeat (first | (with_reducible first | exact HB.out | apply lA | apply lN | apply lD | refine lS ?_ GE494.out) | exact HB.out)) hb); clear HO_7; clear HO_8; clear BK494; clear HB; have HO_7 := n0_; have HO_8 := n1_; have BK494 := n2_; have HB := n3_; clear n0_ n1_ n2_ n3_; (try clear hb); (try clear hb2); (try clear hk); (try clear hi)) | (go_at_call 23; (with_reducible refine (silversidelaw01_awake.calls kj6  t506 _ A28.out).mono ?_); rintro e w31 ⟨rfl, hb⟩; have n0_ := Aside0.mk (Kd.R_below (by (with_reducible repeat (first | apply Kd.R_alloc | apply Kd.R_drewN | apply Kd.R_drew)); exact HO_7.out) hb); have n1_ := Aside0.mk (Kd.R_below (by (with_reducible repeat (first | apply Kd.R_alloc | apply Kd.R_drewN | apply Kd.R_drew)); exact HO_8.out) hb); have n2_ := Aside0.mk (blk_below (g := gb494) (o := .cells #[.bool a2_0, .int .i64 a2_1, .int .i64 a2_2, .int .i64 a2_3, .int .i64 a2_4, .int .i64 a2_5, .int .i64 a2_6] 44 (0, 0)) (kX BK494.out) hb); have n3_ := Aside0.mk (below_step (by repeat (first | (with_reducible first | exact HB.out | apply lA | apply lN | apply lD | refine lS ?_ GE494.out) | exact HB.out)) hb); clear HO_7; clear HO_8; clear BK494; clear HB; have HO_7 := n0_; have HO_8 := n1_; have BK494 := n2_; have HB := n3_; clear n0_ n1_ n2_ n3_; (try clear hb); (try clear hb2); (try clear hk); (try clear hi)))
      go_ret
      exact ⟨by first | rfl | (simp [errW_none, errW_some] <;> rfl) | (simp [*, errW_none, errW_some] <;> rfl), by repeat (first | (with_reducible first | exact HB.out | apply lA | apply lN | apply lD | refine lS ?_ GE494.out) | exact HB.out)⟩
     ·rw [if_neg c27] at H
      have c27b0 : (t501 == 0) = false := beq_eq_false_iff_ne.mpr c27
      have c27b1 : (t501 != 0) = true := bne_iff_ne.mpr c27
      obtain rfl := Option.some.inj H
      have hcz32_0 : wc.cell? ⟨gb494, 0, none⟩ = some (.bool a2_0) := (blk_cell BK494.out 0).trans rfl
      have hcz32_1 : wc.cell? ⟨gb494, 1, none⟩ = some (.int .i64 a2_1) := (blk_cell BK494.out 1).trans rfl
      have hcz32_2 : wc.cell? ⟨gb494, 2, none⟩ = some (.int .i64 a2_2) := (blk_cell BK494.out 2).trans rfl
      have hcz32_3 : wc.cell? ⟨gb494, 3, none⟩ = some (.int .i64 a2_3) := (blk_cell BK494.out 3).trans rfl
      have hcz32_4 : wc.cell? ⟨gb494, 4, none⟩ = some (.int .i64 a2_4) := (blk_cell BK494.out 4).trans rfl
      have hcz32_5 : wc.cell? ⟨gb494, 5, none⟩ = some (.int .i64 a2_5) := (blk_cell BK494.out 5).trans rfl
      have hcz32_6 : wc.cell? ⟨gb494, 6, none⟩ = some (.int .i64 a2_6) := (blk_cell BK494.out 6).trans rfl
      have hfz32_0 := blk_frozen BK494.out 0
      have hfz32_1 := blk_frozen BK494.out 1
      have hfz32_2 := blk_frozen BK494.out 2
      have hfz32_3 := blk_frozen BK494.out 3
      have hfz32_4 := blk_frozen BK494.out 4
      have hfz32_5 := blk_frozen BK494.out 5
      have hfz32_6 := blk_frozen BK494.out 6
      go_wp2_with (first | ((with_reducible refine gate_callee (f := 40) rfl ?_); refine goesL_ (some 34) rfl rfl Try.func40 (by kernel_rfl) rfl #[.slice Ao12 t495.length co12, .slice Ao13 t498.length co13, .agg #[.bool a2_0, .int .i64 a2_1, .int .i64 a2_2, .int .i64 a2_3, .int .i64 a2_4, .int .i64 a2_5, .int .i64 a2_6]] rfl (by (try simp only [List.map_toArray, List.map_cons, List.map_nil]); first | done | rfl | (simp only [List.length_drop, List.length_take]; rfl)) ?_; (with_reducible refine (silversideref01_Right.calls _ _ t495 _ _ t498 a2_0 a2_1 a2_2 a2_3 a2_4 a2_5 a2_6 true _ ?side1 ?side2 ?side3 ?side4 A25.out).mono ?_); (case side1 => repeat (first | exact (Kd.R_reads' HO_7.out).2.2 | (with_reducible refine Kd.C_alloc ?_ _) | (with_reducible refine Kd.C_drewN ?_ _) | (with_reducible refine Kd.C_drew ?_))); (case side2 => exact (Kd.R_reads' HO_7.out).2.1); (case side3 => repeat (first | exact (Kd.R_reads' HO_8.out).2.2 | (with_reducible refine Kd.C_alloc ?_ _) | (with_reducible refine Kd.C_drewN ?_ _) | (with_reducible refine Kd.C_drew ?_))); (case side4 => exact (Kd.R_reads' HO_8.out).2.1); rintro e w33 ⟨rfl, hb⟩; refine ⟨_, rfl, ?_⟩; have n0_ := Aside0.mk (Kd.R_below (by (with_reducible repeat (first | apply Kd.R_alloc | apply Kd.R_drewN | apply Kd.R_drew)); exact HO_7.out) hb); have n1_ := Aside0.mk (Kd.R_below (by (with_reducible repeat (first | apply Kd.R_alloc | apply Kd.R_drewN | apply Kd.R_drew)); exact HO_8.out) hb); have n2_ := Aside0.mk (blk_below (g := gb494) (o := .cells #[.bool a2_0, .int .i64 a2_1, .int .i64 a2_2, .int .i64 a2_3, .int .i64 a2_4, .int .i64 a2_5, .int .i64 a2_6] 44 (0, 0)) (kX BK494.out) hb); have n3_ := Aside0.mk (below_step (by repeat (first | (with_reducible first | exact HB.out | apply lA | apply lN | apply lD | refine lS ?_ GE494.out) | exact HB.out)) hb); clear HO_7; clear HO_8; clear BK494; clear HB; have HO_7 := n0_; have HO_8 := n1_; have BK494 := n2_; have HB := n3_; clear n0_ n1_ n2_ n3_; (try clear hb); (try clear hb2); (try clear hk); (try clear hi)))
      go_ret
      exact ⟨by first | rfl | (simp [errW_none, errW_some] <;> rfl) | (simp [*, errW_none, errW_some] <;> rfl), by repeat (first | (with_reducible first | exact HB.out | apply lA | apply lN | apply lD | refine lS ?_ GE494.out) | exact HB.out)⟩
    ·replace c26 := Bool.eq_false_iff.mpr c26
     subst c26
     have H1 : (if t501 = 10 then ((silversidelaw01_awake.f kj6).bind fun t507 => (some t507)) else (some false)) = some r := by rw [if_neg (show ¬ (false = true) by decide)] at H; exact H
     clear H
     have H := H1
     clear H1
     by_cases c34 : t501 = 10
     ·rw [if_pos c34] at H
      have c34b0 : (t501 == 10) = true := beq_iff_eq.mpr c34
      have c34b1 : (t501 != 10) = false := bne_eq_false_iff_eq.mpr c34
      clear c34
      replace H := Option.bind_eq_some_iff.mp H
      obtain ⟨t507, A350, H⟩ := H
      replace H : (some t507) = some r := H
      have A35 := Aside0.mk A350
      clear A350
      obtain rfl := Option.some.inj H
      have hcz36_0 : wc.cell? ⟨gb494, 0, none⟩ = some (.bool a2_0) := (blk_cell BK494.out 0).trans rfl
      have hcz36_1 : wc.cell? ⟨gb494, 1, none⟩ = some (.int .i64 a2_1) := (blk_cell BK494.out 1).trans rfl
      have hcz36_2 : wc.cell? ⟨gb494, 2, none⟩ = some (.int .i64 a2_2) := (blk_cell BK494.out 2).trans rfl
      have hcz36_3 : wc.cell? ⟨gb494, 3, none⟩ = some (.int .i64 a2_3) := (blk_cell BK494.out 3).trans rfl
      have hcz36_4 : wc.cell? ⟨gb494, 4, none⟩ = some (.int .i64 a2_4) := (blk_cell BK494.out 4).trans rfl
      have hcz36_5 : wc.cell? ⟨gb494, 5, none⟩ = some (.int .i64 a2_5) := (blk_cell BK494.out 5).trans rfl
      have hcz36_6 : wc.cell? ⟨gb494, 6, none⟩ = some (.int .i64 a2_6) := (blk_cell BK494.out 6).trans rfl
      have hfz36_0 := blk_frozen BK494.out 0
      have hfz36_1 := blk_frozen BK494.out 1
      have hfz36_2 := blk_frozen BK494.out 2
      have hfz36_3 := blk_frozen BK494.out 3
      have hfz36_4 := blk_frozen BK494.out 4
      have hfz36_5 := blk_frozen BK494.out 5
      have hfz36_6 := blk_frozen BK494.out 6
      go_wp2_with (first | ((with_reducible refine gate_callee (f := 40) rfl ?_); refine goesL_ (some 34) rfl rfl Try.func40 (by kernel_rfl) rfl #[.slice Ao12 t495.length co12, .slice Ao13 t498.length co13, .agg #[.bool a2_0, .int .i64 a2_1, .int .i64 a2_2, .int .i64 a2_3, .int .i64 a2_4, .int .i64 a2_5, .int .i64 a2_6]] rfl (by (try simp only [List.map_toArray, List.map_cons, List.map_nil]); first | done | rfl | (simp only [List.length_drop, List.length_take]; rfl)) ?_; (with_reducible refine (silversideref01_Right.calls _ _ t495 _ _ t498 a2_0 a2_1 a2_2 a2_3 a2_4 a2_5 a2_6 false _ ?side1 ?side2 ?side3 ?side4 A25.out).mono ?_); (case side1 => repeat (first | exact (Kd.R_reads' HO_7.out).2.2 | (with_reducible refine Kd.C_alloc ?_ _) | (with_reducible refine Kd.C_drewN ?_ _) | (with_reducible refine Kd.C_drew ?_))); (case side2 => exact (Kd.R_reads' HO_7.out).2.1); (case side3 => repeat (first | exact (Kd.R_reads' HO_8.out).2.2 | (with_reducible refine Kd.C_alloc ?_ _) | (with_reducible refine Kd.C_drewN ?_ _) | (with_reducible refine Kd.C_drew ?_))); (case side4 => exact (Kd.R_reads' HO_8.out).2.1); rintro e w37 ⟨rfl, hb⟩; refine ⟨_, rfl, ?_⟩; have n0_ := Aside0.mk (Kd.R_below (by (with_reducible repeat (first | apply Kd.R_alloc | apply Kd.R_drewN | apply Kd.R_drew)); exact HO_7.out) hb); have n1_ := Aside0.mk (Kd.R_below (by (with_reducible repeat (first | apply Kd.R_alloc | apply Kd.R_drewN | apply Kd.R_drew)); exact HO_8.out) hb); have n2_ := Aside0.mk (blk_below (g := gb494) (o := .cells #[.bool a2_0, .int .i64 a2_1, .int .i64 a2_2, .int .i64 a2_3, .int .i64 a2_4, .int .i64 a2_5, .int .i64 a2_6] 44 (0, 0)) (kX BK494.out) hb); have n3_ := Aside0.mk (below_step (by repeat (first | (with_reducible first | exact HB.out | apply lA | apply lN | apply lD | refine lS ?_ GE494.out) | exact HB.out)) hb); clear HO_7; clear HO_8; clear BK494; clear HB; have HO_7 := n0_; have HO_8 := n1_; have BK494 := n2_; have HB := n3_; clear n0_ n1_ n2_ n3_; (try clear hb); (try clear hb2); (try clear hk); (try clear hi)) | (go_at_call 23; (with_reducible refine (silversidelaw01_awake.calls kj6  t507 _ A35.out).mono ?_); rintro e w38 ⟨rfl, hb⟩; have n0_ := Aside0.mk (Kd.R_below (by (with_reducible repeat (first | apply Kd.R_alloc | apply Kd.R_drewN | apply Kd.R_drew)); exact HO_7.out) hb); have n1_ := Aside0.mk (Kd.R_below (by (with_reducible repeat (first | apply Kd.R_alloc | apply Kd.R_drewN | apply Kd.R_drew)); exact HO_8.out) hb); have n2_ := Aside0.mk (blk_below (g := gb494) (o := .cells #[.bool a2_0, .int .i64 a2_1, .int .i64 a2_2, .int .i64 a2_3, .int .i64 a2_4, .int .i64 a2_5, .int .i64 a2_6] 44 (0, 0)) (kX BK494.out) hb); have n3_ := Aside0.mk (below_step (by repeat (first | (with_reducible first | exact HB.out | apply lA | apply lN | apply lD | refine lS ?_ GE494.out) | exact HB.out)) hb); clear HO_7; clear HO_8; clear BK494; clear HB; have HO_7 := n0_; have HO_8 := n1_; have BK494 := n2_; have HB := n3_; clear n0_ n1_ n2_ n3_; (try clear hb); (try clear hb2); (try clear hk); (try clear hi)))
      go_ret
      exact ⟨by first | rfl | (simp [errW_none, errW_some] <;> rfl) | (simp [*, errW_none, errW_some] <;> rfl), by repeat (first | (with_reducible first | exact HB.out | apply lA | apply lN | apply lD | refine lS ?_ GE494.out) | exact HB.out)⟩
     ·rw [if_neg c34] at H
      have c34b0 : (t501 == 10) = false := beq_eq_false_iff_ne.mpr c34
      have c34b1 : (t501 != 10) = true := bne_iff_ne.mpr c34
      obtain rfl := Option.some.inj H
      have hcz39_0 : wc.cell? ⟨gb494, 0, none⟩ = some (.bool a2_0) := (blk_cell BK494.out 0).trans rfl
      have hcz39_1 : wc.cell? ⟨gb494, 1, none⟩ = some (.int .i64 a2_1) := (blk_cell BK494.out 1).trans rfl
      have hcz39_2 : wc.cell? ⟨gb494, 2, none⟩ = some (.int .i64 a2_2) := (blk_cell BK494.out 2).trans rfl
      have hcz39_3 : wc.cell? ⟨gb494, 3, none⟩ = some (.int .i64 a2_3) := (blk_cell BK494.out 3).trans rfl
      have hcz39_4 : wc.cell? ⟨gb494, 4, none⟩ = some (.int .i64 a2_4) := (blk_cell BK494.out 4).trans rfl
      have hcz39_5 : wc.cell? ⟨gb494, 5, none⟩ = some (.int .i64 a2_5) := (blk_cell BK494.out 5).trans rfl
      have hcz39_6 : wc.cell? ⟨gb494, 6, none⟩ = some (.int .i64 a2_6) := (blk_cell BK494.out 6).trans rfl
      have hfz39_0 := blk_frozen BK494.out 0
      have hfz39_1 := blk_frozen BK494.out 1
      have hfz39_2 := blk_frozen BK494.out 2
      have hfz39_3 := blk_frozen BK494.out 3
      have hfz39_4 := blk_frozen BK494.out 4
      have hfz39_5 := blk_frozen BK494.out 5
      have hfz39_6 := blk_frozen BK494.out 6
      go_wp2_with (first | ((with_reducible refine gate_callee (f := 40) rfl ?_); refine goesL_ (some 34) rfl rfl Try.func40 (by kernel_rfl) rfl #[.slice Ao12 t495.length co12, .slice Ao13 t498.length co13, .agg #[.bool a2_0, .int .i64 a2_1, .int .i64 a2_2, .int .i64 a2_3, .int .i64 a2_4, .int .i64 a2_5, .int .i64 a2_6]] rfl (by (try simp only [List.map_toArray, List.map_cons, List.map_nil]); first | done | rfl | (simp only [List.length_drop, List.length_take]; rfl)) ?_; (with_reducible refine (silversideref01_Right.calls _ _ t495 _ _ t498 a2_0 a2_1 a2_2 a2_3 a2_4 a2_5 a2_6 false _ ?side1 ?side2 ?side3 ?side4 A25.out).mono ?_); (case side1 => repeat (first | exact (Kd.R_reads' HO_7.out).2.2 | (with_reducible refine Kd.C_alloc ?_ _) | (with_reducible refine Kd.C_drewN ?_ _) | (with_reducible refine Kd.C_drew ?_))); (case side2 => exact (Kd.R_reads' HO_7.out).2.1); (case side3 => repeat (first | exact (Kd.R_reads' HO_8.out).2.2 | (with_reducible refine Kd.C_alloc ?_ _) | (with_reducible refine Kd.C_drewN ?_ _) | (with_reducible refine Kd.C_drew ?_))); (case side4 => exact (Kd.R_reads' HO_8.out).2.1); rintro e w40 ⟨rfl, hb⟩; refine ⟨_, rfl, ?_⟩; have n0_ := Aside0.mk (Kd.R_below (by (with_reducible repeat (first | apply Kd.R_alloc | apply Kd.R_drewN | apply Kd.R_drew)); exact HO_7.out) hb); have n1_ := Aside0.mk (Kd.R_below (by (with_reducible repeat (first | apply Kd.R_alloc | apply Kd.R_drewN | apply Kd.R_drew)); exact HO_8.out) hb); have n2_ := Aside0.mk (blk_below (g := gb494) (o := .cells #[.bool a2_0, .int .i64 a2_1, .int .i64 a2_2, .int .i64 a2_3, .int .i64 a2_4, .int .i64 a2_5, .int .i64 a2_6] 44 (0, 0)) (kX BK494.out) hb); have n3_ := Aside0.mk (below_step (by repeat (first | (with_reducible first | exact HB.out | apply lA | apply lN | apply lD | refine lS ?_ GE494.out) | exact HB.out)) hb); clear HO_7; clear HO_8; clear BK494; clear HB; have HO_7 := n0_; have HO_8 := n1_; have BK494 := n2_; have HB := n3_; clear n0_ n1_ n2_ n3_; (try clear hb); (try clear hb2); (try clear hk); (try clear hi)))
      go_ret
      exact ⟨by first | rfl | (simp [errW_none, errW_some] <;> rfl) | (simp [*, errW_none, errW_some] <;> rfl), by repeat (first | (with_reducible first | exact HB.out | apply lA | apply lN | apply lD | refine lS ?_ GE494.out) | exact HB.out)⟩

end Go.Proofs.Ythaklbjcjoolcaa.P
namespace Go.Proofs.Ythaklbjcjoolcaa.P
open Go.RowKit Go.Proofs.YthaklbjcjoolcaaW.PrintWords Go.Proofs.YthaklbjcjoolcaaW.PrintLast
/-- Check's answer -/
def checkV (a b : List S31) (m : Bool) (x y d u v t : Int) : Int := if isSetB a = true ∧ isSetB b = true then (if rightB a b m x y d u v t = true then 0 else 10) else 2
theorem check_ev (a b : List S31) (m : Bool) (x y d u v t : Int) : Ev (fun k => plane_Check.f k a b m x y d u v t) (checkV a b m x y d u v t) := by
  unfold plane_Check.f checkV
  refine Ev.bind (ev_is (isSet_is a)) ?_
  by_cases ha : isSetB a = true
  · refine ev_pos ha (Ev.bind (ev_is (isSet_is b)) ?_)
    by_cases hb : isSetB b = true
    · rw [if_pos ⟨ha, hb⟩, hb]
      refine Ev.step (f := fun _ => (plane_right.f a b m x y d u v t).bind fun t451 => (if t451 = true then some 0 else some 10)) (fun k => by rw [plane_Check.j0, if_neg (by decide)]) ?_
      have hr : plane_right.f a b m x y d u v t = some (rightB a b m x y d u v t) := if_pos ⟨ha, hb⟩
      refine Ev.bind (ev_is hr) ?_
      by_cases h : rightB a b m x y d u v t = true
      · simp only [if_pos h]; exact Ev.now _
      · simp only [if_neg h]; exact Ev.now _
    · rw [if_neg (fun h => hb h.2)]
      rw [Bool.not_eq_true] at hb
      rw [hb]
      exact Ev.step (f := fun _ => some 2) (fun k => by rw [plane_Check.j0, if_pos (by decide)]) (Ev.now _)
  · rw [if_neg (fun h => ha h.1)]
    exact ev_neg ha (Ev.step (f := fun _ => some 2) (fun k => by rw [plane_Check.j0, if_pos (by decide)]) (Ev.now _))
end Go.Proofs.Ythaklbjcjoolcaa.P
namespace Go.Proofs.Ythaklbjcjoolcaa.P
open Go.RowKit Go.Proofs.YthaklbjcjoolcaaW.PrintWords Go.Proofs.YthaklbjcjoolcaaW.PrintLast Go.Proofs.YthaklbjcjoolcaaW.PrintMore
attribute [local go_sem] max2_int min2_int max_two min_two max_three min_three max_four min_four   -- for this text's walks alone
set_option linter.unusedVariables false
set_option linter.unusedSimpArgs false

/-! ### plane_Hull: function 32 -/
def plane_Hull.f (l0 : List (S31)) : Option ((List (S31)) × Int) := (plane_isSet.f l0).bind fun t311 => (if t311 = true then ((plane_corners.f l0).bind fun t312 => (some (t312, 0))) else (some (([] : List (S31)), 2)))
set_option maxHeartbeats 8000000 in
set_option maxRecDepth 100000 in
theorem plane_Hull.calls (A0 : Option Addr) (c0 : Nat) (l0 : List (S31)) (r1 : List (S31)) (r2 : Int) (w : World) (hr0 : Kd.C k31 w A0 l0.length l0) (hc0 : l0.length ≤ c0) (h : plane_Hull.f l0 = some (r1, r2)) :
  Calls Try.prog 32 #[.slice A0 l0.length c0] w fun e w' => ∃ v0_ : Value, e = .returned (.tuple #[v0_, .int .i64 r2]) ∧ Kd.R k31 31 w' w.heap.size (fun _ => True) v0_ r1 ∧ Below w.heap.size w w' := by
 have HR0 := Aside0.mk hr0
 have HC0 := Aside0.mk hc0
 clear hr0 hc0
 have HB := Aside0.mk (Below.refl w.heap.size w)
 have H : ((plane_isSet.f l0).bind fun t311 => (if t311 = true then ((plane_corners.f l0).bind fun t312 => (some (t312, 0))) else (some (([] : List (S31)), 2)))) = some (r1, r2) := h
 clear h
 replace H := Option.bind_eq_some_iff.mp H
 obtain ⟨t311, A20, H⟩ := H
 replace H : (if t311 = true then ((plane_corners.f l0).bind fun t312 => (some (t312, 0))) else (some (([] : List (S31)), 2))) = some (r1, r2) := H
 have A2 := Aside0.mk A20
 clear A20
 by_cases c3 : t311 = true
 ·subst c3
  have H1 : ((plane_corners.f l0).bind fun t312 => (some (t312, 0))) = some (r1, r2) := by rw [if_pos rfl] at H; exact H
  clear H
  have H := H1
  clear H1
  replace H := Option.bind_eq_some_iff.mp H
  obtain ⟨t312, A40, H⟩ := H
  replace H : (some (t312, 0)) = some (r1, r2) := H
  have A4 := Aside0.mk A40
  clear A40
  simp only [Option.some.injEq, Prod.mk.injEq] at H
  obtain ⟨rfl, rfl⟩ := H
  go_enter Try.func32, Try.ntmps32
  go_wp2_with (first | ((with_reducible refine gate_callee (f := 55) rfl ?_); refine goesL_ (some 5) rfl rfl Try.func55 (by kernel_rfl) rfl #[.slice A0 l0.length c0] rfl (by (try simp only [List.map_toArray, List.map_cons, List.map_nil]); first | done | rfl | (simp only [List.length_drop, List.length_take]; rfl)) ?_; (with_reducible refine (plane_isSet.calls _ _ l0 true _ ?side1 ?side2 A2.out).mono ?_); (case side1 => repeat (first | exact HR0.out | (with_reducible refine Kd.C_alloc ?_ _) | (with_reducible refine Kd.C_drewN ?_ _) | (with_reducible refine Kd.C_drew ?_))); (case side2 => exact HC0.out); rintro e w5 ⟨rfl, hb⟩; refine ⟨_, rfl, ?_⟩; have n0_ := Aside0.mk (below_step (by repeat (first | (with_reducible first | exact HB.out | apply lA | apply lN | apply lD) | exact HB.out)) hb); clear HB; have HB := n0_; clear n0_; (try clear hb); (try clear hb2); (try clear hk); (try clear hi)) | ((with_reducible refine gate_callee (f := 64) rfl ?_); refine goesL_ (some 8) rfl rfl Try.func64 (by kernel_rfl) rfl #[.slice A0 l0.length c0] rfl (by (try simp only [List.map_toArray, List.map_cons, List.map_nil]); first | done | rfl | (simp only [List.length_drop, List.length_take]; rfl)) ?_; (with_reducible refine (plane_corners.calls _ _ l0 t312 _ ?side1 ?side2 A4.out).mono ?_); (case side1 => repeat (first | exact (Kd.C_below HR0.out HB.out) | (with_reducible refine Kd.C_alloc ?_ _) | (with_reducible refine Kd.C_drewN ?_ _) | (with_reducible refine Kd.C_drew ?_))); (case side2 => exact HC0.out); rintro e w6 ⟨v313, rfl, ho0, hb⟩; refine ⟨_, rfl, ?_⟩; have n0_ := Aside0.mk (Kd.R_lower ho0 (below_size (by repeat (first | (with_reducible first | exact HB.out | apply lA | apply lN | apply lD) | exact HB.out)))); have n1_ := Aside0.mk (below_step (by repeat (first | (with_reducible first | exact HB.out | apply lA | apply lN | apply lD) | exact HB.out)) hb); clear HB; have HO314 := n0_; have HB := n1_; clear n0_ n1_; (try clear hb); (try clear hb2); (try clear hk); (try clear hi); (try clear ho0)))
  go_ret2
  exact ⟨_, by first | rfl | (simp [errW_none, errW_some] <;> rfl) | (simp [*, errW_none, errW_some] <;> rfl), rX HO314.out, by repeat (first | (with_reducible first | exact HB.out | apply lA | apply lN | apply lD) | exact HB.out)⟩
 replace c3 := Bool.eq_false_iff.mpr c3
 subst c3
 have H1 : (some (([] : List (S31)), 2)) = some (r1, r2) := by rw [if_neg (show ¬ (false = true) by decide)] at H; exact H
 clear H
 have H := H1
 clear H1
 simp only [Option.some.injEq, Prod.mk.injEq] at H
 obtain ⟨rfl, rfl⟩ := H
 go_enter Try.func32, Try.ntmps32
 go_wp2_with (first | ((with_reducible refine gate_callee (f := 55) rfl ?_); refine goesL_ (some 5) rfl rfl Try.func55 (by kernel_rfl) rfl #[.slice A0 l0.length c0] rfl (by (try simp only [List.map_toArray, List.map_cons, List.map_nil]); first | done | rfl | (simp only [List.length_drop, List.length_take]; rfl)) ?_; (with_reducible refine (plane_isSet.calls _ _ l0 false _ ?side1 ?side2 A2.out).mono ?_); (case side1 => repeat (first | exact HR0.out | (with_reducible refine Kd.C_alloc ?_ _) | (with_reducible refine Kd.C_drewN ?_ _) | (with_reducible refine Kd.C_drew ?_))); (case side2 => exact HC0.out); rintro e w7 ⟨rfl, hb⟩; refine ⟨_, rfl, ?_⟩; have n0_ := Aside0.mk (below_step (by repeat (first | (with_reducible first | exact HB.out | apply lA | apply lN | apply lD) | exact HB.out)) hb); clear HB; have HB := n0_; clear n0_; (try clear hb); (try clear hb2); (try clear hk); (try clear hi)))
 go_ret2
 exact ⟨_, by first | rfl | (simp [errW_none, errW_some] <;> rfl) | (simp [*, errW_none, errW_some] <;> rfl), by first | exact Kd.R_nil _ _ _ _ _ | exact Kd.N_nil _ _ _ _ _ | exact Kd.V_nil _ _ _ _ _ | exact Kd.Q_nil _ _ _ _ _ | exact Kd.S_nil _ _ _ _ _, by repeat (first | (with_reducible first | exact HB.out | apply lA | apply lN | apply lD) | exact HB.out)⟩

end Go.Proofs.Ythaklbjcjoolcaa.P
namespace Go.Proofs.Ythaklbjcjoolcaa.P
open Go.RowKit Go.Proofs.YthaklbjcjoolcaaW.PrintWords Go.Proofs.YthaklbjcjoolcaaW.PrintLast Go.Proofs.YthaklbjcjoolcaaW.PrintMore
attribute [local go_sem] max2_int min2_int max_two min_two max_three min_three max_four min_four   -- for this text's walks alone
set_option linter.unusedVariables false
set_option linter.unusedSimpArgs false

attribute [local go_sem high] eqA31
/-! ### silversidelaw01_same: function 34 -/
def silversidelaw01_same.l0 : Nat → List (S31) → List (S31) → Int → Option (Bool)
 | 0, _, _, _ => none
 | k + 1, x0, x1, x5 => if x5 < (x0.length : Int) then (if 0 ≤ x5 then (if x5 < (x1.length : Int) then (if (!(((rd_T31 x0 x5).f0) == ((rd_T31 x1 x5).f0)) || (!(((rd_T31 x0 x5).f1) == ((rd_T31 x1 x5).f1)))) = true then (some false) else (silversidelaw01_same.l0 k x0 x1 (wrap64 (x5 + 1)))) else (none)) else (none)) else (some true)
def silversidelaw01_same.f (k : Nat) (l0 : List (S31)) (l1 : List (S31)) : Option (Bool) := if (l0.length : Int) = (l1.length : Int) then (silversidelaw01_same.l0 k l0 l1 0) else (some false)
theorem silversidelaw01_same.mono_l : ∀ k, (∀ y0 y1 y2, LeO (silversidelaw01_same.l0 k y0 y1 y2) (silversidelaw01_same.l0 (k + 1) y0 y1 y2))
 | 0 => fun _ _ _ r h => by simp [silversidelaw01_same.l0] at h
 | k + 1 => by
  have ih0 := silversidelaw01_same.mono_l k
  ·intro y0 y1 y2
   unfold silversidelaw01_same.l0
   repeat' first
   | (with_reducible exact ih0 _ _ _)
   | (with_reducible exact LeO.refl _)
   | (with_reducible exact LeO.none _)
   | (with_reducible refine LeO.ite ?_ ?_)
   | (with_reducible refine LeO.bind ?_ (fun _ => ?_))
   | exact ih0 _ _ _
   | exact LeO.none _
   | refine LeO.ite ?_ ?_
   | refine LeO.bind ?_ (fun _ => ?_)
theorem silversidelaw01_same.mono : ∀ a0 a1 k, LeO (silversidelaw01_same.f k a0 a1) (silversidelaw01_same.f (k + 1) a0 a1) := by
 intro a0 a1 k
 have ih0 := silversidelaw01_same.mono_l k
 unfold silversidelaw01_same.f
 repeat' first
   | (with_reducible exact ih0 _ _ _)
   | (with_reducible exact LeO.refl _)
   | (with_reducible exact LeO.none _)
   | (with_reducible refine LeO.ite ?_ ?_)
   | (with_reducible refine LeO.bind ?_ (fun _ => ?_))
   | exact ih0 _ _ _
   | exact LeO.none _
   | refine LeO.ite ?_ ?_
   | refine LeO.bind ?_ (fun _ => ?_)
set_option maxHeartbeats 8000000 in
set_option maxRecDepth 100000 in
theorem silversidelaw01_same.calls (k : Nat) (A0 : Option Addr) (c0 : Nat) (l0 : List (S31)) (A1 : Option Addr) (c1 : Nat) (l1 : List (S31)) (r : Bool) (w : World) (hr0 : Kd.C k31 w A0 l0.length l0) (hc0 : l0.length ≤ c0) (hr1 : Kd.C k31 w A1 l1.length l1) (hc1 : l1.length ≤ c1) (h : silversidelaw01_same.f k l0 l1 = some r) :
  Calls Try.prog 34 #[.slice A0 l0.length c0, .slice A1 l1.length c1] w fun e w' => e = .returned (.bool r) ∧ Drawn0 w w' := by
 have hu31 := Try.underlying31
 have HR0 := Aside0.mk hr0
 have HC0 := Aside0.mk hc0
 clear hr0 hc0
 have HR1 := Aside0.mk hr1
 have HC1 := Aside0.mk hc1
 clear hr1 hc1
 have H : (if (l0.length : Int) = (l1.length : Int) then (silversidelaw01_same.l0 k l0 l1 0) else (some false)) = some r := h
 clear h
 by_cases c3 : (l0.length : Int) = (l1.length : Int)
 ·rw [if_pos c3] at H
  have c3b0 : ((l0.length : Int) == (l1.length : Int)) = true := beq_iff_eq.mpr c3
  have c3b1 : ((l0.length : Int) != (l1.length : Int)) = false := bne_eq_false_iff_eq.mpr c3
  have c3b2 : (l0.length == l1.length) = true := by first | simpa using c3 | (simp at c3 ⊢; omega)
  clear c3
  have H' := Aside0.mk H
  clear H
  go_enter Try.func34, Try.ntmps34
  go_wp2
  repeat (go_quiet (fail); try go_wp2)
  go_loopg [5] k (fun kq v5 w' => ∃ (x5_1 : Int), v5 = .int .i64 x5_1 ∧ Aside0 (silversidelaw01_same.l0 kq l0 l1 x5_1 = some r) ∧ Aside0 (kq ≤ k) ∧ Drawn0 w w')
  case atStart => exact ⟨(0), (by first | rfl | (simp; done) | (simp [*]; done)), H', ⟨Nat.le_refl _⟩, by repeat (first | exact Drawn0.refl _ | apply Drawn0.step)⟩
  case round =>
   clear H'
   try clear c1
   try clear p2
   try clear c3
   try clear c3b0
   try clear c3b1
   try clear c3b2
   obtain ⟨x5_1, rfl, HA, HK1, ⟨m1, rfl⟩⟩ := hrel
   cases gk with
   | zero => exact absurd HA.out (by simp [silversidelaw01_same.l0])
   | succ k1 =>
    have H := HA.out
    clear HA
    simp only [silversidelaw01_same.l0] at H
    by_cases c4 : x5_1 < (l0.length : Int)
    ·rw [if_pos c4] at H
     have c4b0 : decide (x5_1 < (l0.length : Int)) = true := decide_eq_true c4
     clear c4
     by_cases c5 : 0 ≤ x5_1
     ·rw [if_pos c5] at H
      have c5b0 : decide (0 ≤ x5_1) = true := decide_eq_true c5
      clear c5
      by_cases c6 : x5_1 < (l1.length : Int)
      ·rw [if_pos c6] at H
       have c6b0 : decide (x5_1 < (l1.length : Int)) = true := decide_eq_true c6
       clear c6
       by_cases c7 : (!(((rd_T31 l0 x5_1).f0) == ((rd_T31 l1 x5_1).f0)) || (!(((rd_T31 l0 x5_1).f1) == ((rd_T31 l1 x5_1).f1)))) = true
       ·rw [if_pos c7] at H
        have c7b0 : (!(((rd_T31 l0 x5_1).f0) == ((rd_T31 l1 x5_1).f0)) || (!(((rd_T31 l0 x5_1).f1) == ((rd_T31 l1 x5_1).f1)))) = true := c7
        clear c7
        obtain rfl := Option.some.inj H
        have p316 : 0 ≤ (x5_1 : Int) := of_decide_eq_true (by first | (with_reducible assumption) | assumption)
        have q316 : x5_1 < (l0.length : Int) := of_decide_eq_true (by first | (with_reducible assumption) | assumption)
        obtain ⟨ad316, e316, hx316_0, hx316_1⟩ := at_T31 HR0.out x5_1 p316 q316
        cases e316
        replace p316 := eq_true p316
        replace q316 := eq_true q316
        have p317 : 0 ≤ (x5_1 : Int) := of_decide_eq_true (by first | (with_reducible assumption) | assumption)
        have q317 : x5_1 < (l1.length : Int) := of_decide_eq_true (by first | (with_reducible assumption) | assumption)
        obtain ⟨ad317, e317, hx317_0, hx317_1⟩ := at_T31 HR1.out x5_1 p317 q317
        cases e317
        replace p317 := eq_true p317
        replace q317 := eq_true q317
        go_wp2
        repeat (go_quiet (fail); try go_wp2)
        go_ret
        exact ⟨by first | rfl | (simp; done) | (simp [*]; done), by repeat (first | exact Drawn0.refl _ | apply Drawn0.step)⟩
       ·rw [if_neg c7] at H
        have c7b0 : (!(((rd_T31 l0 x5_1).f0) == ((rd_T31 l1 x5_1).f0)) || (!(((rd_T31 l0 x5_1).f1) == ((rd_T31 l1 x5_1).f1)))) = false := by simpa using c7
        clear c7
        have H' := Aside0.mk H
        clear H
        have p316 : 0 ≤ (x5_1 : Int) := of_decide_eq_true (by first | (with_reducible assumption) | assumption)
        have q316 : x5_1 < (l0.length : Int) := of_decide_eq_true (by first | (with_reducible assumption) | assumption)
        obtain ⟨ad316, e316, hx316_0, hx316_1⟩ := at_T31 HR0.out x5_1 p316 q316
        cases e316
        replace p316 := eq_true p316
        replace q316 := eq_true q316
        have p317 : 0 ≤ (x5_1 : Int) := of_decide_eq_true (by first | (with_reducible assumption) | assumption)
        have q317 : x5_1 < (l1.length : Int) := of_decide_eq_true (by first | (with_reducible assumption) | assumption)
        obtain ⟨ad317, e317, hx317_0, hx317_1⟩ := at_T31 HR1.out x5_1 p317 q317
        cases e317
        replace p317 := eq_true p317
        replace q317 := eq_true q317
        go_wp2
        repeat (go_quiet (fail); try go_wp2)
        go_roundg k1
        case measure => have := HK1.out; omega
        case rel => exact ⟨(wrap64 (x5_1 + 1)), (by first | rfl | (simp; done) | (simp [*]; done)), H', ⟨by have := HK1.out; omega⟩, by repeat (first | exact Drawn0.refl _ | apply Drawn0.step)⟩
      ·rw [if_neg c6] at H
       exact absurd H (by simp)
     ·rw [if_neg c5] at H
      exact absurd H (by simp)
    ·rw [if_neg c4] at H
     have c4b0 : decide (x5_1 < (l0.length : Int)) = false := decide_eq_false c4
     clear c4
     obtain rfl := Option.some.inj H
     go_wp2
     repeat (go_quiet (fail); try go_wp2)
     go_ret
     exact ⟨by first | rfl | (simp; done) | (simp [*]; done), by repeat (first | exact Drawn0.refl _ | apply Drawn0.step)⟩
 rw [if_neg c3] at H
 have c3b0 : ((l0.length : Int) == (l1.length : Int)) = false := beq_eq_false_iff_ne.mpr c3
 have c3b1 : ((l0.length : Int) != (l1.length : Int)) = true := bne_iff_ne.mpr c3
 have c3b2 : (l0.length == l1.length) = false := by first | simpa using c3 | (simp at c3 ⊢; omega)
 obtain rfl := Option.some.inj H
 go_enter Try.func34, Try.ntmps34
 go_wp2
 repeat (go_quiet (fail); try go_wp2)
 go_ret
 exact ⟨by first | rfl | (simp; done) | (simp [*]; done), by repeat (first | exact Drawn0.refl _ | apply Drawn0.step)⟩

end Go.Proofs.Ythaklbjcjoolcaa.P
namespace Go.Proofs.Ythaklbjcjoolcaa.P
open Go.RowKit Go.Proofs.YthaklbjcjoolcaaW.PrintWords Go.Proofs.YthaklbjcjoolcaaW.PrintLast Go.Proofs.YthaklbjcjoolcaaW.PrintMore
set_option linter.unusedVariables false
set_option linter.unusedSimpArgs false
theorem set_ev (l : List S31) (hl : l.length < 9223372036854775807) : Ev (fun k => silversideref01_Set.f k l) (isSetB l) := by
  unfold silversideref01_Set.f isSetB
  by_cases h1 : (l.length : Int) ≥ 1
  · refine ev_pos h1 ?_
    by_cases h2 : (l.length : Int) ≤ 512
    · refine ev_pos h2 ?_
      rw [decide_eq_true (show 1 ≤ l.length ∧ l.length ≤ 512 from ⟨by omega, by omega⟩), Bool.true_and]
      exact Ev.bind (valids_ev l hl) (Ev.now _)
    · refine ev_neg h2 ?_
      rw [decide_eq_false (show ¬ (1 ≤ l.length ∧ l.length ≤ 512) by omega), Bool.false_and]
      exact Ev.now _
  · refine ev_neg h1 ?_
    rw [decide_eq_false (show ¬ (1 ≤ l.length ∧ l.length ≤ 512) by omega), Bool.false_and]
    exact Ev.now _
theorem same_from (l : List S31) (hl : l.length < 9223372036854775807) : ∀ n i : Nat, l.length - i = n → i ≤ l.length → Ev (fun k => silversidelaw01_same.l0 k l l (i : Int)) true
  | 0, i, hn, hi => by
    refine Ev.step (f := fun _ => some true) (fun k => ?_) (Ev.now _)
    unfold silversidelaw01_same.l0
    rw [if_neg (by omega)]
  | n + 1, i, hn, hi => by
    refine Ev.step (fun k => ?_) (same_from l hl n (i + 1) (by omega) (by omega))
    conv => lhs; unfold silversidelaw01_same.l0
    rw [if_pos (by omega), if_pos (by omega), if_pos (by omega), if_neg (by simp), w64i (x := (i : Int) + 1) (by omega) (by omega)]
    rfl
theorem same_ev (l : List S31) (hl : l.length < 9223372036854775807) : Ev (fun k => silversidelaw01_same.f k l l) true := by
  unfold silversidelaw01_same.f
  exact ev_pos rfl (same_from l hl (l.length - 0) 0 rfl (by omega))
end Go.Proofs.Ythaklbjcjoolcaa.P
namespace Go.Proofs.Ythaklbjcjoolcaa.P
open Go.RowKit Go.Proofs.YthaklbjcjoolcaaW.PrintWords Go.Proofs.YthaklbjcjoolcaaW.PrintLast Go.Proofs.YthaklbjcjoolcaaW.PrintMore
set_option linter.unusedVariables false
set_option linter.unusedSimpArgs false
theorem hull_is {t : List S31} (hs : isSetB t = true) : plane_Hull.f t = some (cornersS t, 0) := by
  obtain ⟨⟨hs1, hs2⟩, hok⟩ := (isSetB_iff t).1 hs
  unfold plane_Hull.f plane_corners.f
  rw [isSet_is, hs, Option.bind_some, if_pos rfl, if_pos ⟨hs1, by omega, hok⟩]; rfl
theorem hull_no {t : List S31} (hs : isSetB t = false) : plane_Hull.f t = some ([], 2) := by
  unfold plane_Hull.f
  rw [isSet_is, hs]; rfl
theorem isSet_of {t : List S31} (h1 : 1 ≤ t.length) (h2 : t.length ≤ 512) (h3 : allOk t = true) : isSetB t = true := (isSetB_iff t).2 ⟨⟨h1, h2⟩, h3⟩
/-- the corners of a set are a set -/
theorem corners_set {t : List S31} (h1 : 1 ≤ t.length) (h2 : t.length ≤ 256) (h3 : allOk t = true) : isSetB (cornersS t) = true :=
  isSet_of (corners_hull t h1).pos (by have := cornersS_len t; omega) (cornersS_ok h3)
end Go.Proofs.Ythaklbjcjoolcaa.P
namespace Go.Proofs.Ythaklbjcjoolcaa.P
open Go.ChangeShapes Go.WideShapes Go.ChangeAt Go.RowKit Go.Deep Go.Joins Go.Proofs.YthaklbjcjoolcaaW.PrintWords
set_option linter.unusedVariables false
set_option maxRecDepth 100000
theorem array7 {α : Type} {cs : Array α} (h : cs.size = 7) : ∃ c0 c1 c2 c3 c4 c5 c6, cs = #[c0, c1, c2, c3, c4, c5, c6] := by
  obtain ⟨l⟩ := cs
  match l, h with
  | [c0, c1, c2, c3, c4, c5, c6], _ => exact ⟨c0, c1, c2, c3, c4, c5, c6, rfl⟩
section
variable {H : Type} {enc : TypeId × Value → H} {w : World} {base : Nat} {spare : Nat → Bool} {held : Bool}
theorem one_int {n : Nat} {c : Value} {x : DataW H × List MemPlace} (h : DataW.trod enc Try.prog w base spare held n 3 [c] = some x) : ∃ i : Int, c = .int .i64 i := by
  obtain ⟨i, e, _, _⟩ := DataW.trod_int Try.underlying3 h
  simp only [List.cons.injEq, and_true] at e
  exact ⟨i, e⟩
theorem one_bool {n : Nat} {c : Value} {x : DataW H × List MemPlace} (h : DataW.trod enc Try.prog w base spare held n 4 [c] = some x) : ∃ b : Bool, c = .bool b := by
  obtain ⟨b, e, _⟩ := DataW.trod_bool Try.underlying4 h
  simp only [List.cons.injEq, and_true] at e
  exact ⟨b, e⟩
/-- a verdict that came in -/
theorem open_apart {r : Reach} {b0 : Nat} {v : Value} {d : DataW H} {p : List MemPlace} (hv : Value.okWide Try.prog w r b0 44 v) (h : DataW.Trod enc Try.prog w base spare held 44 v d p) :
    ∃ (m : Bool) (x y e u o t : Int), v = .agg #[.bool m, .int .i64 x, .int .i64 y, .int .i64 e, .int .i64 u, .int .i64 o, .int .i64 t] := by
  obtain ⟨cs, rfl, hsz⟩ := okWide_struct Try.underlying44 hv
  obtain ⟨c0, c1, c2, c3, c4, c5, c6, rfl⟩ := array7 (hsz.trans (by kernel_rfl))
  obtain ⟨fuel, hf⟩ := h
  obtain ⟨xs, n, _, _, hl, hlen, hi⟩ := DataW.trod_struct Try.underlying44 hf
  match xs, hlen with
  | [y0, y1, y2, y3, y4, y5, y6], _ =>
    obtain ⟨b, rfl⟩ := one_bool (show DataW.trod enc Try.prog w base spare held n 4 [c0] = some y0 from hi 0 _ rfl)
    obtain ⟨i1, rfl⟩ := one_int (show DataW.trod enc Try.prog w base spare held n 3 [c1] = some y1 from hi 1 _ rfl)
    obtain ⟨i2, rfl⟩ := one_int (show DataW.trod enc Try.prog w base spare held n 3 [c2] = some y2 from hi 2 _ rfl)
    obtain ⟨i3, rfl⟩ := one_int (show DataW.trod enc Try.prog w base spare held n 3 [c3] = some y3 from hi 3 _ rfl)
    obtain ⟨i4, rfl⟩ := one_int (show DataW.trod enc Try.prog w base spare held n 3 [c4] = some y4 from hi 4 _ rfl)
    obtain ⟨i5, rfl⟩ := one_int (show DataW.trod enc Try.prog w base spare held n 3 [c5] = some y5 from hi 5 _ rfl)
    obtain ⟨i6, rfl⟩ := one_int (show DataW.trod enc Try.prog w base spare held n 3 [c6] = some y6 from hi 6 _ rfl)
    exact ⟨b, i1, i2, i3, i4, i5, i6, rfl⟩
end
end Go.Proofs.Ythaklbjcjoolcaa.P
namespace Go.Proofs.Ythaklbjcjoolcaa.Pure
open Go.RowKit Go.Proofs.Ythaklbjcjoolcaa.P Go.Proofs.YthaklbjcjoolcaaW.PrintWords Go.Proofs.YthaklbjcjoolcaaW.PrintLast
theorem PlaneChecks (l0 l1 : List S31) (m : Bool) (x y d u v w : Int) (_ : ∀ q ∈ l0, (Lit.int .i64 q.f0).wf = true ∧ (Lit.int .i64 q.f1).wf = true) (_ : ∀ q ∈ l1, (Lit.int .i64 q.f0).wf = true ∧ (Lit.int .i64 q.f1).wf = true) :
    ∃ k, silversidelaw01_PlaneChecks.f k l0 l1 m x y d u v w = some true := by
  refine Ev.rounds ?_
  unfold silversidelaw01_PlaneChecks.f
  obtain ⟨t, ht, hl, _⟩ := some_is l0 40 (by decide)
  obtain ⟨s, hs, hl', _⟩ := some_is l1 40 (by decide)
  refine Ev.bind (ev_is ht) (Ev.bind (ev_is hs) (Ev.bind (check_ev t s m x y d u v w) (Ev.bind (set_ev t (by omega)) ?_)))
  have hno : ∀ e : Int, e = 2 → Ev (fun k => silversidelaw01_PlaneChecks.j0 k t s e true m x y d u v w) true := fun e he =>
    Ev.step (f := fun k => (silversidelaw01_awake.f k).bind fun t504 => some t504) (fun k => by rw [silversidelaw01_PlaneChecks.j0, if_pos rfl, if_pos he]) awake_bind
  by_cases h0 : isSetB t = true
  · refine ev_pos h0 (Ev.bind (set_ev s (by omega)) ?_)
    by_cases h1 : isSetB s = true
    · rw [h1]
      have hr : silversideref01_Right.f t s m x y d u v w = some (rightB t s m x y d u v w) := if_pos ⟨h0, h1⟩
      have he : checkV t s m x y d u v w = if rightB t s m x y d u v w = true then 0 else 10 := if_pos ⟨h0, h1⟩
      by_cases h : rightB t s m x y d u v w = true
      · rw [if_pos h] at he
        exact Ev.step (f := fun k => (silversidelaw01_awake.f k).bind fun t504 => some t504) (fun k => by rw [silversidelaw01_PlaneChecks.j0, if_neg (by decide), hr, Option.bind_some, if_pos h, if_pos he]) awake_bind
      · rw [if_neg h] at he
        exact Ev.step (f := fun k => (silversidelaw01_awake.f k).bind fun t504 => some t504) (fun k => by rw [silversidelaw01_PlaneChecks.j0, if_neg (by decide), hr, Option.bind_some, if_neg h, if_pos he]) awake_bind
    · have he : checkV t s m x y d u v w = 2 := if_neg (fun h => h1 h.2)
      rw [Bool.not_eq_true] at h1
      rw [h1]
      exact hno _ he
  · exact ev_neg h0 (hno _ (if_neg (fun h => h0 h.1)))
end Go.Proofs.Ythaklbjcjoolcaa.Pure
