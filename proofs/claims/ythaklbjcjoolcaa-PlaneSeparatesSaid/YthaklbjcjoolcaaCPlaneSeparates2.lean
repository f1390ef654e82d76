/- Proved here: what functions that the law reaches compute, and plain laws of that. No conditions but those that the theorems state. Put together by a program; a part of it was printed by a program of the session's, by way of the kit's printer (wip/printplus.py, wip/mend*.py). -/
import Derived.Test.YthaklbjcjoolcaaB1
import Derived.Outline
import Derived.Deep.DeepMust
import Derived.Laws.EntriesVeiled
import Derived.BigRegion
import Derived.BigQuiet
import Derived.Deep.RegionLawGrows
import Derived.Test.YthaklbjcjoolcaaCPlaneSeparates1
import Derived.Test.YthaklbjcjoolcaaB4
import Derived.Test.YthaklbjcjoolcaaB2
import Derived.Deep.RegionHeld3
import Derived.Test.YthaklbjcjoolcaaB3
set_option linter.unusedVariables false
set_option linter.unusedSimpArgs false
namespace Go.Proofs.Ythaklbjcjoolcaa.P
open Go.RowKit Go.Shelf Go.Sort Go.Proofs.YthaklbjcjoolcaaW.PrintWords Go.Proofs.YthaklbjcjoolcaaW.PrintLast Go.Proofs.YthaklbjcjoolcaaW.PrintMore
attribute [local go_sem high] eqA31
theorem refturn_is {a b c : S31} (ha : okPt a = true) (hb : okPt b = true) (hc : okPt c = true) : silversideref01_Turn.f a.f0 a.f1 b.f0 b.f1 c.f0 c.f1 = some (sgn (crs a b c)) := by
  rw [← turn_is ha hb hc]
  unfold silversideref01_Turn.f plane_turn.f silversideref01_cross.f plane_cross.f
  simp only [Option.bind_some, compare_is]
  unfold silversideref01_Sign.f cmpI
  generalize wrap64 _ = x
  by_cases h : x > 0
  · rw [if_pos h, if_neg (by omega), if_pos h]
    rfl
  · rw [if_neg h]
    by_cases h2 : x < 0
    · rw [if_pos h2, if_pos h2]; rfl
    · rw [if_neg h2, if_neg h2, if_neg h]; rfl
theorem eqB' (p q : S31) : ((p.f0 == q.f0 && p.f1 == q.f1) = true) ↔ p = q := by rw [eqB, decide_eq_true_eq]
/-- one step of the look for the least point -/
def lsStep (f p : S31) : S31 := if ltP p f = true then p else f
theorem foldl_snoc (l : List S31) (g : S31 → S31 → S31) (a : S31) (k : Nat) (h : k < l.length) : (l.take (k + 1)).foldl g a = g ((l.take k).foldl g a) (pt l k) := by rw [take_pt l k h, List.foldl_append]; rfl
theorem ls_is : ∀ (l : List S31) (f : S31), ¬ ltP f (l.foldl lsStep f) = true ∧ (∀ r ∈ l, ¬ ltP r (l.foldl lsStep f) = true) ∧ (l.foldl lsStep f = f ∨ l.foldl lsStep f ∈ l)
  | [], f => ⟨ltP_irr f, by simp, Or.inl rfl⟩
  | p :: l, f => by
    rw [List.foldl_cons]
    obtain ⟨h1, h2, h3⟩ := ls_is l (lsStep f p)
    have key : ∀ q, (q = f ∨ q = p) → ¬ ltP q (l.foldl lsStep (lsStep f p)) = true := by
      intro q hq h
      refine h1 ?_
      by_cases hc : ltP p f = true
      · have e : lsStep f p = p := by unfold lsStep; rw [if_pos hc]
        rcases hq with rfl | rfl
        · rw [e] at h ⊢; exact ltP_trans hc h
        · rw [e] at h ⊢; exact h
      · have e : lsStep f p = f := by unfold lsStep; rw [if_neg hc]
        rcases hq with rfl | rfl
        · rw [e] at h ⊢; exact h
        · rw [e] at h ⊢
          rcases ltP_tot f q with h4 | h4 | h4
          · exact ltP_trans h4 h
          · subst h4; exact h
          · exact absurd h4 hc
    refine ⟨key f (Or.inl rfl), ?_, ?_⟩
    · intro r hr
      rw [List.mem_cons] at hr
      rcases hr with rfl | hr
      · exact key _ (Or.inr rfl)
      · exact h2 r hr
    · rcases h3 with h3 | h3
      · rw [h3]
        unfold lsStep; split
        · right; simp
        · left; rfl
      · right; simp [h3]
theorem least_first (l : List S31) (h0 : 1 ≤ l.length) : l.foldl lsStep (pt l 0) = pt (cornersS l) 0 := by
  have hH := corners_hull l h0
  obtain ⟨h1, h2, h3⟩ := ls_is l (pt l 0)
  have hm : l.foldl lsStep (pt l 0) ∈ l := by
    rcases h3 with h3 | h3
    · rw [h3]; exact pt_mem l 0 h0
    · exact h3
  rcases ltP_tot (l.foldl lsStep (pt l 0)) (pt (cornersS l) 0) with h | h | h
  · exact absurd h (hH.least _ hm)
  · exact h
  · exact absurd h (h2 _ (hH.mem 0 hH.pos))
theorem cornersS_len' (l : List S31) : (cornersS l).length ≤ 2 * l.length := by
  have h1 := sortedS_len l
  unfold cornersS
  split
  · omega
  · have h2 := chainL_len (sortedS l)
    have h3 := chainL_len (sortedS l).reverse
    rw [List.length_reverse] at h3
    rw [List.length_append, List.length_dropLast, List.length_dropLast]; omega
def refhull_T : Bool × List (List Nat × List Nat) := (true, [([], []), ([], []), ([0, 1], [0, 1]), ([2], [2]), ([3], [3]), ([4, 3], [3, 4]), ([3, 5], [3, 5]), ([6, 3], [6]), ([7], [7]), ([8, 7], [7, 8]), ([9, 7, 7], [7, 9]), ([10], [10]), ([10], [10]), ([11, 12, 10, 10], [10, 11, 12]), ([10], [10]), ([10], [10]), ([14, 15, 13, 10], [10, 14, 15]), ([13, 16, 10], [10, 13, 16]), ([10, 17, 7], [7, 10, 17]), ([7, 18], [7, 18])])
def refhull_B : List Nat := [0, 0, 3, 7, 15, 31, 63, 127, 255, 511, 1023, 2047, 2047, 8191, 2047, 2047, 65535, 131071, 262143, 524287]
theorem refhull_tab : rtab .any (opsOf Try.f35 17) = refhull_T := by kernel_rfl
theorem refhull_bits : waitsOk refhull_T.2 refhull_B = true := by kernel_rfl
theorem sqd_is {a b : S31} (ha : okPt a = true) (hb : okPt b = true) : silversideref01_Square.f a.f0 a.f1 b.f0 b.f1 = some (sqd a b) := by
  rw [okPt_iff] at ha hb
  have h1 := mul_bd (a := a.f0 - b.f0) (b := a.f0 - b.f0) (m := 8192) (n := 8192) (by omega) (by omega)
  have h2 := mul_bd (a := a.f1 - b.f1) (b := a.f1 - b.f1) (m := 8192) (n := 8192) (by omega) (by omega)
  unfold silversideref01_Square.f sqd
  rw [w64i (x := a.f0 - b.f0) (by omega) (by omega), w64i (x := a.f1 - b.f1) (by omega) (by omega), w64i (x := (a.f0 - b.f0) * (a.f0 - b.f0)) (by omega) (by omega), w64i (x := (a.f1 - b.f1) * (a.f1 - b.f1)) (by omega) (by omega), w64i (by omega) (by omega)]
set_option maxHeartbeats 4000000 in
set_option maxRecDepth 100000 in
theorem refhull_calls (A0 : Option Addr) (c0 : Nat) (l0 : List S31) (w : World) (hr0 : Kd.C k31 w A0 l0.length l0) (hc0 : l0.length ≤ c0) (hl1 : 1 ≤ l0.length) (hsz : l0.length ≤ 4096) (hok : allOk l0 = true) :
    Calls Try.prog 35 #[.slice A0 l0.length c0] w fun e w' => ∃ v, e = .returned v ∧ Kd.R k31 31 w' w.heap.size (fun _ => True) v (cornersS l0) ∧ Below w.heap.size w w' := by
  obtain ⟨i0, hi, hz0, hz1, hz2⟩ := info_parts info31
  have HI0 := Aside0.mk (show Try.prog.info? 31 = some i0 ∧ i0.zero = some (.agg #[.int .i64 0, .int .i64 0]) ∧ i0.size = 2 ∧ i0.bytes = 16 from ⟨hi, hz0, hz1, hz2⟩)
  have HR0 := Aside0.mk hr0
  have HB0 := Aside0.mk (Below.refl w.heap.size w)
  have HOK := Aside0.mk hok
  obtain ⟨ad, rfl, hx0, hx1⟩ := at_T31 hr0 (0 : Int) (by omega) (by omega)
  rw [show rd_T31 l0 0 = pt l0 0 from rfl] at hx0 hx1
  simp only [Int.toNat_zero, Nat.zero_mul, Addr.add_zero'] at hx0 hx1
  have hlI : (0 : Int) < ((l0.length : Nat) : Int) := by omega
  have BF0 := Aside0.mk (heap_alloc_new w (Obj.cells #[.int .i64 (pt l0 0).f0, .int .i64 (pt l0 0).f1] 31))
  have HB1 := Aside0.mk (below_alloc (Below.refl w.heap.size w) (Obj.cells #[.int .i64 (pt l0 0).f0, .int .i64 (pt l0 0).f1] 31))
  clear hr0 hok hi hz0 hz1 hz2
  have HE0 := Aside0.mk (least_first l0 hl1)
  have HLN := Aside0.mk (show (cornersS l0).length ≤ 8192 by have := cornersS_len' l0; omega)
  generalize hp0 : pt l0 0 = p0 at *
  have HP0 := Aside0.mk hp0
  clear hp0
  go_enter Try.func35, Try.ntmps35
  go_wp2
  go_loopw [4] (fun v4 wr => ∃ k : Nat, k ≤ l0.length ∧ v4 = .int .i64 k ∧ Aside0 (wr.heap[w.heap.size]? = some (.cells #[.int .i64 ((l0.take k).foldl lsStep p0).f0, .int .i64 ((l0.take k).foldl lsStep p0).f1] 31 (0, 0))) ∧ Aside0 (Below w.heap.size w wr)) (fun v4 _ => l0.length - (intOf v4).toNat)
  case atStart => exact ⟨0, by omega, rfl, BF0, HB1⟩
  case round =>
    obtain ⟨k, hk, rfl, BF, HB⟩ := hrel
    clear BF0 HB1 HB0 hx0 hx1
    by_cases hlt : k < l0.length
    · obtain ⟨ad', had', hx0, hx1⟩ := at_T31 (Kd.C_below HR0.out HB.out) (k : Int) (by omega) (by omega)
      cases had'
      rw [rd_pt, Int.toNat_natCast] at hx0 hx1
      have hltI : ((k : Nat) : Int) < ((l0.length : Nat) : Int) := by omega
      have HF := Aside0.mk (foldl_snoc l0 lsStep p0 k hlt)
      generalize pt l0 k = p at *
      generalize (l0.take k).foldl lsStep p0 = f at *
      have b0 : wr.cell? ⟨w.heap.size, 0, none⟩ = some (.int .i64 f.f0) := blk_cell BF.out 0
      have b1 : wr.cell? ⟨w.heap.size, 1, none⟩ = some (.int .i64 f.f1) := blk_cell BF.out 1
      have g0 := blk_frozen BF.out 0
      have g1 := blk_frozen BF.out 1
      by_cases c1 : p.f0 < f.f0
      · have d1 : decide (p.f0 < f.f0) = true := decide_eq_true c1
        have HL := Aside0.mk (show lsStep f p = p by unfold lsStep ltP; rw [if_pos (by rw [decide_eq_true_eq]; exact Or.inl c1)])
        go_wp2
        go_quiet (fail)
        go_wp2
        go_roundw
        case rel => exact ⟨k + 1, by omega, by go_num, ⟨by rw [HF.out, HL.out]; exact blk_put (blk_put (kN BF.out nq) 0 _ rfl) 1 _ rfl⟩, ⟨lS (lS (lN HB.out nq) (Nat.le_refl _)) (Nat.le_refl _)⟩⟩
        case measure => simp [intOf]; omega
      · have d1 : decide (p.f0 < f.f0) = false := decide_eq_false c1
        by_cases c2 : p.f0 = f.f0
        · have d2 : (p.f0 == f.f0) = true := by rw [beq_iff_eq]; exact c2
          by_cases c3 : p.f1 < f.f1
          · have d3 : decide (p.f1 < f.f1) = true := decide_eq_true c3
            have HL := Aside0.mk (show lsStep f p = p by unfold lsStep ltP; rw [if_pos (by rw [decide_eq_true_eq]; exact Or.inr ⟨c2, c3⟩)])
            go_wp2
            go_quiet (fail)
            go_wp2
            go_roundw
            case rel => exact ⟨k + 1, by omega, by go_num, ⟨by rw [HF.out, HL.out, c2]; exact blk_put (blk_put (kN BF.out nq) 0 _ rfl) 1 _ rfl⟩, ⟨lS (lS (lN HB.out nq) (Nat.le_refl _)) (Nat.le_refl _)⟩⟩
            case measure => simp [intOf]; omega
          · have d3 : decide (p.f1 < f.f1) = false := decide_eq_false c3
            have HL := Aside0.mk (show lsStep f p = f by unfold lsStep ltP; rw [if_neg (by rw [decide_eq_true_eq]; omega)])
            go_wp2
            go_quiet (fail)
            go_wp2
            go_roundw
            case rel => exact ⟨k + 1, by omega, by go_num, ⟨by rw [HF.out, HL.out]; exact kN BF.out nq⟩, ⟨lN HB.out nq⟩⟩
            case measure => simp [intOf]; omega
        · have d2 : (p.f0 == f.f0) = false := by rw [beq_eq_false_iff_ne]; exact c2
          have HL := Aside0.mk (show lsStep f p = f by unfold lsStep ltP; rw [if_neg (by rw [decide_eq_true_eq]; omega)])
          go_wp2
          go_quiet (fail)
          go_wp2
          go_roundw
          case rel => exact ⟨k + 1, by omega, by go_num, ⟨by rw [HF.out, HL.out]; exact kN BF.out nq⟩, ⟨lN HB.out nq⟩⟩
          case measure => simp [intOf]; omega
    · obtain rfl : k = l0.length := by omega
      rw [List.take_length] at BF
      rw [HE0.out] at BF
      obtain ⟨gF, hgF⟩ : ∃ g, g = w.heap.size := ⟨_, rfl⟩
      have HGF := Aside0.mk (show w.heap.size ≤ gF by omega)
      rw [← hgF] at BF
      rw [← hgF]
      clear hgF HP0
      have b0 : wr.cell? ⟨gF, 0, none⟩ = some (.int .i64 (pt (cornersS l0) 0).f0) := blk_cell BF.out 0
      have b1 : wr.cell? ⟨gF, 1, none⟩ = some (.int .i64 (pt (cornersS l0) 0).f1) := blk_cell BF.out 1
      have HH := Aside0.mk (corners_hull l0 (by omega))
      have hHl := HH.out.pos
      generalize hH : cornersS l0 = H at *
      have HHE := Aside0.mk hH
      clear hH
      have hHl2 : H.length ≤ 8192 := HLN.out
      generalize hf : pt H 0 = f at *
      have HPF := Aside0.mk hf
      clear hf
      go_wp2_with (first | ((with_reducible refine gate_builtin (b := .append) (xs := #[.tmp 52, .tmp 54]) rfl ?_); at_builtin; refine Kd.R_append k31 (w0 := w) w.heap.size rfl (.tmp 52) (.tmp 54) 22 31 (.agg #[(.int .i64 0), (.int .i64 0)]) 16 rfl Try.underlying22 info31 rfl (by decide) (by omega) (.slice none 0 0) ([] : List S31) f [.int .i64 f.f0, .int .i64 f.f1] (fun k_ => k_ ≠ gF) (fun _ => False) rfl rfl ?aP (fun _ hk => hk.elim) ?aF ?aO ?aB ?aS ?aL ?_; (case aP => exact k31_mkM _ _ _ f); (case aB => exact HB.out); (case aF => exact (fun k_ hk => Kd.freshB (g := gF) (kX BF.out) k_ hk)); (case aO => exact ((Kd.R_nil _ _ _ _ (fun k_ => k_ ≠ gF)))); (case aS => exact (below_size HB.out)); (case aL => simp only [List.length_nil]; omega); intro v5 w5 ho hb hg hat; have BF5 := Aside0.mk (blk_grown (g := gF) (kX BF.out) hg (by simp [Value.ownBlock])); have HB5 := Aside0.mk hb; have HO5 := Aside0.mk ho; clear BF HB ho hb hg hat; have b50 : w5.cell? ⟨gF, 0, none⟩ = some (.int .i64 f.f0) := blk_cell BF5.out 0; have b51 : w5.cell? ⟨gF, 1, none⟩ = some (.int .i64 f.f1) := blk_cell BF5.out 1))
      have BA5 := Aside0.mk (heap_alloc_new w5 (Obj.cells #[.int .i64 f.f0, .int .i64 f.f1] 31))
      have HLF := Aside0.mk (blk_lt BF5.out)
      have HLW := Aside0.mk (below_size HB5.out)
      have HT1 := Aside0.mk (show H.take 1 = [] ++ [f] by rw [show (1 : Nat) = 0 + 1 from rfl, take_pt H 0 hHl, HPF.out]; rfl)
      go_loopg [5, 6] H.length (fun kq v5 v6 wr => ∃ (i gA : Nat), i + kq = H.length ∧ i < H.length ∧ v6 = .pointer (some ⟨gA, 0, none⟩) ∧ Aside0 (w.heap.size ≤ gA ∧ gF ≠ gA) ∧ Aside0 (Kd.R k31 31 wr w.heap.size (fun k_ => k_ ≠ gF ∧ k_ ≠ gA) v5 (H.take (i + 1))) ∧ Aside0 (wr.heap[gF]? = some (.cells #[.int .i64 f.f0, .int .i64 f.f1] 31 (0, 0))) ∧ Aside0 (wr.heap[gA]? = some (.cells #[.int .i64 (pt H i).f0, .int .i64 (pt H i).f1] 31 (0, 0))) ∧ Aside0 (Below w.heap.size w wr))
      case atStart =>
        refine ⟨0, w5.heap.size, by omega, hHl, rfl, ⟨by have := HLW.out; omega, by have := HLF.out; omega⟩, ⟨?_⟩, ⟨?_⟩, ⟨?_⟩, ⟨?_⟩⟩
        · rw [show 0 + 1 = 1 from rfl, HT1.out]
          exact Kd.R_mono (Kd.R_alloc (Kd.R_elderB HO5.out w5.heap.size (Nat.le_refl _)) _) (fun k_ hk => hk)
        · exact kA BF5.out _
        · rw [HPF.out]; exact BA5.out
        · exact lA HB5.out _
      case round =>
        clear HO5 BF5 HB5 BA5 b0 b1 b50 b51 HT1
        obtain ⟨i, gA, hik, hi, rfl, HGA, HO, BF, BA, HB⟩ := hrel
        have a0 : wr.cell? ⟨gA, 0, none⟩ = some (.int .i64 (pt H i).f0) := blk_cell BA.out 0
        have a1 : wr.cell? ⟨gA, 1, none⟩ = some (.int .i64 (pt H i).f1) := blk_cell BA.out 1
        have HNX := Aside0.mk (hull_next HH.out i hi)
        have HOA := Aside0.mk (show okPt (pt H i) = true from List.all_eq_true.1 HOK.out _ (HH.out.mem i hi))
        have HNE := Aside0.mk (show (i + 1 < H.length → nxt i H.length = i + 1 ∧ pt H (i + 1) ≠ pt H i ∧ pt H (i + 1) ≠ f) ∧ (¬ i + 1 < H.length → nxt i H.length = 0) from ⟨fun h => ⟨by unfold nxt; rw [if_pos h], fun e => HH.out.ner i h e.symm, by rw [← HPF.out]; exact HH.out.ne (i + 1) (by omega) h⟩, fun h => by unfold nxt; rw [if_neg h]⟩)
        generalize hat : pt H i = at' at *
        clear hat
        obtain ⟨gT, hgT⟩ : ∃ g, g = wr.heap.size := ⟨_, rfl⟩
        have HLF := Aside0.mk (blk_lt BF.out)
        have HLA := Aside0.mk (blk_lt BA.out)
        have HLW := Aside0.mk (below_size HB.out)
        have HGT := Aside0.mk (show w.heap.size ≤ gT ∧ gF ≠ gT ∧ gA ≠ gT from ⟨by have := HLW.out; omega, by have := HLF.out; omega, by have := HLA.out; omega⟩)
        have BT0 := Aside0.mk (heap_alloc_new wr (Obj.cells #[.int .i64 at'.f0, .int .i64 at'.f1] 31))
        have HO0 := Aside0.mk (Kd.R_alloc (Kd.R_elderB HO.out wr.heap.size (Nat.le_refl _)) (Obj.cells #[.int .i64 at'.f0, .int .i64 at'.f1] 31))
        have BF0 := Aside0.mk (kA BF.out (Obj.cells #[.int .i64 at'.f0, .int .i64 at'.f1] 31))
        have BA0 := Aside0.mk (kA BA.out (Obj.cells #[.int .i64 at'.f0, .int .i64 at'.f1] 31))
        have HB0 := Aside0.mk (lA HB.out (Obj.cells #[.int .i64 at'.f0, .int .i64 at'.f1] 31))
        rw [← hgT] at BT0 HO0
        clear HO BF BA HB HLF HLA HLW
        go_wp2
        rw [← hgT]
        clear hgT
        go_loopw [8] (fun v8 wx => ∃ j : Nat, j ≤ l0.length ∧ v8 = .int .i64 j ∧ Aside0 (okPt ((l0.take j).foldl (scStep at') at') = true) ∧ Aside0 (wx.heap[gT]? = some (.cells #[.int .i64 ((l0.take j).foldl (scStep at') at').f0, .int .i64 ((l0.take j).foldl (scStep at') at').f1] 31 (0, 0))) ∧ Aside0 (Kd.R k31 31 wx w.heap.size (fun k_ => (k_ ≠ gF ∧ k_ ≠ gA) ∧ k_ ≠ gT) u5 (H.take (i + 1))) ∧ Aside0 (wx.heap[gF]? = some (.cells #[.int .i64 f.f0, .int .i64 f.f1] 31 (0, 0))) ∧ Aside0 (wx.heap[gA]? = some (.cells #[.int .i64 at'.f0, .int .i64 at'.f1] 31 (0, 0))) ∧ Aside0 (Below w.heap.size w wx)) (fun v8 _ => l0.length - (intOf v8).toNat)
        case atStart => exact ⟨0, by omega, rfl, HOA, BT0, HO0, BF0, BA0, HB0⟩
        case round =>
          clear BT0 HO0 BF0 BA0 HB0 a0 a1
          obtain ⟨j, hj, rfl, HOT, BT, HO, BF, BA, HB⟩ := hrel
          have t0 : wr.cell? ⟨gT, 0, none⟩ = some (.int .i64 ((l0.take j).foldl (scStep at') at').f0) := blk_cell BT.out 0
          have t1 : wr.cell? ⟨gT, 1, none⟩ = some (.int .i64 ((l0.take j).foldl (scStep at') at').f1) := blk_cell BT.out 1
          have ft0 := blk_frozen BT.out 0
          have ft1 := blk_frozen BT.out 1
          have a0 : wr.cell? ⟨gA, 0, none⟩ = some (.int .i64 at'.f0) := blk_cell BA.out 0
          have a1 : wr.cell? ⟨gA, 1, none⟩ = some (.int .i64 at'.f1) := blk_cell BA.out 1
          by_cases hlt : j < l0.length
          · obtain ⟨ad', had', hx0, hx1⟩ := at_T31 (Kd.C_below HR0.out HB.out) (j : Int) (by omega) (by omega)
            cases had'
            rw [rd_pt, Int.toNat_natCast] at hx0 hx1
            have hltI : ((j : Nat) : Int) < ((l0.length : Nat) : Int) := by omega
            have HS := Aside0.mk (foldl_snoc l0 (scStep at') at' j hlt)
            have HOP := Aside0.mk (show okPt (pt l0 j) = true from List.all_eq_true.1 HOK.out _ (pt_mem l0 j hlt))
            generalize pt l0 j = p at *
            generalize (l0.take j).foldl (scStep at') at' = tq at *
            obtain ⟨gP, hgP⟩ : ∃ g, g = wr.heap.size := ⟨_, rfl⟩
            have HLF := Aside0.mk (blk_lt BF.out)
            have HLA := Aside0.mk (blk_lt BA.out)
            have HLT := Aside0.mk (blk_lt BT.out)
            have BP1 := Aside0.mk (heap_alloc_new wr (Obj.cells #[.int .i64 p.f0, .int .i64 p.f1] 31))
            have BT1 := Aside0.mk (kA BT.out (Obj.cells #[.int .i64 p.f0, .int .i64 p.f1] 31))
            have HO1 := Aside0.mk (Kd.R_alloc HO.out (Obj.cells #[.int .i64 p.f0, .int .i64 p.f1] 31))
            have BF1 := Aside0.mk (kA BF.out (Obj.cells #[.int .i64 p.f0, .int .i64 p.f1] 31))
            have BA1 := Aside0.mk (kA BA.out (Obj.cells #[.int .i64 p.f0, .int .i64 p.f1] 31))
            have HB1 := Aside0.mk (lA HB.out (Obj.cells #[.int .i64 p.f0, .int .i64 p.f1] 31))
            have a0' : (wr.alloc (Obj.cells #[.int .i64 p.f0, .int .i64 p.f1] 31)).cell? ⟨gA, 0, none⟩ = some (.int .i64 at'.f0) := blk_cell BA1.out 0
            have a1' : (wr.alloc (Obj.cells #[.int .i64 p.f0, .int .i64 p.f1] 31)).cell? ⟨gA, 1, none⟩ = some (.int .i64 at'.f1) := blk_cell BA1.out 1
            have t0' : (wr.alloc (Obj.cells #[.int .i64 p.f0, .int .i64 p.f1] 31)).cell? ⟨gT, 0, none⟩ = some (.int .i64 tq.f0) := blk_cell BT1.out 0
            have t1' : (wr.alloc (Obj.cells #[.int .i64 p.f0, .int .i64 p.f1] 31)).cell? ⟨gT, 1, none⟩ = some (.int .i64 tq.f1) := blk_cell BT1.out 1
            by_cases e1 : p = at'
            · have d1 : (p.f0 == at'.f0 && p.f1 == at'.f1) = true := (eqB' p at').2 e1
              have HSS := Aside0.mk (show scStep at' tq p = tq by unfold scStep; rw [if_pos e1])
              clear e1
              go_wp2
              go_roundw
              case rel => exact ⟨j + 1, by omega, by go_num, ⟨by rw [HS.out, HSS.out]; exact HOT.out⟩, ⟨by rw [HS.out, HSS.out]; exact BT1.out⟩, HO1, BF1, BA1, HB1⟩
              case measure => simp [intOf]; omega
            · have d1 : (p.f0 == at'.f0 && p.f1 == at'.f1) = false := by rw [eqB, decide_eq_false_iff_not]; exact e1
              have HSS := Aside0.mk (show scStep at' tq p = if tq = at' ∨ crs at' tq p < 0 ∨ (crs at' tq p = 0 ∧ sqd at' tq < sqd at' p) then p else tq by unfold scStep; rw [if_neg e1])
              have HPT := Aside0.mk (show okPt (scStep at' tq p) = true by unfold scStep; split; exact HOT.out; split; exact HOP.out; exact HOT.out)
              clear e1
              have HTU := Aside0.mk (refturn_is HOA.out HOT.out HOP.out)
              generalize hcr : crs at' tq p = cr at *
              clear hcr
              go_wp2_with (first | (go_at_call 31; go_must (refine (silversideref01_Turn.calls at'.f0 at'.f1 tq.f0 tq.f1 p.f0 p.f1 _ _ HTU.out).mono ?_); rintro e w3 ⟨rfl, hb3⟩; have HO3 := Aside0.mk (Kd.R_below HO1.out hb3); have BF3 := Aside0.mk (blk_below BF1.out hb3); have BA3 := Aside0.mk (blk_below BA1.out hb3); have BT3 := Aside0.mk (blk_below BT1.out hb3); have BP3 := Aside0.mk (blk_below BP1.out hb3); have HB3 := Aside0.mk (below_step HB1.out hb3); clear hb3))
              rw [← hgP] at BP3
              rw [← hgP]
              have GP := Aside0.mk (show w.heap.size ≤ gP ∧ gF ≠ gP ∧ gA ≠ gP ∧ gT ≠ gP from ⟨by have := below_size HB.out; omega, by have := HLF.out; omega, by have := HLA.out; omega, by have := HLT.out; omega⟩)
              clear hgP a0 a1 t0 t1 a0' a1' t0' t1' ft0 ft1 HO1 BF1 BA1 BT1 BP1 HB1 HO BF BA BT HB HLF HLA HLT hx0 hx1
              have a0 : w3.cell? ⟨gA, 0, none⟩ = some (.int .i64 at'.f0) := blk_cell BA3.out 0
              have a1 : w3.cell? ⟨gA, 1, none⟩ = some (.int .i64 at'.f1) := blk_cell BA3.out 1
              have t0 : w3.cell? ⟨gT, 0, none⟩ = some (.int .i64 tq.f0) := blk_cell BT3.out 0
              have t1 : w3.cell? ⟨gT, 1, none⟩ = some (.int .i64 tq.f1) := blk_cell BT3.out 1
              have p0' : w3.cell? ⟨gP, 0, none⟩ = some (.int .i64 p.f0) := blk_cell BP3.out 0
              have p1' : w3.cell? ⟨gP, 1, none⟩ = some (.int .i64 p.f1) := blk_cell BP3.out 1
              have ft0 := blk_frozen BT3.out 0
              have ft1 := blk_frozen BT3.out 1
              have HSG := Aside0.mk (show (cr < 0 ↔ sgn cr < 0) ∧ (cr = 0 ↔ sgn cr = 0) from ⟨sgn_neg.symm, sgn_zero.symm⟩)
              have HQ1 := Aside0.mk (sqd_is HOA.out HOP.out)
              have HQ2 := Aside0.mk (sqd_is HOA.out HOT.out)
              generalize sgn cr = sg at *
              by_cases e2 : tq = at'
              · have d2 : (tq.f0 == at'.f0 && tq.f1 == at'.f1) = true := (eqB' tq at').2 e2
                have HS2 := Aside0.mk (show scStep at' tq p = p by rw [HSS.out, if_pos (Or.inl e2)])
                clear HSS e2
                go_quiet (fail)
                go_wp2
                go_roundw
                case rel => exact ⟨j + 1, by omega, by go_num, ⟨by rw [HS.out]; exact HPT.out⟩, ⟨by rw [HS.out, HS2.out]; exact blk_put (blk_put (kN BT3.out nq) 0 _ rfl) 1 _ rfl⟩, ⟨Kd.R_far (p := ⟨gT, 1, none⟩) (Kd.R_far (p := ⟨gT, 0, none⟩) (Kd.R_drewN HO3.out nq) (fun _ h => h.2) _) (fun _ h => h.2) _⟩, ⟨blk_far (blk_far (kN BF3.out nq) HGT.out.2.1 _) HGT.out.2.1 _⟩, ⟨blk_far (blk_far (kN BA3.out nq) HGT.out.2.2 _) HGT.out.2.2 _⟩, ⟨lS (lS (lN HB3.out nq) HGT.out.1) HGT.out.1⟩⟩
                case measure => simp [intOf]; omega
              · have d2 : (tq.f0 == at'.f0 && tq.f1 == at'.f1) = false := by rw [eqB, decide_eq_false_iff_not]; exact e2
                by_cases e3 : sg < 0
                · have d3 : decide (sg < 0) = true := decide_eq_true e3
                  have HS2 := Aside0.mk (show scStep at' tq p = p by rw [HSS.out, if_pos (Or.inr (Or.inl (HSG.out.1.2 e3)))])
                  clear HSS e2 e3
                  go_quiet (fail)
                  go_wp2
                  go_roundw
                  case rel => exact ⟨j + 1, by omega, by go_num, ⟨by rw [HS.out]; exact HPT.out⟩, ⟨by rw [HS.out, HS2.out]; exact blk_put (blk_put (kN BT3.out nq) 0 _ rfl) 1 _ rfl⟩, ⟨Kd.R_far (p := ⟨gT, 1, none⟩) (Kd.R_far (p := ⟨gT, 0, none⟩) (Kd.R_drewN HO3.out nq) (fun _ h => h.2) _) (fun _ h => h.2) _⟩, ⟨blk_far (blk_far (kN BF3.out nq) HGT.out.2.1 _) HGT.out.2.1 _⟩, ⟨blk_far (blk_far (kN BA3.out nq) HGT.out.2.2 _) HGT.out.2.2 _⟩, ⟨lS (lS (lN HB3.out nq) HGT.out.1) HGT.out.1⟩⟩
                  case measure => simp [intOf]; omega
                · have d3 : decide (sg < 0) = false := decide_eq_false e3
                  by_cases e4 : sg = 0
                  · have d4 : (sg == 0) = true := beq_iff_eq.2 e4
                    have HS2 := Aside0.mk (show scStep at' tq p = if sqd at' tq < sqd at' p then p else tq by
                      rw [HSS.out]
                      by_cases h : sqd at' tq < sqd at' p
                      · rw [if_pos h, if_pos (Or.inr (Or.inr ⟨HSG.out.2.2 e4, h⟩))]
                      · rw [if_neg h, if_neg (by rintro (h1 | h1 | h1); exact e2 h1; exact e3 (HSG.out.1.1 h1); exact h h1.2)])
                    clear HSS e2 e3 e4
                    obtain ⟨b, hbq⟩ : ∃ b, decide (sqd at' tq < sqd at' p) = b := ⟨_, rfl⟩
                    have HBQ := Aside0.mk hbq
                    have HO3 := Aside0.mk (Kd.R_drew HO3.out)
                    have BF3 := Aside0.mk (kD BF3.out)
                    have BA3 := Aside0.mk (kD BA3.out)
                    have BT3 := Aside0.mk (kD BT3.out)
                    have BP3 := Aside0.mk (kD BP3.out)
                    have HB3 := Aside0.mk (lD HB3.out)
                    clear a0 a1 t0 t1 p0' p1' ft0 ft1
                    refine start_ (n := 20) (S := fun w' => w'.cell? ⟨gT, 0, none⟩ = some (.int .i64 tq.f0) ∧ w'.cell? ⟨gT, 1, none⟩ = some (.int .i64 tq.f1) ∧ w'.cell? ⟨gA, 0, none⟩ = some (.int .i64 at'.f0) ∧ w'.cell? ⟨gA, 1, none⟩ = some (.int .i64 at'.f1) ∧ w'.cell? ⟨gP, 0, none⟩ = some (.int .i64 p.f0) ∧ w'.cell? ⟨gP, 1, none⟩ = some (.int .i64 p.f1)) (ds := []) (Bs 0 20) (by kernel_rfl) rfl rfl ⟨(blk_cell BT3.out 0).trans rfl, (blk_cell BT3.out 1).trans rfl, (blk_cell BA3.out 0).trans rfl, (blk_cell BA3.out 1).trans rfl, (blk_cell BP3.out 0).trans rfl, (blk_cell BP3.out 1).trans rfl⟩ (fun hHeld => ?_); refine with_tabW refhull_tab refhull_bits (fun HT_ HW_ => ?_)
                    generalize w3.drew = w4 at HO3 BF3 BA3 BT3 BP3 HB3 hHeld ⊢
                    refine ta 0 75 (Bs 1 20) HT_ HW_ hHeld ?_
                    refine ta 1 76 (Bs 2 20) HT_ HW_ hHeld ?_
                    refine pu 2 77 (Bs 3 20) HT_ ?_
                    refine pu 3 78 (Bs 4 20) HT_ ?_
                    refine pu 4 79 (Bs 5 20) HT_ ?_
                    refine pu 5 80 (Bs 6 20) HT_ ?_
                    refine pu 6 81 (Bs 7 20) HT_ ?_
                    refine pu 7 82 (Bs 8 20) HT_ ?_
                    refine pu 8 83 (Bs 9 20) HT_ ?_
                    refine pu 9 84 (Bs 10 20) HT_ ?_
                    refine pu 10 85 (Bs 11 20) HT_ ?_
                    refine ta 11 86 (Bs 12 20) HT_ HW_ hHeld ?_
                    refine ta 12 87 (Bs 13 20) HT_ HW_ hHeld ?_
                    refine ta 14 89 (Br [13,1,1,5]) HT_ HW_ hHeld ?_
                    refine ta 15 90 (Br [13,1,2,4]) HT_ HW_ hHeld ?_
                    refine one_ (i := 13) (N := some 88) (Bs 16 20) rfl rfl (one_of HT_.out (by kernel_rfl)) (by decide) (fun K hK => ?_)
                    refine goes_ Try.func65 (by kernel_rfl) rfl #[.agg #[.int .i64 at'.f0, .int .i64 at'.f1], .agg #[.int .i64 p.f0, .int .i64 p.f1]] (by rfl) rfl rfl (by (try simp only [List.map_toArray, List.map_cons, List.map_nil]); first | done | rfl | (simp only [List.length_drop, List.length_take]; rfl)) ?_
                    with_reducible refine (silversideref01_Square.calls at'.f0 at'.f1 p.f0 p.f1 (sqd at' p) _ HQ1.out).mono ?_
                    rintro e w5 ⟨rfl, hb⟩
                    refine ⟨_, rfl, ?_⟩
                    replace HO3 := Aside0.mk (Kd.R_below HO3.out hb)
                    replace BF3 := Aside0.mk (blk_below (g := gF) BF3.out hb)
                    replace BA3 := Aside0.mk (blk_below (g := gA) BA3.out hb)
                    replace BT3 := Aside0.mk (blk_below (g := gT) BT3.out hb)
                    replace BP3 := Aside0.mk (blk_below (g := gP) BP3.out hb)
                    replace HB3 := Aside0.mk (below_step HB3.out hb)
                    (try clear hb)
                    (try clear hb2)
                    (try clear hk)
                    (try clear hi)
                    refine hK.out _ _ ⟨(blk_cell BT3.out 0).trans rfl, (blk_cell BT3.out 1).trans rfl, (blk_cell BA3.out 0).trans rfl, (blk_cell BA3.out 1).trans rfl, (blk_cell BP3.out 0).trans rfl, (blk_cell BP3.out 1).trans rfl⟩ (fun hHeld => ?_)
                    clear hK K
                    refine nm 88 ?_
                    refine one_ (i := 16) (N := some 91) (Bs 17 20) rfl rfl (one_of HT_.out (by kernel_rfl)) (by decide) (fun K hK => ?_)
                    refine goes_ Try.func65 (by kernel_rfl) rfl #[.agg #[.int .i64 at'.f0, .int .i64 at'.f1], .agg #[.int .i64 tq.f0, .int .i64 tq.f1]] (by rfl) rfl rfl (by (try simp only [List.map_toArray, List.map_cons, List.map_nil]); first | done | rfl | (simp only [List.length_drop, List.length_take]; rfl)) ?_
                    with_reducible refine (silversideref01_Square.calls at'.f0 at'.f1 tq.f0 tq.f1 (sqd at' tq) _ HQ2.out).mono ?_
                    rintro e w6 ⟨rfl, hb⟩
                    refine ⟨_, rfl, ?_⟩
                    replace HO3 := Aside0.mk (Kd.R_below HO3.out hb)
                    replace BF3 := Aside0.mk (blk_below (g := gF) BF3.out hb)
                    replace BA3 := Aside0.mk (blk_below (g := gA) BA3.out hb)
                    replace BT3 := Aside0.mk (blk_below (g := gT) BT3.out hb)
                    replace BP3 := Aside0.mk (blk_below (g := gP) BP3.out hb)
                    replace HB3 := Aside0.mk (below_step HB3.out hb)
                    (try clear hb)
                    (try clear hb2)
                    (try clear hk)
                    (try clear hi)
                    refine hK.out _ _ ⟨(blk_cell BT3.out 0).trans rfl, (blk_cell BT3.out 1).trans rfl, (blk_cell BA3.out 0).trans rfl, (blk_cell BA3.out 1).trans rfl, (blk_cell BP3.out 0).trans rfl, (blk_cell BP3.out 1).trans rfl⟩ (fun hHeld => ?_)
                    clear hK K
                    refine nm 91 ?_
                    refine pu 17 92 (Bs 18 20) HT_ ?_
                    refine pu 18 93 (Bs 19 20) HT_ ?_
                    refine pu 19 94 (Bs 20 20) HT_ ?_
                    refine done_ (done_of HT_.out (by kernel_rfl)) ?_
                    have t0 : w6.cell? ⟨gT, 0, none⟩ = some (.int .i64 tq.f0) := blk_cell BT3.out 0
                    have t1 : w6.cell? ⟨gT, 1, none⟩ = some (.int .i64 tq.f1) := blk_cell BT3.out 1
                    have p0' : w6.cell? ⟨gP, 0, none⟩ = some (.int .i64 p.f0) := blk_cell BP3.out 0
                    have p1' : w6.cell? ⟨gP, 1, none⟩ = some (.int .i64 p.f1) := blk_cell BP3.out 1
                    have ft0 := blk_frozen BT3.out 0
                    have ft1 := blk_frozen BT3.out 1
                    cases b with
                    | true =>
                      have HS2 := Aside0.mk (show scStep at' tq p = p by rw [HS2.out, if_pos (of_decide_eq_true HBQ.out)])
                      go_wp2
                      go_roundw
                      case rel => exact ⟨j + 1, by omega, by go_num, ⟨by rw [HS.out]; exact HPT.out⟩, ⟨by rw [HS.out, HS2.out]; exact blk_put (blk_put BT3.out 0 _ rfl) 1 _ rfl⟩, ⟨Kd.R_far (p := ⟨gT, 1, none⟩) (Kd.R_far (p := ⟨gT, 0, none⟩) HO3.out (fun _ h => h.2) _) (fun _ h => h.2) _⟩, ⟨blk_far (blk_far BF3.out HGT.out.2.1 _) HGT.out.2.1 _⟩, ⟨blk_far (blk_far BA3.out HGT.out.2.2 _) HGT.out.2.2 _⟩, ⟨lS (lS HB3.out HGT.out.1) HGT.out.1⟩⟩
                      case measure => simp [intOf]; omega
                    | false =>
                      have HS2 := Aside0.mk (show scStep at' tq p = tq by rw [HS2.out, if_neg (of_decide_eq_false HBQ.out)])
                      go_wp2
                      go_roundw
                      case rel => exact ⟨j + 1, by omega, by go_num, ⟨by rw [HS.out]; exact HPT.out⟩, ⟨by rw [HS.out, HS2.out]; exact BT3.out⟩, ⟨HO3.out⟩, ⟨BF3.out⟩, ⟨BA3.out⟩, ⟨HB3.out⟩⟩
                      case measure => simp [intOf]; omega
                  · have d4 : (sg == 0) = false := beq_eq_false_iff_ne.2 e4
                    have HS2 := Aside0.mk (show scStep at' tq p = tq by rw [HSS.out, if_neg (by rintro (h1 | h1 | h1); exact e2 h1; exact e3 (HSG.out.1.1 h1); exact e4 (HSG.out.2.1 h1.1))])
                    clear HSS e2 e3 e4
                    go_quiet (fail)
                    go_wp2
                    go_roundw
                    case rel => exact ⟨j + 1, by omega, by go_num, ⟨by rw [HS.out]; exact HPT.out⟩, ⟨by rw [HS.out, HS2.out]; exact (kN BT3.out nq)⟩, ⟨(Kd.R_drewN HO3.out nq)⟩, ⟨(kN BF3.out nq)⟩, ⟨(kN BA3.out nq)⟩, ⟨(lN HB3.out nq)⟩⟩
                    case measure => simp [intOf]; omega
          · obtain rfl : j = l0.length := by omega
            rw [List.take_length, HNX.out] at BT HOT t0 t1
            have f0 : wr.cell? ⟨gF, 0, none⟩ = some (.int .i64 f.f0) := blk_cell BF.out 0
            have f1 : wr.cell? ⟨gF, 1, none⟩ = some (.int .i64 f.f1) := blk_cell BF.out 1
            have HTK := Aside0.mk (show i + 1 < H.length → H.take (i + 1) ++ [pt H (i + 1)] = H.take (i + 1 + 1) from fun h => (take_pt H (i + 1) h).symm)
            by_cases hn : i + 1 < H.length
            · obtain ⟨n1, n2, n3⟩ := HNE.out.1 hn
              have HTK := Aside0.mk (HTK.out hn)
              rw [n1] at BT HOT t0 t1
              have HPN := Aside0.mk (show pt H (i + 1) = pt H (i + 1) from rfl)
              obtain ⟨tq, htq⟩ : ∃ q, q = pt H (i + 1) := ⟨_, rfl⟩
              rw [← htq] at BT HOT t0 t1 n2 n3 HTK
              have HTQ := Aside0.mk htq
              clear htq HPN
              have d1 : (tq.f0 == at'.f0 && tq.f1 == at'.f1) = false := by rw [eqB, decide_eq_false_iff_not]; exact n2
              have d2 : (tq.f0 == f.f0 && tq.f1 == f.f1) = false := by rw [eqB, decide_eq_false_iff_not]; exact n3
              clear n1 n2 n3 HNE HNX
              have hlen : (H.take (i + 1)).length ≤ 8192 := by rw [List.length_take]; omega
              go_wp2_with (first | ((with_reducible refine gate_builtin (b := .append) (xs := #[.tmp 105, .tmp 107]) rfl ?_); at_builtin; refine Kd.R_append k31 (w0 := w) w.heap.size rfl (.tmp 105) (.tmp 107) 22 31 (.agg #[(.int .i64 0), (.int .i64 0)]) 16 rfl Try.underlying22 info31 rfl (by decide) (by omega) u5 (H.take (i + 1)) tq [.int .i64 tq.f0, .int .i64 tq.f1] (fun k_ => (k_ ≠ gF ∧ k_ ≠ gA) ∧ k_ ≠ gT) (fun _ => False) rfl rfl ?aP (fun _ hk => hk.elim) ?aF ?aO ?aB ?aS ?aL ?_; (case aP => exact k31_mkM _ _ _ tq); (case aB => exact HB.out); (case aF => exact (fun k_ hk => ⟨⟨Kd.freshB (g := gF) (kX BF.out) k_ hk, Kd.freshB (g := gA) (kX BA.out) k_ hk⟩, Kd.freshB (g := gT) (kX BT.out) k_ hk⟩)); (case aO => exact HO.out); (case aS => exact (below_size HB.out)); (case aL => omega); intro v5 w5 ho hb hg hat; have BF5 := Aside0.mk (blk_grown (g := gF) (kX BF.out) hg (fun e => (HO.out.1 _ e.symm).1.1 rfl)); have BA5 := Aside0.mk (blk_grown (g := gA) (kX BA.out) hg (fun e => (HO.out.1 _ e.symm).1.2 rfl)); have BT5 := Aside0.mk (blk_grown (g := gT) (kX BT.out) hg (fun e => (HO.out.1 _ e.symm).2 rfl)); have HB5 := Aside0.mk hb; have HO5 := Aside0.mk ho; clear BF BA BT HB HO ho hb hg hat t0 t1 a0 a1 f0 f1 ft0 ft1; have t0 : w5.cell? ⟨gT, 0, none⟩ = some (.int .i64 tq.f0) := blk_cell BT5.out 0; have t1 : w5.cell? ⟨gT, 1, none⟩ = some (.int .i64 tq.f1) := blk_cell BT5.out 1; have a0 : w5.cell? ⟨gA, 0, none⟩ = some (.int .i64 at'.f0) := blk_cell BA5.out 0; have a1 : w5.cell? ⟨gA, 1, none⟩ = some (.int .i64 at'.f1) := blk_cell BA5.out 1; have fa0 := blk_frozen BA5.out 0; have fa1 := blk_frozen BA5.out 1))
              have hsz : ((w5.setCell ⟨gA, 0, none⟩ (.int .i64 tq.f0)).setCell ⟨gA, 1, none⟩ (.int .i64 tq.f1)).heap.size = w5.heap.size := by simp [World.setCell]
              have BN := Aside0.mk (heap_alloc_new ((w5.setCell ⟨gA, 0, none⟩ (.int .i64 tq.f0)).setCell ⟨gA, 1, none⟩ (.int .i64 tq.f1)) (Obj.cells #[.int .i64 tq.f0, .int .i64 tq.f1] 31))
              rw [hsz] at BN
              go_roundg (gk - 1)
              case measure => omega
              case rel => exact ⟨i + 1, w5.heap.size, by omega, hn, rfl, ⟨below_size HB5.out, by have := blk_lt BF5.out; omega⟩, ⟨by rw [← HTK.out]; exact Kd.R_mono (Kd.R_alloc (Kd.R_far (p := ⟨gA, 1, none⟩) (Kd.R_far (p := ⟨gA, 0, none⟩) (Kd.R_elderB HO5.out w5.heap.size (Nat.le_refl _)) (fun _ h => h.1.1.2) _) (fun _ h => h.1.1.2) _) _) (fun _ h => ⟨h.1.1.1, h.2⟩)⟩, ⟨kA (blk_far (blk_far BF5.out HGA.out.2 _) HGA.out.2 _) _⟩, ⟨by rw [← HTQ.out]; exact BN.out⟩, ⟨lA (lS (lS HB5.out HGA.out.1) HGA.out.1) _⟩⟩
            · have h1 : pt H (nxt i H.length) = f := by rw [HNE.out.2 hn]; exact HPF.out
              rw [h1] at BT HOT t0 t1
              have d2 : (f.f0 == f.f0 && f.f1 == f.f1) = true := (eqB' f f).2 rfl
              have HTK2 := Aside0.mk (show H.take (i + 1) = H by rw [show i + 1 = H.length by omega, List.take_length])
              clear h1
              obtain ⟨b, hb⟩ : ∃ b, (f.f0 == at'.f0 && f.f1 == at'.f1) = b := ⟨_, rfl⟩
              cases b with
              | true =>
                go_wp2
                go_ret
                exact ⟨_, rfl, by rw [HHE.out]; rw [HTK2.out] at HO; exact Kd.R_mono HO.out (fun _ _ => trivial), HB.out⟩
              | false =>
                go_wp2
                go_ret
                exact ⟨_, rfl, by rw [HHE.out]; rw [HTK2.out] at HO; exact Kd.R_mono HO.out (fun _ _ => trivial), HB.out⟩
/-- the reference's hull, or nothing where it is no set of points -/
def silversideref01_Hull.f (l0 : List S31) : Option (List S31) := if 1 ≤ l0.length ∧ l0.length ≤ 4096 ∧ allOk l0 = true then some (cornersS l0) else none
theorem silversideref01_Hull.calls (A0 : Option Addr) (c0 : Nat) (l0 : List S31) (r : List S31) (w : World) (hr0 : Kd.C k31 w A0 l0.length l0) (hc0 : l0.length ≤ c0) (h : silversideref01_Hull.f l0 = some r) :
    Calls Try.prog 35 #[.slice A0 l0.length c0] w fun e w' => ∃ v0_ : Value, e = .returned (v0_) ∧ Kd.R k31 31 w' w.heap.size (fun _ => True) v0_ r ∧ Below w.heap.size w w' := by
  unfold silversideref01_Hull.f at h
  split at h
  · rename_i hh
    cases h
    exact refhull_calls A0 c0 l0 w hr0 hc0 hh.1 hh.2.1 hh.2.2
  · cases h
end Go.Proofs.Ythaklbjcjoolcaa.P
namespace Go.Proofs.Ythaklbjcjoolcaa.P
open Go.RowKit Go.Proofs.YthaklbjcjoolcaaW.PrintWords Go.Proofs.YthaklbjcjoolcaaW.PrintLast Go.Proofs.YthaklbjcjoolcaaW.PrintMore
theorem refnext_is (i n : Nat) (h : i < n) (hn : n ≤ 4096) : silversideref01_next.f (i : Int) (n : Int) = some ((((i + 1) % n : Nat)) : Int) := by
  unfold silversideref01_next.f
  rw [w64i (by omega) (by omega)]
  by_cases h1 : i + 1 < n
  · rw [if_pos (by omega), Nat.mod_eq_of_lt h1]; rfl
  · have : i + 1 = n := by omega
    rw [if_neg (by omega), this, Nat.mod_self]; rfl
end Go.Proofs.Ythaklbjcjoolcaa.P
namespace Go.Proofs.Ythaklbjcjoolcaa.P
open Go.RowKit Go.Shelf Go.Sort Go.Proofs.YthaklbjcjoolcaaW.PrintWords Go.Proofs.YthaklbjcjoolcaaW.PrintLast Go.Proofs.YthaklbjcjoolcaaW.PrintMore
attribute [local go_sem] max2_int min2_int max_two min_two
/-- the point (x/d, y/d) is in the hull with some corners, as the reference says -/
def refInB (l : List S31) (x y d : Int) : Bool :=
  if l.length = 1 then decide (x = wrap64 ((pt l 0).f0 * d) ∧ y = wrap64 ((pt l 0).f1 * d))
  else (List.range l.length).all (fun i => decide (0 ≤ sideW (pt l i) (pt l ((i + 1) % l.length)) x y d)) && (decide (2 < l.length) || decide ((wrap64 (mn (pt l 0).f0 (pt l 1).f0 * d) ≤ x ∧ x ≤ wrap64 (mx (pt l 0).f0 (pt l 1).f0 * d)) ∧ wrap64 (mn (pt l 0).f1 (pt l 1).f1 * d) ≤ y ∧ y ≤ wrap64 (mx (pt l 0).f1 (pt l 1).f1 * d)))
theorem refin_false {l : List S31} {x y d : Int} {k : Nat} (hk : k < l.length) (h1 : 2 ≤ l.length) (h : sideW (pt l k) (pt l ((k + 1) % l.length)) x y d < 0) : refInB l x y d = false := by
  unfold refInB
  rw [if_neg (by omega)]
  have : ((List.range l.length).all fun i => decide (0 ≤ sideW (pt l i) (pt l ((i + 1) % l.length)) x y d)) = false := by
    rw [List.all_eq_false]
    exact ⟨k, List.mem_range.2 hk, by rw [decide_eq_true_eq]; omega⟩
  rw [this, Bool.false_and]
theorem refin_all {l : List S31} {x y d : Int} (h : ∀ i, i < l.length → 0 ≤ sideW (pt l i) (pt l ((i + 1) % l.length)) x y d) : ((List.range l.length).all fun i => decide (0 ≤ sideW (pt l i) (pt l ((i + 1) % l.length)) x y d)) = true := by
  rw [List.all_eq_true]
  exact fun i hi => decide_eq_true (h i (List.mem_range.1 hi))
theorem refin_true {l : List S31} {x y d : Int} (h2 : 2 < l.length) (h : ∀ i, i < l.length → 0 ≤ sideW (pt l i) (pt l ((i + 1) % l.length)) x y d) : refInB l x y d = true := by
  unfold refInB
  rw [if_neg (by omega), refin_all h, decide_eq_true h2]; rfl
theorem refin_two {l : List S31} {x y d : Int} (h2 : l.length = 2) (h : ∀ i, i < l.length → 0 ≤ sideW (pt l i) (pt l ((i + 1) % l.length)) x y d) : refInB l x y d = decide ((wrap64 (mn (pt l 0).f0 (pt l 1).f0 * d) ≤ x ∧ x ≤ wrap64 (mx (pt l 0).f0 (pt l 1).f0 * d)) ∧ wrap64 (mn (pt l 0).f1 (pt l 1).f1 * d) ≤ y ∧ y ≤ wrap64 (mx (pt l 0).f1 (pt l 1).f1 * d)) := by
  unfold refInB
  rw [if_neg (by omega), refin_all h, decide_eq_false (show ¬ 2 < l.length by omega)]; rfl
def refin_T : Bool × List (List Nat × List Nat) := (true, [([], []), ([], []), ([0, 1], [0, 1]), ([2], [2]), ([], []), ([], []), ([], []), ([6], [6]), ([5, 7], [5, 7]), ([4, 8], [4, 8]), ([9], [9]), ([], []), ([], []), ([11, 3, 8, 0, 1, 2, 3, 11, 12], [3, 11]), ([12, 10, 13, 0, 1, 2, 3, 4, 5, 6, 7, 8, 9, 10, 11, 12, 13], [10, 12])])
def refin_B : List Nat := [0, 0, 3, 7, 0, 0, 0, 64, 224, 496, 1008, 0, 0, 6639, 16383]
theorem refin_tab : rtab .any (opsOf Try.f71 6) = refin_T := by kernel_rfl
theorem refin_bits : waitsOk refin_T.2 refin_B = true := by kernel_rfl
set_option maxHeartbeats 4000000 in
set_option maxRecDepth 100000 in
theorem refin_more (A0 : Option Addr) (c0 : Nat) (l0 : List S31) (x y d : Int) (w : World) (hr0 : Kd.C k31 w A0 l0.length l0) (hc0 : l0.length ≤ c0) (hl1 : 2 ≤ l0.length) (hsz : l0.length ≤ 4096) :
    Calls Try.prog 71 #[.slice A0 l0.length c0, .int .i64 x, .int .i64 y, .int .i64 d] w fun e w' => e = .returned (.bool (refInB l0 x y d)) ∧ Below w.heap.size w w' := by
  have HR0 := Aside0.mk hr0
  have HB0 := Aside0.mk (Below.refl w.heap.size w)
  have hne : (((l0.length : Nat) : Int) == 1) = false := by rw [beq_eq_false_iff_ne]; omega
  obtain ⟨b, hbv⟩ : ∃ b, b = refInB l0 x y d := ⟨_, rfl⟩
  have HV := Aside0.mk hbv
  rw [← hbv]
  clear hr0 hbv
  go_enter Try.func71, Try.ntmps71
  go_wp2
  go_loopw [9] (fun v9 wr => ∃ k : Nat, k ≤ l0.length ∧ v9 = .int .i64 k ∧ Aside0 (∀ i, i < k → 0 ≤ sideW (pt l0 i) (pt l0 ((i + 1) % l0.length)) x y d) ∧ Aside0 (Below w.heap.size w wr)) (fun v9 _ => l0.length - (intOf v9).toNat)
  case atStart => exact ⟨0, by omega, rfl, ⟨fun i h => by omega⟩, HB0⟩
  case round =>
    clear HB0
    obtain ⟨k, hk, rfl, HA, HB⟩ := hrel
    by_cases hlt : k < l0.length
    · obtain ⟨n, hn⟩ : ∃ n, n = (k + 1) % l0.length := ⟨_, rfl⟩
      have hnl : n < l0.length := by rw [hn]; exact Nat.mod_lt _ (by omega)
      have HNX := Aside0.mk (refnext_is k l0.length hlt hsz)
      rw [← hn] at HNX
      have HN := Aside0.mk hn
      clear hn
      obtain ⟨ad, rfl, hw_p0, hw_p1⟩ := at_T31 HR0.out (k : Int) (by omega) (by omega)
      obtain ⟨ad', had', hw_q0, hw_q1⟩ := at_T31 HR0.out (n : Int) (by omega) (by omega)
      cases had'
      rw [rd_pt, Int.toNat_natCast] at hw_p0 hw_p1 hw_q0 hw_q1
      have hltI : ((k : Nat) : Int) < ((l0.length : Nat) : Int) := by omega
      have hnlI : ((n : Nat) : Int) < ((l0.length : Nat) : Int) := by omega
      obtain ⟨p, hp⟩ : ∃ p, p = pt l0 k := ⟨_, rfl⟩
      obtain ⟨q, hq⟩ : ∃ q, q = pt l0 n := ⟨_, rfl⟩
      have HSD := Aside0.mk (show sideW (pt l0 k) (pt l0 ((k + 1) % l0.length)) x y d = sideW p q x y d by rw [← HN.out, hp, hq])
      rw [← hp] at hw_p0 hw_p1
      rw [← hq] at hw_q0 hw_q1
      clear hp hq
      go_wp2
      have HBd := Aside0.mk (lD HB.out)
      clear HB
      have HB := HBd
      clear HBd
      refine start_ (n := 15) (S := fun w' => w'.cell? (ad.add (k * 2)) = some (.int .i64 (p.f0)) ∧ w'.cell? ⟨(ad.add (k * 2)).block, (ad.add (k * 2)).off + 1, none⟩ = some (.int .i64 (p.f1)) ∧ w'.cell? (ad.add (n * 2)) = some (.int .i64 (q.f0)) ∧ w'.cell? ⟨(ad.add (n * 2)).block, (ad.add (n * 2)).off + 1, none⟩ = some (.int .i64 (q.f1))) (ds := []) (Bs 0 15) (by kernel_rfl) rfl rfl ⟨(cB HB.out hw_p0), (cB HB.out hw_p1), (cB HB.out hw_q0), (cB HB.out hw_q1)⟩ (fun hHeld => ?_); refine with_tabW refin_tab refin_bits (fun HT_ HW_ => ?_)
      generalize wr.drew = w7 at HB hHeld ⊢
      refine pu 0 41 (Bs 1 15) HT_ ?_
      refine pu 1 42 (Bs 2 15) HT_ ?_
      refine pu 2 43 (Bs 3 15) HT_ ?_
      refine pu 4 45 (Br [3,1,1,10]) HT_ ?_
      refine pu 5 46 (Br [3,1,2,9]) HT_ ?_
      refine pu 6 47 (Br [3,1,3,8]) HT_ ?_
      refine pu 7 48 (Br [3,1,4,7]) HT_ ?_
      refine ta 3 44 (Bs 8 15) HT_ HW_ hHeld ?_
      refine join_ (σ := Nat × Nat) 2 (Bs 13 15) (fun s_ => [(49, .int .i64 ((n : Nat) : Int)), (10, .pointer (some ⟨s_.1, 0, none⟩)), (11, .pointer (some ⟨s_.2, 0, none⟩)), (50, .pointer (some (ad.add (n * 2)))), (51, .agg #[.int .i64 (q.f0), .int .i64 (q.f1)])]) (fun s_ w' => (w'.cell? (ad.add (k * 2)) = some (.int .i64 (p.f0)) ∧ w'.cell? ⟨(ad.add (k * 2)).block, (ad.add (k * 2)).off + 1, none⟩ = some (.int .i64 (p.f1)) ∧ w'.cell? (ad.add (n * 2)) = some (.int .i64 (q.f0)) ∧ w'.cell? ⟨(ad.add (n * 2)).block, (ad.add (n * 2)).off + 1, none⟩ = some (.int .i64 (q.f1))) ∧ (w'.heap[s_.1]? = some (.cells #[.int .i64 0, .int .i64 0] 31 (0, 0))) ∧ (w'.heap[s_.2]? = some (.cells #[.int .i64 0, .int .i64 0] 31 (0, 0))) ∧ (w.heap.size ≤ s_.1) ∧ (w.heap.size ≤ s_.1) ∧ (s_.2 ≠ s_.1) ∧ (s_.1 ≠ s_.2) ∧ (w.heap.size ≤ s_.2) ∧ (w.heap.size ≤ s_.2) ∧ (Below w.heap.size w w')) ?_ ?_
      rotate_left
      ·intro hJ8_11_12
       refine join_ (σ := Nat) 3 (Bs 12 15) (fun s_ => [(49, .int .i64 ((n : Nat) : Int)), (10, .pointer (some ⟨s_, 0, none⟩)), (50, .pointer (some (ad.add (n * 2)))), (51, .agg #[.int .i64 (q.f0), .int .i64 (q.f1)])]) (fun s_ w' => (w'.cell? (ad.add (k * 2)) = some (.int .i64 (p.f0)) ∧ w'.cell? ⟨(ad.add (k * 2)).block, (ad.add (k * 2)).off + 1, none⟩ = some (.int .i64 (p.f1)) ∧ w'.cell? (ad.add (n * 2)) = some (.int .i64 (q.f0)) ∧ w'.cell? ⟨(ad.add (n * 2)).block, (ad.add (n * 2)).off + 1, none⟩ = some (.int .i64 (q.f1))) ∧ (w'.heap[s_]? = some (.cells #[.int .i64 0, .int .i64 0] 31 (0, 0))) ∧ (w.heap.size ≤ s_) ∧ (w.heap.size ≤ s_) ∧ (Below w.heap.size w w')) ?_ ?_
       rotate_left
       ·intro hJ8_11
        refine join_ (σ := Nat) 3 (Br [11,1,1,2]) (fun s_ => [(49, .int .i64 ((n : Nat) : Int)), (11, .pointer (some ⟨s_, 0, none⟩)), (50, .pointer (some (ad.add (n * 2)))), (51, .agg #[.int .i64 (q.f0), .int .i64 (q.f1)])]) (fun s_ w' => (w'.cell? (ad.add (k * 2)) = some (.int .i64 (p.f0)) ∧ w'.cell? ⟨(ad.add (k * 2)).block, (ad.add (k * 2)).off + 1, none⟩ = some (.int .i64 (p.f1)) ∧ w'.cell? (ad.add (n * 2)) = some (.int .i64 (q.f0)) ∧ w'.cell? ⟨(ad.add (n * 2)).block, (ad.add (n * 2)).off + 1, none⟩ = some (.int .i64 (q.f1))) ∧ (w'.heap[s_]? = some (.cells #[.int .i64 0, .int .i64 0] 31 (0, 0))) ∧ (w.heap.size ≤ s_) ∧ (w.heap.size ≤ s_) ∧ (Below w.heap.size w w')) ?_ ?_
        rotate_left
        ·intro hJ8_12
         refine join_ (σ := Nat × Nat) 5 (Br [8,3,2,2]) (fun s_ => [(10, .pointer (some ⟨s_.1, 0, none⟩)), (11, .pointer (some ⟨s_.2, 0, none⟩))]) (fun s_ w' => (w'.cell? (ad.add (k * 2)) = some (.int .i64 (p.f0)) ∧ w'.cell? ⟨(ad.add (k * 2)).block, (ad.add (k * 2)).off + 1, none⟩ = some (.int .i64 (p.f1)) ∧ w'.cell? (ad.add (n * 2)) = some (.int .i64 (q.f0)) ∧ w'.cell? ⟨(ad.add (n * 2)).block, (ad.add (n * 2)).off + 1, none⟩ = some (.int .i64 (q.f1))) ∧ (w'.heap[s_.1]? = some (.cells #[.int .i64 0, .int .i64 0] 31 (0, 0))) ∧ (w'.heap[s_.2]? = some (.cells #[.int .i64 0, .int .i64 0] 31 (0, 0))) ∧ (w.heap.size ≤ s_.1) ∧ (w.heap.size ≤ s_.1) ∧ (s_.2 ≠ s_.1) ∧ (s_.1 ≠ s_.2) ∧ (w.heap.size ≤ s_.2) ∧ (w.heap.size ≤ s_.2) ∧ (Below w.heap.size w w')) ?_ ?_
         rotate_left
         ·intro hJ11_12
          refine join_ (σ := Unit) 4 (Bs 11 15) (fun s_ => [(49, .int .i64 ((n : Nat) : Int)), (50, .pointer (some (ad.add (n * 2)))), (51, .agg #[.int .i64 (q.f0), .int .i64 (q.f1)])]) (fun s_ w' => (w'.cell? (ad.add (k * 2)) = some (.int .i64 (p.f0)) ∧ w'.cell? ⟨(ad.add (k * 2)).block, (ad.add (k * 2)).off + 1, none⟩ = some (.int .i64 (p.f1)) ∧ w'.cell? (ad.add (n * 2)) = some (.int .i64 (q.f0)) ∧ w'.cell? ⟨(ad.add (n * 2)).block, (ad.add (n * 2)).off + 1, none⟩ = some (.int .i64 (q.f1))) ∧ (Below w.heap.size w w')) ?_ ?_
          rotate_left
          ·intro hJ8
           refine join_ (σ := Nat) 6 (Br [8,3,1,3]) (fun s_ => [(10, .pointer (some ⟨s_, 0, none⟩))]) (fun s_ w' => (w'.cell? (ad.add (k * 2)) = some (.int .i64 (p.f0)) ∧ w'.cell? ⟨(ad.add (k * 2)).block, (ad.add (k * 2)).off + 1, none⟩ = some (.int .i64 (p.f1)) ∧ w'.cell? (ad.add (n * 2)) = some (.int .i64 (q.f0)) ∧ w'.cell? ⟨(ad.add (n * 2)).block, (ad.add (n * 2)).off + 1, none⟩ = some (.int .i64 (q.f1))) ∧ (w'.heap[s_]? = some (.cells #[.int .i64 0, .int .i64 0] 31 (0, 0))) ∧ (w.heap.size ≤ s_) ∧ (w.heap.size ≤ s_) ∧ (Below w.heap.size w w')) ?_ ?_
           rotate_left
           ·intro hJ11
            refine join_ (σ := Nat) 6 (Br [8,4,1,2]) (fun s_ => [(11, .pointer (some ⟨s_, 0, none⟩))]) (fun s_ w' => (w'.cell? (ad.add (k * 2)) = some (.int .i64 (p.f0)) ∧ w'.cell? ⟨(ad.add (k * 2)).block, (ad.add (k * 2)).off + 1, none⟩ = some (.int .i64 (p.f1)) ∧ w'.cell? (ad.add (n * 2)) = some (.int .i64 (q.f0)) ∧ w'.cell? ⟨(ad.add (n * 2)).block, (ad.add (n * 2)).off + 1, none⟩ = some (.int .i64 (q.f1))) ∧ (w'.heap[s_]? = some (.cells #[.int .i64 0, .int .i64 0] 31 (0, 0))) ∧ (w.heap.size ≤ s_) ∧ (w.heap.size ≤ s_) ∧ (Below w.heap.size w w')) ?_ ?_
            rotate_left
            ·intro hJ12
             refine three_ (i := 8) (j := 11) (k := 12) (Ni := some 49) (Nj := some 10) (Nk := some 11) (Bs 9 15) (Br [8,3,1,3]) (Br [8,4,1,2]) rfl rfl rfl rfl rfl rfl (three_of HT_.out (by kernel_rfl)) (by decide) (by decide) (by decide) (fun K hK => ?_) (fun K hK => ?_) (fun K hK => ?_)
             ·skip
              refine goes_ Try.func54 (by kernel_rfl) rfl #[.int .i64 ((k : Nat) : Int), .int .i64 (l0.length : Int)] (by rfl) rfl rfl (by (try simp only [List.map_toArray, List.map_cons, List.map_nil]); first | done | rfl | (simp only [List.length_drop, List.length_take]; rfl)) ?_
              with_reducible refine (silversideref01_next.calls ((k : Nat) : Int) (l0.length : Int) ((n : Nat) : Int) _ HNX.out).mono ?_
              rintro e w' ⟨rfl, ⟨nd, rfl⟩⟩
              refine ⟨_, rfl, ?_⟩
              refine hK.out _ _ ⟨(cB HB.out hw_p0), (cB HB.out hw_p1), (cB HB.out hw_q0), (cB HB.out hw_q1)⟩ (fun hHeld => ?_)
              clear hK K
              refine nm 49 ?_
              refine pu 9 50 (Bs 10 15) HT_ ?_
              refine ta 10 51 (Bs 11 15) HT_ HW_ hHeld ?_
              exact norm_ (by first | (simp only [putAll, Act.put, sA, sB, sC]; done) | (simp only [putAll, Act.put, sA, sB, sC]; rfl)) (hJ8 () _ ⟨hHeld, lB⟩)
             ·skip
              refine box_step ?hg (N := 10) ?hd (cs := #[.int .i64 0, .int .i64 0]) (t := 31) ?hr ?_; (case hd => rfl); (case hg => rfl); (case hr => first | (go_simp; done) | (go_simp; rfl))
              intro gG1 hg w8 hbox hb
              have n0_ := Aside0.mk (below_step lB hb)
              have n1_ := Aside0.mk (hbox)
              have n2_ := Aside0.mk ((by rw [hg]; exact (below_size lB) : w.heap.size ≤ gG1))
              have n3_ := Aside0.mk ((by rw [hg]; exact (below_size lB) : w.heap.size ≤ gG1))
              clear HB
              have HB := n0_
              have BKG1 := n1_
              have GWG1 := n2_
              have GEG1 := n3_
              clear n0_ n1_ n2_ n3_
              clear hb hbox hg
              refine hK.out _ _ ⟨(cB HB.out hw_p0), (cB HB.out hw_p1), (cB HB.out hw_q0), (cB HB.out hw_q1)⟩ (fun hHeld => ?_)
              clear hK K
              refine nm 10 ?_
              exact norm_ (by first | (simp only [putAll, Act.put, sA, sB, sC]; done) | (simp only [putAll, Act.put, sA, sB, sC]; rfl)) (hJ11 (gG1) _ ⟨hHeld, (kX BKG1.out), GWG1.out, GEG1.out, lB⟩)
             ·skip
              refine box_step ?hg (N := 11) ?hd (cs := #[.int .i64 0, .int .i64 0]) (t := 31) ?hr ?_; (case hd => rfl); (case hg => rfl); (case hr => first | (go_simp; done) | (go_simp; rfl))
              intro gG2 hg w8 hbox hb
              have n0_ := Aside0.mk (below_step lB hb)
              have n1_ := Aside0.mk (hbox)
              have n2_ := Aside0.mk ((by rw [hg]; exact (below_size lB) : w.heap.size ≤ gG2))
              have n3_ := Aside0.mk ((by rw [hg]; exact (below_size lB) : w.heap.size ≤ gG2))
              clear HB
              have HB := n0_
              have BKG2 := n1_
              have GWG2 := n2_
              have GEG2 := n3_
              clear n0_ n1_ n2_ n3_
              clear hb hbox hg
              refine hK.out _ _ ⟨(cB HB.out hw_p0), (cB HB.out hw_p1), (cB HB.out hw_q0), (cB HB.out hw_q1)⟩ (fun hHeld => ?_)
              clear hK K
              refine nm 11 ?_
              exact norm_ (by first | (simp only [putAll, Act.put, sA, sB, sC]; done) | (simp only [putAll, Act.put, sA, sB, sC]; rfl)) (hJ12 (gG2) _ ⟨hHeld, (kX BKG2.out), GWG2.out, GEG2.out, lB⟩)
            ·skip
             rintro gG2 w9 ⟨hS_, h0_, h1_, h2_, h3_⟩
             have n0_ : Aside0 (w9.heap[gG2]? = some (.cells #[.int .i64 0, .int .i64 0] 31 (0, 0))) := ⟨h0_⟩
             have n1_ : Aside0 (w.heap.size ≤ gG2) := ⟨h1_⟩
             have n2_ : Aside0 (w.heap.size ≤ gG2) := ⟨h2_⟩
             have n3_ : Aside0 (Below w.heap.size w w9) := ⟨h3_⟩
             clear HB
             clear h0_ h1_ h2_ h3_
             have BKG2 := n0_
             have GWG2 := n1_
             have GEG2 := n2_
             have HB := n3_
             clear n0_ n1_ n2_ n3_
             have hHeld : w9.cell? (ad.add (k * 2)) = some (.int .i64 (p.f0)) ∧ w9.cell? ⟨(ad.add (k * 2)).block, (ad.add (k * 2)).off + 1, none⟩ = some (.int .i64 (p.f1)) ∧ w9.cell? (ad.add (n * 2)) = some (.int .i64 (q.f0)) ∧ w9.cell? ⟨(ad.add (n * 2)).block, (ad.add (n * 2)).off + 1, none⟩ = some (.int .i64 (q.f1)) := hS_
             refine norm_ (a' := ?_) ?_ ?_
             rotate_left
             ·simp only [putAll, Act.put, sA, sB, sC]
              rfl
             refine two_ (i := 8) (j := 11) (Ni := some 49) (Nj := some 10) (Br [9,3,1,2]) (Br [8,3,2,2]) rfl rfl rfl rfl (two_of HT_.out (by kernel_rfl)) (by decide) (by decide) (fun K hK => ?_) (fun K hK => ?_)
             ·skip
              refine goes_ Try.func54 (by kernel_rfl) rfl #[.int .i64 ((k : Nat) : Int), .int .i64 (l0.length : Int)] (by rfl) rfl rfl (by (try simp only [List.map_toArray, List.map_cons, List.map_nil]); first | done | rfl | (simp only [List.length_drop, List.length_take]; rfl)) ?_
              with_reducible refine (silversideref01_next.calls ((k : Nat) : Int) (l0.length : Int) ((n : Nat) : Int) _ HNX.out).mono ?_
              rintro e w' ⟨rfl, ⟨nd, rfl⟩⟩
              refine ⟨_, rfl, ?_⟩
              refine hK.out _ _ ⟨(cB HB.out hw_p0), (cB HB.out hw_p1), (cB HB.out hw_q0), (cB HB.out hw_q1)⟩ (fun hHeld => ?_)
              clear hK K
              refine nm 49 ?_
              refine pu 9 50 (Br [10,2,1,2]) HT_ ?_
              refine ta 10 51 (Br [11,1,1,2]) HT_ HW_ hHeld ?_
              exact norm_ (by first | (simp only [putAll, Act.put, sA, sB, sC]; done) | (simp only [putAll, Act.put, sA, sB, sC]; rfl)) (hJ8_12 (gG2) _ ⟨hHeld, (kX BKG2.out), GWG2.out, GEG2.out, lB⟩)
             ·skip
              refine box_step ?hg (N := 10) ?hd (cs := #[.int .i64 0, .int .i64 0]) (t := 31) ?hr ?_; (case hd => rfl); (case hg => rfl); (case hr => first | (go_simp; done) | (go_simp; rfl))
              intro gG1 hg wE hbox hb
              have n0_ := Aside0.mk (blk_below (g := gG2) (o := .cells #[.int .i64 0, .int .i64 0] 31 (0, 0)) (kX BKG2.out) hb)
              have n1_ := Aside0.mk (below_step lB hb)
              have n2_ := Aside0.mk (hbox)
              have n3_ := Aside0.mk ((by rw [hg]; exact (below_size lB) : w.heap.size ≤ gG1))
              have n4_ := Aside0.mk ((by rw [hg]; exact (below_size lB) : w.heap.size ≤ gG1))
              have n5_ := Aside0.mk ((by rw [hg]; exact Nat.ne_of_lt (blk_lt (g := gG2) (o := .cells #[.int .i64 0, .int .i64 0] 31 (0, 0)) (kX BKG2.out)) : gG2 ≠ gG1))
              have n6_ := Aside0.mk ((by rw [hg]; exact Nat.ne_of_gt (blk_lt (g := gG2) (o := .cells #[.int .i64 0, .int .i64 0] 31 (0, 0)) (kX BKG2.out)) : gG1 ≠ gG2))
              clear BKG2
              clear HB
              have BKG2 := n0_
              have HB := n1_
              have BKG1 := n2_
              have GWG1 := n3_
              have GEG1 := n4_
              have NB21 := n5_
              have NB12 := n6_
              clear n0_ n1_ n2_ n3_ n4_ n5_ n6_
              clear hb hbox hg
              refine hK.out _ _ ⟨(cB HB.out hw_p0), (cB HB.out hw_p1), (cB HB.out hw_q0), (cB HB.out hw_q1)⟩ (fun hHeld => ?_)
              clear hK K
              refine nm 10 ?_
              exact norm_ (by first | (simp only [putAll, Act.put, sA, sB, sC]; done) | (simp only [putAll, Act.put, sA, sB, sC]; rfl)) (hJ11_12 (gG1, gG2) _ ⟨hHeld, (kX BKG1.out), (kX BKG2.out), GWG1.out, GEG1.out, NB21.out, NB12.out, GWG2.out, GEG2.out, lB⟩)
           ·skip
            rintro gG1 w9 ⟨hS_, h0_, h1_, h2_, h3_⟩
            have n0_ : Aside0 (w9.heap[gG1]? = some (.cells #[.int .i64 0, .int .i64 0] 31 (0, 0))) := ⟨h0_⟩
            have n1_ : Aside0 (w.heap.size ≤ gG1) := ⟨h1_⟩
            have n2_ : Aside0 (w.heap.size ≤ gG1) := ⟨h2_⟩
            have n3_ : Aside0 (Below w.heap.size w w9) := ⟨h3_⟩
            clear HB
            clear h0_ h1_ h2_ h3_
            have BKG1 := n0_
            have GWG1 := n1_
            have GEG1 := n2_
            have HB := n3_
            clear n0_ n1_ n2_ n3_
            have hHeld : w9.cell? (ad.add (k * 2)) = some (.int .i64 (p.f0)) ∧ w9.cell? ⟨(ad.add (k * 2)).block, (ad.add (k * 2)).off + 1, none⟩ = some (.int .i64 (p.f1)) ∧ w9.cell? (ad.add (n * 2)) = some (.int .i64 (q.f0)) ∧ w9.cell? ⟨(ad.add (n * 2)).block, (ad.add (n * 2)).off + 1, none⟩ = some (.int .i64 (q.f1)) := hS_
            refine norm_ (a' := ?_) ?_ ?_
            rotate_left
            ·simp only [putAll, Act.put, sA, sB, sC]
             rfl
            refine two_ (i := 8) (j := 12) (Ni := some 49) (Nj := some 11) (Br [9,2,1,3]) (Br [8,3,2,2]) rfl rfl rfl rfl (two_of HT_.out (by kernel_rfl)) (by decide) (by decide) (fun K hK => ?_) (fun K hK => ?_)
            ·skip
             refine goes_ Try.func54 (by kernel_rfl) rfl #[.int .i64 ((k : Nat) : Int), .int .i64 (l0.length : Int)] (by rfl) rfl rfl (by (try simp only [List.map_toArray, List.map_cons, List.map_nil]); first | done | rfl | (simp only [List.length_drop, List.length_take]; rfl)) ?_
             with_reducible refine (silversideref01_next.calls ((k : Nat) : Int) (l0.length : Int) ((n : Nat) : Int) _ HNX.out).mono ?_
             rintro e w' ⟨rfl, ⟨nd, rfl⟩⟩
             refine ⟨_, rfl, ?_⟩
             refine hK.out _ _ ⟨(cB HB.out hw_p0), (cB HB.out hw_p1), (cB HB.out hw_q0), (cB HB.out hw_q1)⟩ (fun hHeld => ?_)
             clear hK K
             refine nm 49 ?_
             refine pu 9 50 (Br [10,1,1,3]) HT_ ?_
             refine ta 10 51 (Bs 12 15) HT_ HW_ hHeld ?_
             exact norm_ (by first | (simp only [putAll, Act.put, sA, sB, sC]; done) | (simp only [putAll, Act.put, sA, sB, sC]; rfl)) (hJ8_11 (gG1) _ ⟨hHeld, (kX BKG1.out), GWG1.out, GEG1.out, lB⟩)
            ·skip
             refine box_step ?hg (N := 11) ?hd (cs := #[.int .i64 0, .int .i64 0]) (t := 31) ?hr ?_; (case hd => rfl); (case hg => rfl); (case hr => first | (go_simp; done) | (go_simp; rfl))
             intro gG2 hg wE hbox hb
             have n0_ := Aside0.mk (blk_below (g := gG1) (o := .cells #[.int .i64 0, .int .i64 0] 31 (0, 0)) (kX BKG1.out) hb)
             have n1_ := Aside0.mk (below_step lB hb)
             have n2_ := Aside0.mk (hbox)
             have n3_ := Aside0.mk ((by rw [hg]; exact (below_size lB) : w.heap.size ≤ gG2))
             have n4_ := Aside0.mk ((by rw [hg]; exact (below_size lB) : w.heap.size ≤ gG2))
             have n5_ := Aside0.mk ((by rw [hg]; exact Nat.ne_of_lt (blk_lt (g := gG1) (o := .cells #[.int .i64 0, .int .i64 0] 31 (0, 0)) (kX BKG1.out)) : gG1 ≠ gG2))
             have n6_ := Aside0.mk ((by rw [hg]; exact Nat.ne_of_gt (blk_lt (g := gG1) (o := .cells #[.int .i64 0, .int .i64 0] 31 (0, 0)) (kX BKG1.out)) : gG2 ≠ gG1))
             clear BKG1
             clear HB
             have BKG1 := n0_
             have HB := n1_
             have BKG2 := n2_
             have GWG2 := n3_
             have GEG2 := n4_
             have NB12 := n5_
             have NB21 := n6_
             clear n0_ n1_ n2_ n3_ n4_ n5_ n6_
             clear hb hbox hg
             refine hK.out _ _ ⟨(cB HB.out hw_p0), (cB HB.out hw_p1), (cB HB.out hw_q0), (cB HB.out hw_q1)⟩ (fun hHeld => ?_)
             clear hK K
             refine nm 11 ?_
             exact norm_ (by first | (simp only [putAll, Act.put, sA, sB, sC]; done) | (simp only [putAll, Act.put, sA, sB, sC]; rfl)) (hJ11_12 (gG1, gG2) _ ⟨hHeld, (kX BKG1.out), (kX BKG2.out), GWG1.out, GEG1.out, NB21.out, NB12.out, GWG2.out, GEG2.out, lB⟩)
          ·skip
           rintro _ w8 ⟨hS_, h0_⟩
           have n0_ : Aside0 (Below w.heap.size w w8) := ⟨h0_⟩
           clear HB
           clear h0_
           have HB := n0_
           clear n0_
           have hHeld : w8.cell? (ad.add (k * 2)) = some (.int .i64 (p.f0)) ∧ w8.cell? ⟨(ad.add (k * 2)).block, (ad.add (k * 2)).off + 1, none⟩ = some (.int .i64 (p.f1)) ∧ w8.cell? (ad.add (n * 2)) = some (.int .i64 (q.f0)) ∧ w8.cell? ⟨(ad.add (n * 2)).block, (ad.add (n * 2)).off + 1, none⟩ = some (.int .i64 (q.f1)) := hS_
           refine norm_ (a' := ?_) ?_ ?_
           rotate_left
           ·simp only [putAll, Act.put, sA, sB, sC]
            rfl
           refine two_ (i := 11) (j := 12) (Ni := some 10) (Nj := some 11) (Bs 12 15) (Br [11,1,1,2]) rfl rfl rfl rfl (two_of HT_.out (by kernel_rfl)) (by decide) (by decide) (fun K hK => ?_) (fun K hK => ?_)
           ·skip
            refine box_step ?hg (N := 10) ?hd (cs := #[.int .i64 0, .int .i64 0]) (t := 31) ?hr ?_; (case hd => rfl); (case hg => rfl); (case hr => first | (go_simp; done) | (go_simp; rfl))
            intro gG1 hg w9 hbox hb
            have n0_ := Aside0.mk (below_step lB hb)
            have n1_ := Aside0.mk (hbox)
            have n2_ := Aside0.mk ((by rw [hg]; exact (below_size lB) : w.heap.size ≤ gG1))
            have n3_ := Aside0.mk ((by rw [hg]; exact (below_size lB) : w.heap.size ≤ gG1))
            clear HB
            have HB := n0_
            have BKG1 := n1_
            have GWG1 := n2_
            have GEG1 := n3_
            clear n0_ n1_ n2_ n3_
            clear hb hbox hg
            refine hK.out _ _ ⟨(cB HB.out hw_p0), (cB HB.out hw_p1), (cB HB.out hw_q0), (cB HB.out hw_q1)⟩ (fun hHeld => ?_)
            clear hK K
            refine nm 10 ?_
            exact norm_ (by first | (simp only [putAll, Act.put, sA, sB, sC]; done) | (simp only [putAll, Act.put, sA, sB, sC]; rfl)) (hJ8_11 (gG1) _ ⟨hHeld, (kX BKG1.out), GWG1.out, GEG1.out, lB⟩)
           ·skip
            refine box_step ?hg (N := 11) ?hd (cs := #[.int .i64 0, .int .i64 0]) (t := 31) ?hr ?_; (case hd => rfl); (case hg => rfl); (case hr => first | (go_simp; done) | (go_simp; rfl))
            intro gG2 hg w9 hbox hb
            have n0_ := Aside0.mk (below_step lB hb)
            have n1_ := Aside0.mk (hbox)
            have n2_ := Aside0.mk ((by rw [hg]; exact (below_size lB) : w.heap.size ≤ gG2))
            have n3_ := Aside0.mk ((by rw [hg]; exact (below_size lB) : w.heap.size ≤ gG2))
            clear HB
            have HB := n0_
            have BKG2 := n1_
            have GWG2 := n2_
            have GEG2 := n3_
            clear n0_ n1_ n2_ n3_
            clear hb hbox hg
            refine hK.out _ _ ⟨(cB HB.out hw_p0), (cB HB.out hw_p1), (cB HB.out hw_q0), (cB HB.out hw_q1)⟩ (fun hHeld => ?_)
            clear hK K
            refine nm 11 ?_
            exact norm_ (by first | (simp only [putAll, Act.put, sA, sB, sC]; done) | (simp only [putAll, Act.put, sA, sB, sC]; rfl)) (hJ8_12 (gG2) _ ⟨hHeld, (kX BKG2.out), GWG2.out, GEG2.out, lB⟩)
         ·skip
          rintro ⟨gG1, gG2⟩ wE ⟨hS_, h0_, h1_, h2_, h3_, h4_, h5_, h6_, h7_, h8_⟩
          have n0_ : Aside0 (wE.heap[gG1]? = some (.cells #[.int .i64 0, .int .i64 0] 31 (0, 0))) := ⟨h0_⟩
          have n1_ : Aside0 (wE.heap[gG2]? = some (.cells #[.int .i64 0, .int .i64 0] 31 (0, 0))) := ⟨h1_⟩
          have n2_ : Aside0 (w.heap.size ≤ gG1) := ⟨h2_⟩
          have n3_ : Aside0 (w.heap.size ≤ gG1) := ⟨h3_⟩
          have n4_ : Aside0 (gG2 ≠ gG1) := ⟨h4_⟩
          have n5_ : Aside0 (gG1 ≠ gG2) := ⟨h5_⟩
          have n6_ : Aside0 (w.heap.size ≤ gG2) := ⟨h6_⟩
          have n7_ : Aside0 (w.heap.size ≤ gG2) := ⟨h7_⟩
          have n8_ : Aside0 (Below w.heap.size w wE) := ⟨h8_⟩
          clear HB
          clear h0_ h1_ h2_ h3_ h4_ h5_ h6_ h7_ h8_
          have BKG1 := n0_
          have BKG2 := n1_
          have GWG1 := n2_
          have GEG1 := n3_
          have NB21 := n4_
          have NB12 := n5_
          have GWG2 := n6_
          have GEG2 := n7_
          have HB := n8_
          clear n0_ n1_ n2_ n3_ n4_ n5_ n6_ n7_ n8_
          have hHeld : wE.cell? (ad.add (k * 2)) = some (.int .i64 (p.f0)) ∧ wE.cell? ⟨(ad.add (k * 2)).block, (ad.add (k * 2)).off + 1, none⟩ = some (.int .i64 (p.f1)) ∧ wE.cell? (ad.add (n * 2)) = some (.int .i64 (q.f0)) ∧ wE.cell? ⟨(ad.add (n * 2)).block, (ad.add (n * 2)).off + 1, none⟩ = some (.int .i64 (q.f1)) := hS_
          refine norm_ (a' := ?_) ?_ ?_
          rotate_left
          ·simp only [putAll, Act.put, sA, sB, sC]
           rfl
          refine one_ (i := 8) (N := some 49) (Br [9,2,2,2]) rfl rfl (one_of HT_.out (by kernel_rfl)) (by decide) (fun K hK => ?_)
          refine goes_ Try.func54 (by kernel_rfl) rfl #[.int .i64 ((k : Nat) : Int), .int .i64 (l0.length : Int)] (by rfl) rfl rfl (by (try simp only [List.map_toArray, List.map_cons, List.map_nil]); first | done | rfl | (simp only [List.length_drop, List.length_take]; rfl)) ?_
          with_reducible refine (silversideref01_next.calls ((k : Nat) : Int) (l0.length : Int) ((n : Nat) : Int) _ HNX.out).mono ?_
          rintro e w' ⟨rfl, ⟨nd, rfl⟩⟩
          refine ⟨_, rfl, ?_⟩
          refine hK.out _ _ ⟨(cB HB.out hw_p0), (cB HB.out hw_p1), (cB HB.out hw_q0), (cB HB.out hw_q1)⟩ (fun hHeld => ?_)
          clear hK K
          refine nm 49 ?_
          refine pu 9 50 (Br [10,1,2,2]) HT_ ?_
          refine ta 10 51 (Bs 13 15) HT_ HW_ hHeld ?_
          exact norm_ (by first | (simp only [putAll, Act.put, sA, sB, sC]; done) | (simp only [putAll, Act.put, sA, sB, sC]; rfl)) (hJ8_11_12 (gG1, gG2) _ ⟨hHeld, (kX BKG1.out), (kX BKG2.out), GWG1.out, GEG1.out, NB21.out, NB12.out, GWG2.out, GEG2.out, lB⟩)
        ·skip
         rintro gG2 w9 ⟨hS_, h0_, h1_, h2_, h3_⟩
         have n0_ : Aside0 (w9.heap[gG2]? = some (.cells #[.int .i64 0, .int .i64 0] 31 (0, 0))) := ⟨h0_⟩
         have n1_ : Aside0 (w.heap.size ≤ gG2) := ⟨h1_⟩
         have n2_ : Aside0 (w.heap.size ≤ gG2) := ⟨h2_⟩
         have n3_ : Aside0 (Below w.heap.size w w9) := ⟨h3_⟩
         clear HB
         clear h0_ h1_ h2_ h3_
         have BKG2 := n0_
         have GWG2 := n1_
         have GEG2 := n2_
         have HB := n3_
         clear n0_ n1_ n2_ n3_
         have hHeld : w9.cell? (ad.add (k * 2)) = some (.int .i64 (p.f0)) ∧ w9.cell? ⟨(ad.add (k * 2)).block, (ad.add (k * 2)).off + 1, none⟩ = some (.int .i64 (p.f1)) ∧ w9.cell? (ad.add (n * 2)) = some (.int .i64 (q.f0)) ∧ w9.cell? ⟨(ad.add (n * 2)).block, (ad.add (n * 2)).off + 1, none⟩ = some (.int .i64 (q.f1)) := hS_
         refine norm_ (a' := ?_) ?_ ?_
         rotate_left
         ·simp only [putAll, Act.put, sA, sB, sC]
          rfl
         refine one_ (i := 11) (N := some 10) (Bs 13 15) rfl rfl (one_of HT_.out (by kernel_rfl)) (by decide) (fun K hK => ?_)
         refine box_step ?hg (N := 10) ?hd (cs := #[.int .i64 0, .int .i64 0]) (t := 31) ?hr ?_; (case hd => rfl); (case hg => rfl); (case hr => first | (go_simp; done) | (go_simp; rfl))
         intro gG1 hg wE hbox hb
         have n0_ := Aside0.mk (blk_below (g := gG2) (o := .cells #[.int .i64 0, .int .i64 0] 31 (0, 0)) (kX BKG2.out) hb)
         have n1_ := Aside0.mk (below_step lB hb)
         have n2_ := Aside0.mk (hbox)
         have n3_ := Aside0.mk ((by rw [hg]; exact (below_size lB) : w.heap.size ≤ gG1))
         have n4_ := Aside0.mk ((by rw [hg]; exact (below_size lB) : w.heap.size ≤ gG1))
         have n5_ := Aside0.mk ((by rw [hg]; exact Nat.ne_of_lt (blk_lt (g := gG2) (o := .cells #[.int .i64 0, .int .i64 0] 31 (0, 0)) (kX BKG2.out)) : gG2 ≠ gG1))
         have n6_ := Aside0.mk ((by rw [hg]; exact Nat.ne_of_gt (blk_lt (g := gG2) (o := .cells #[.int .i64 0, .int .i64 0] 31 (0, 0)) (kX BKG2.out)) : gG1 ≠ gG2))
         clear BKG2
         clear HB
         have BKG2 := n0_
         have HB := n1_
         have BKG1 := n2_
         have GWG1 := n3_
         have GEG1 := n4_
         have NB21 := n5_
         have NB12 := n6_
         clear n0_ n1_ n2_ n3_ n4_ n5_ n6_
         clear hb hbox hg
         refine hK.out _ _ ⟨(cB HB.out hw_p0), (cB HB.out hw_p1), (cB HB.out hw_q0), (cB HB.out hw_q1)⟩ (fun hHeld => ?_)
         clear hK K
         refine nm 10 ?_
         exact norm_ (by first | (simp only [putAll, Act.put, sA, sB, sC]; done) | (simp only [putAll, Act.put, sA, sB, sC]; rfl)) (hJ8_11_12 (gG1, gG2) _ ⟨hHeld, (kX BKG1.out), (kX BKG2.out), GWG1.out, GEG1.out, NB21.out, NB12.out, GWG2.out, GEG2.out, lB⟩)
       ·skip
        rintro gG1 w9 ⟨hS_, h0_, h1_, h2_, h3_⟩
        have n0_ : Aside0 (w9.heap[gG1]? = some (.cells #[.int .i64 0, .int .i64 0] 31 (0, 0))) := ⟨h0_⟩
        have n1_ : Aside0 (w.heap.size ≤ gG1) := ⟨h1_⟩
        have n2_ : Aside0 (w.heap.size ≤ gG1) := ⟨h2_⟩
        have n3_ : Aside0 (Below w.heap.size w w9) := ⟨h3_⟩
        clear HB
        clear h0_ h1_ h2_ h3_
        have BKG1 := n0_
        have GWG1 := n1_
        have GEG1 := n2_
        have HB := n3_
        clear n0_ n1_ n2_ n3_
        have hHeld : w9.cell? (ad.add (k * 2)) = some (.int .i64 (p.f0)) ∧ w9.cell? ⟨(ad.add (k * 2)).block, (ad.add (k * 2)).off + 1, none⟩ = some (.int .i64 (p.f1)) ∧ w9.cell? (ad.add (n * 2)) = some (.int .i64 (q.f0)) ∧ w9.cell? ⟨(ad.add (n * 2)).block, (ad.add (n * 2)).off + 1, none⟩ = some (.int .i64 (q.f1)) := hS_
        refine norm_ (a' := ?_) ?_ ?_
        rotate_left
        ·simp only [putAll, Act.put, sA, sB, sC]
         rfl
        refine one_ (i := 12) (N := some 11) (Bs 13 15) rfl rfl (one_of HT_.out (by kernel_rfl)) (by decide) (fun K hK => ?_)
        refine box_step ?hg (N := 11) ?hd (cs := #[.int .i64 0, .int .i64 0]) (t := 31) ?hr ?_; (case hd => rfl); (case hg => rfl); (case hr => first | (go_simp; done) | (go_simp; rfl))
        intro gG2 hg wE hbox hb
        have n0_ := Aside0.mk (blk_below (g := gG1) (o := .cells #[.int .i64 0, .int .i64 0] 31 (0, 0)) (kX BKG1.out) hb)
        have n1_ := Aside0.mk (below_step lB hb)
        have n2_ := Aside0.mk (hbox)
        have n3_ := Aside0.mk ((by rw [hg]; exact (below_size lB) : w.heap.size ≤ gG2))
        have n4_ := Aside0.mk ((by rw [hg]; exact (below_size lB) : w.heap.size ≤ gG2))
        have n5_ := Aside0.mk ((by rw [hg]; exact Nat.ne_of_lt (blk_lt (g := gG1) (o := .cells #[.int .i64 0, .int .i64 0] 31 (0, 0)) (kX BKG1.out)) : gG1 ≠ gG2))
        have n6_ := Aside0.mk ((by rw [hg]; exact Nat.ne_of_gt (blk_lt (g := gG1) (o := .cells #[.int .i64 0, .int .i64 0] 31 (0, 0)) (kX BKG1.out)) : gG2 ≠ gG1))
        clear BKG1
        clear HB
        have BKG1 := n0_
        have HB := n1_
        have BKG2 := n2_
        have GWG2 := n3_
        have GEG2 := n4_
        have NB12 := n5_
        have NB21 := n6_
        clear n0_ n1_ n2_ n3_ n4_ n5_ n6_
        clear hb hbox hg
        refine hK.out _ _ ⟨(cB HB.out hw_p0), (cB HB.out hw_p1), (cB HB.out hw_q0), (cB HB.out hw_q1)⟩ (fun hHeld => ?_)
        clear hK K
        refine nm 11 ?_
        exact norm_ (by first | (simp only [putAll, Act.put, sA, sB, sC]; done) | (simp only [putAll, Act.put, sA, sB, sC]; rfl)) (hJ8_11_12 (gG1, gG2) _ ⟨hHeld, (kX BKG1.out), (kX BKG2.out), GWG1.out, GEG1.out, NB21.out, NB12.out, GWG2.out, GEG2.out, lB⟩)
      rintro ⟨gG1, gG2⟩ wE ⟨hS_, h0_, h1_, h2_, h3_, h4_, h5_, h6_, h7_, h8_⟩
      have n0_ : Aside0 (wE.heap[gG1]? = some (.cells #[.int .i64 0, .int .i64 0] 31 (0, 0))) := ⟨h0_⟩
      have n1_ : Aside0 (wE.heap[gG2]? = some (.cells #[.int .i64 0, .int .i64 0] 31 (0, 0))) := ⟨h1_⟩
      have n2_ : Aside0 (w.heap.size ≤ gG1) := ⟨h2_⟩
      have n3_ : Aside0 (w.heap.size ≤ gG1) := ⟨h3_⟩
      have n4_ : Aside0 (gG2 ≠ gG1) := ⟨h4_⟩
      have n5_ : Aside0 (gG1 ≠ gG2) := ⟨h5_⟩
      have n6_ : Aside0 (w.heap.size ≤ gG2) := ⟨h6_⟩
      have n7_ : Aside0 (w.heap.size ≤ gG2) := ⟨h7_⟩
      have n8_ : Aside0 (Below w.heap.size w wE) := ⟨h8_⟩
      clear HB
      clear h0_ h1_ h2_ h3_ h4_ h5_ h6_ h7_ h8_
      have BKG1 := n0_
      have BKG2 := n1_
      have GWG1 := n2_
      have GEG1 := n3_
      have NB21 := n4_
      have NB12 := n5_
      have GWG2 := n6_
      have GEG2 := n7_
      have HB := n8_
      clear n0_ n1_ n2_ n3_ n4_ n5_ n6_ n7_ n8_
      have hHeld : wE.cell? (ad.add (k * 2)) = some (.int .i64 (p.f0)) ∧ wE.cell? ⟨(ad.add (k * 2)).block, (ad.add (k * 2)).off + 1, none⟩ = some (.int .i64 (p.f1)) ∧ wE.cell? (ad.add (n * 2)) = some (.int .i64 (q.f0)) ∧ wE.cell? ⟨(ad.add (n * 2)).block, (ad.add (n * 2)).off + 1, none⟩ = some (.int .i64 (q.f1)) := hS_
      refine norm_ (a' := ?_) ?_ ?_
      rotate_left
      ·simp only [putAll, Act.put, sA, sB, sC]
       rfl
      refine one_ (i := 13) (N := none) (Bs 14 15) rfl rfl (one_of HT_.out (by kernel_rfl)) (by decide) (fun K hK => ?_)
      have hs11 : wE.cell? ⟨gG1, 0, none⟩ = some (.int .i64 0) := (blk_cell BKG1.out 0).trans rfl
      have hfs11 := blk_frozen BKG1.out 0
      have hns11_1 := NB21.out
      have hms11_1 := NB12.out
      have hs12 : wE.cell? ⟨gG1, 1, none⟩ = some (.int .i64 0) := (blk_cell BKG1.out 1).trans rfl
      have hfs12 := blk_frozen BKG1.out 1
      have hns12_1 := NB21.out
      have hms12_1 := NB12.out
      refine skip_ (w1 := ?_) (by rfl) rfl ?_ ?_
      rotate_left
      ·go_simp
       rfl
      refine hK.out _ _ ⟨((cell_far (p := ⟨gG1, _, none⟩) (by first | exact Nat.ne_of_lt (Nat.lt_of_lt_of_le (by have := World.block_lt_of_cell? _ _ hw_p0; first | rwa [add_block] at this | exact this) GWG1.out) | (rw [add_block]; exact Nat.ne_of_lt (Nat.lt_of_lt_of_le (by have := World.block_lt_of_cell? _ _ hw_p0; first | rwa [add_block] at this | exact this) GWG1.out)) | (show (Addr.add _ _).block ≠ _; rw [add_block]; exact Nat.ne_of_lt (Nat.lt_of_lt_of_le (by have := World.block_lt_of_cell? _ _ hw_p0; first | rwa [add_block] at this | exact this) GWG1.out)) | (dsimp only; exact Nat.ne_of_lt (Nat.lt_of_lt_of_le (by have := World.block_lt_of_cell? _ _ hw_p0; first | rwa [add_block] at this | exact this) GWG1.out))) _).trans (((cell_far (p := ⟨gG1, _, none⟩) (by first | exact Nat.ne_of_lt (Nat.lt_of_lt_of_le (by have := World.block_lt_of_cell? _ _ hw_p0; first | rwa [add_block] at this | exact this) GWG1.out) | (rw [add_block]; exact Nat.ne_of_lt (Nat.lt_of_lt_of_le (by have := World.block_lt_of_cell? _ _ hw_p0; first | rwa [add_block] at this | exact this) GWG1.out)) | (show (Addr.add _ _).block ≠ _; rw [add_block]; exact Nat.ne_of_lt (Nat.lt_of_lt_of_le (by have := World.block_lt_of_cell? _ _ hw_p0; first | rwa [add_block] at this | exact this) GWG1.out)) | (dsimp only; exact Nat.ne_of_lt (Nat.lt_of_lt_of_le (by have := World.block_lt_of_cell? _ _ hw_p0; first | rwa [add_block] at this | exact this) GWG1.out))) _).trans (hHeld.1)))), ((cell_far (p := ⟨gG1, _, none⟩) (by first | exact Nat.ne_of_lt (Nat.lt_of_lt_of_le (by have := World.block_lt_of_cell? _ _ hw_p1; first | rwa [add_block] at this | exact this) GWG1.out) | (rw [add_block]; exact Nat.ne_of_lt (Nat.lt_of_lt_of_le (by have := World.block_lt_of_cell? _ _ hw_p1; first | rwa [add_block] at this | exact this) GWG1.out)) | (show (Addr.add _ _).block ≠ _; rw [add_block]; exact Nat.ne_of_lt (Nat.lt_of_lt_of_le (by have := World.block_lt_of_cell? _ _ hw_p1; first | rwa [add_block] at this | exact this) GWG1.out)) | (dsimp only; exact Nat.ne_of_lt (Nat.lt_of_lt_of_le (by have := World.block_lt_of_cell? _ _ hw_p1; first | rwa [add_block] at this | exact this) GWG1.out))) _).trans (((cell_far (p := ⟨gG1, _, none⟩) (by first | exact Nat.ne_of_lt (Nat.lt_of_lt_of_le (by have := World.block_lt_of_cell? _ _ hw_p1; first | rwa [add_block] at this | exact this) GWG1.out) | (rw [add_block]; exact Nat.ne_of_lt (Nat.lt_of_lt_of_le (by have := World.block_lt_of_cell? _ _ hw_p1; first | rwa [add_block] at this | exact this) GWG1.out)) | (show (Addr.add _ _).block ≠ _; rw [add_block]; exact Nat.ne_of_lt (Nat.lt_of_lt_of_le (by have := World.block_lt_of_cell? _ _ hw_p1; first | rwa [add_block] at this | exact this) GWG1.out)) | (dsimp only; exact Nat.ne_of_lt (Nat.lt_of_lt_of_le (by have := World.block_lt_of_cell? _ _ hw_p1; first | rwa [add_block] at this | exact this) GWG1.out))) _).trans (hHeld.2.1)))), ((cell_far (p := ⟨gG1, _, none⟩) (by first | exact Nat.ne_of_lt (Nat.lt_of_lt_of_le (by have := World.block_lt_of_cell? _ _ hw_q0; first | rwa [add_block] at this | exact this) GWG1.out) | (rw [add_block]; exact Nat.ne_of_lt (Nat.lt_of_lt_of_le (by have := World.block_lt_of_cell? _ _ hw_q0; first | rwa [add_block] at this | exact this) GWG1.out)) | (show (Addr.add _ _).block ≠ _; rw [add_block]; exact Nat.ne_of_lt (Nat.lt_of_lt_of_le (by have := World.block_lt_of_cell? _ _ hw_q0; first | rwa [add_block] at this | exact this) GWG1.out)) | (dsimp only; exact Nat.ne_of_lt (Nat.lt_of_lt_of_le (by have := World.block_lt_of_cell? _ _ hw_q0; first | rwa [add_block] at this | exact this) GWG1.out))) _).trans (((cell_far (p := ⟨gG1, _, none⟩) (by first | exact Nat.ne_of_lt (Nat.lt_of_lt_of_le (by have := World.block_lt_of_cell? _ _ hw_q0; first | rwa [add_block] at this | exact this) GWG1.out) | (rw [add_block]; exact Nat.ne_of_lt (Nat.lt_of_lt_of_le (by have := World.block_lt_of_cell? _ _ hw_q0; first | rwa [add_block] at this | exact this) GWG1.out)) | (show (Addr.add _ _).block ≠ _; rw [add_block]; exact Nat.ne_of_lt (Nat.lt_of_lt_of_le (by have := World.block_lt_of_cell? _ _ hw_q0; first | rwa [add_block] at this | exact this) GWG1.out)) | (dsimp only; exact Nat.ne_of_lt (Nat.lt_of_lt_of_le (by have := World.block_lt_of_cell? _ _ hw_q0; first | rwa [add_block] at this | exact this) GWG1.out))) _).trans (hHeld.2.2.1)))), ((cell_far (p := ⟨gG1, _, none⟩) (by first | exact Nat.ne_of_lt (Nat.lt_of_lt_of_le (by have := World.block_lt_of_cell? _ _ hw_q1; first | rwa [add_block] at this | exact this) GWG1.out) | (rw [add_block]; exact Nat.ne_of_lt (Nat.lt_of_lt_of_le (by have := World.block_lt_of_cell? _ _ hw_q1; first | rwa [add_block] at this | exact this) GWG1.out)) | (show (Addr.add _ _).block ≠ _; rw [add_block]; exact Nat.ne_of_lt (Nat.lt_of_lt_of_le (by have := World.block_lt_of_cell? _ _ hw_q1; first | rwa [add_block] at this | exact this) GWG1.out)) | (dsimp only; exact Nat.ne_of_lt (Nat.lt_of_lt_of_le (by have := World.block_lt_of_cell? _ _ hw_q1; first | rwa [add_block] at this | exact this) GWG1.out))) _).trans (((cell_far (p := ⟨gG1, _, none⟩) (by first | exact Nat.ne_of_lt (Nat.lt_of_lt_of_le (by have := World.block_lt_of_cell? _ _ hw_q1; first | rwa [add_block] at this | exact this) GWG1.out) | (rw [add_block]; exact Nat.ne_of_lt (Nat.lt_of_lt_of_le (by have := World.block_lt_of_cell? _ _ hw_q1; first | rwa [add_block] at this | exact this) GWG1.out)) | (show (Addr.add _ _).block ≠ _; rw [add_block]; exact Nat.ne_of_lt (Nat.lt_of_lt_of_le (by have := World.block_lt_of_cell? _ _ hw_q1; first | rwa [add_block] at this | exact this) GWG1.out)) | (dsimp only; exact Nat.ne_of_lt (Nat.lt_of_lt_of_le (by have := World.block_lt_of_cell? _ _ hw_q1; first | rwa [add_block] at this | exact this) GWG1.out))) _).trans (hHeld.2.2.2))))⟩ (fun hHeld => ?_)
      clear hK K
      refine one_ (i := 14) (N := none) (Bs 15 15) rfl rfl (one_of HT_.out (by kernel_rfl)) (by decide) (fun K hK => ?_)
      have hs13 : wE.cell? ⟨gG2, 0, none⟩ = some (.int .i64 0) := (blk_cell BKG2.out 0).trans rfl
      have hfs13 := blk_frozen BKG2.out 0
      have hns13_0 := NB12.out
      have hms13_0 := NB21.out
      have hs14 : wE.cell? ⟨gG2, 1, none⟩ = some (.int .i64 0) := (blk_cell BKG2.out 1).trans rfl
      have hfs14 := blk_frozen BKG2.out 1
      have hns14_0 := NB12.out
      have hms14_0 := NB21.out
      refine skip_ (w1 := ?_) (by rfl) rfl ?_ ?_
      rotate_left
      ·go_simp
       rfl
      refine hK.out _ _ ⟨((cell_far (p := ⟨gG2, _, none⟩) (by first | exact Nat.ne_of_lt (Nat.lt_of_lt_of_le (by have := World.block_lt_of_cell? _ _ hw_p0; first | rwa [add_block] at this | exact this) GWG2.out) | (rw [add_block]; exact Nat.ne_of_lt (Nat.lt_of_lt_of_le (by have := World.block_lt_of_cell? _ _ hw_p0; first | rwa [add_block] at this | exact this) GWG2.out)) | (show (Addr.add _ _).block ≠ _; rw [add_block]; exact Nat.ne_of_lt (Nat.lt_of_lt_of_le (by have := World.block_lt_of_cell? _ _ hw_p0; first | rwa [add_block] at this | exact this) GWG2.out)) | (dsimp only; exact Nat.ne_of_lt (Nat.lt_of_lt_of_le (by have := World.block_lt_of_cell? _ _ hw_p0; first | rwa [add_block] at this | exact this) GWG2.out))) _).trans (((cell_far (p := ⟨gG2, _, none⟩) (by first | exact Nat.ne_of_lt (Nat.lt_of_lt_of_le (by have := World.block_lt_of_cell? _ _ hw_p0; first | rwa [add_block] at this | exact this) GWG2.out) | (rw [add_block]; exact Nat.ne_of_lt (Nat.lt_of_lt_of_le (by have := World.block_lt_of_cell? _ _ hw_p0; first | rwa [add_block] at this | exact this) GWG2.out)) | (show (Addr.add _ _).block ≠ _; rw [add_block]; exact Nat.ne_of_lt (Nat.lt_of_lt_of_le (by have := World.block_lt_of_cell? _ _ hw_p0; first | rwa [add_block] at this | exact this) GWG2.out)) | (dsimp only; exact Nat.ne_of_lt (Nat.lt_of_lt_of_le (by have := World.block_lt_of_cell? _ _ hw_p0; first | rwa [add_block] at this | exact this) GWG2.out))) _).trans (hHeld.1)))), ((cell_far (p := ⟨gG2, _, none⟩) (by first | exact Nat.ne_of_lt (Nat.lt_of_lt_of_le (by have := World.block_lt_of_cell? _ _ hw_p1; first | rwa [add_block] at this | exact this) GWG2.out) | (rw [add_block]; exact Nat.ne_of_lt (Nat.lt_of_lt_of_le (by have := World.block_lt_of_cell? _ _ hw_p1; first | rwa [add_block] at this | exact this) GWG2.out)) | (show (Addr.add _ _).block ≠ _; rw [add_block]; exact Nat.ne_of_lt (Nat.lt_of_lt_of_le (by have := World.block_lt_of_cell? _ _ hw_p1; first | rwa [add_block] at this | exact this) GWG2.out)) | (dsimp only; exact Nat.ne_of_lt (Nat.lt_of_lt_of_le (by have := World.block_lt_of_cell? _ _ hw_p1; first | rwa [add_block] at this | exact this) GWG2.out))) _).trans (((cell_far (p := ⟨gG2, _, none⟩) (by first | exact Nat.ne_of_lt (Nat.lt_of_lt_of_le (by have := World.block_lt_of_cell? _ _ hw_p1; first | rwa [add_block] at this | exact this) GWG2.out) | (rw [add_block]; exact Nat.ne_of_lt (Nat.lt_of_lt_of_le (by have := World.block_lt_of_cell? _ _ hw_p1; first | rwa [add_block] at this | exact this) GWG2.out)) | (show (Addr.add _ _).block ≠ _; rw [add_block]; exact Nat.ne_of_lt (Nat.lt_of_lt_of_le (by have := World.block_lt_of_cell? _ _ hw_p1; first | rwa [add_block] at this | exact this) GWG2.out)) | (dsimp only; exact Nat.ne_of_lt (Nat.lt_of_lt_of_le (by have := World.block_lt_of_cell? _ _ hw_p1; first | rwa [add_block] at this | exact this) GWG2.out))) _).trans (hHeld.2.1)))), ((cell_far (p := ⟨gG2, _, none⟩) (by first | exact Nat.ne_of_lt (Nat.lt_of_lt_of_le (by have := World.block_lt_of_cell? _ _ hw_q0; first | rwa [add_block] at this | exact this) GWG2.out) | (rw [add_block]; exact Nat.ne_of_lt (Nat.lt_of_lt_of_le (by have := World.block_lt_of_cell? _ _ hw_q0; first | rwa [add_block] at this | exact this) GWG2.out)) | (show (Addr.add _ _).block ≠ _; rw [add_block]; exact Nat.ne_of_lt (Nat.lt_of_lt_of_le (by have := World.block_lt_of_cell? _ _ hw_q0; first | rwa [add_block] at this | exact this) GWG2.out)) | (dsimp only; exact Nat.ne_of_lt (Nat.lt_of_lt_of_le (by have := World.block_lt_of_cell? _ _ hw_q0; first | rwa [add_block] at this | exact this) GWG2.out))) _).trans (((cell_far (p := ⟨gG2, _, none⟩) (by first | exact Nat.ne_of_lt (Nat.lt_of_lt_of_le (by have := World.block_lt_of_cell? _ _ hw_q0; first | rwa [add_block] at this | exact this) GWG2.out) | (rw [add_block]; exact Nat.ne_of_lt (Nat.lt_of_lt_of_le (by have := World.block_lt_of_cell? _ _ hw_q0; first | rwa [add_block] at this | exact this) GWG2.out)) | (show (Addr.add _ _).block ≠ _; rw [add_block]; exact Nat.ne_of_lt (Nat.lt_of_lt_of_le (by have := World.block_lt_of_cell? _ _ hw_q0; first | rwa [add_block] at this | exact this) GWG2.out)) | (dsimp only; exact Nat.ne_of_lt (Nat.lt_of_lt_of_le (by have := World.block_lt_of_cell? _ _ hw_q0; first | rwa [add_block] at this | exact this) GWG2.out))) _).trans (hHeld.2.2.1)))), ((cell_far (p := ⟨gG2, _, none⟩) (by first | exact Nat.ne_of_lt (Nat.lt_of_lt_of_le (by have := World.block_lt_of_cell? _ _ hw_q1; first | rwa [add_block] at this | exact this) GWG2.out) | (rw [add_block]; exact Nat.ne_of_lt (Nat.lt_of_lt_of_le (by have := World.block_lt_of_cell? _ _ hw_q1; first | rwa [add_block] at this | exact this) GWG2.out)) | (show (Addr.add _ _).block ≠ _; rw [add_block]; exact Nat.ne_of_lt (Nat.lt_of_lt_of_le (by have := World.block_lt_of_cell? _ _ hw_q1; first | rwa [add_block] at this | exact this) GWG2.out)) | (dsimp only; exact Nat.ne_of_lt (Nat.lt_of_lt_of_le (by have := World.block_lt_of_cell? _ _ hw_q1; first | rwa [add_block] at this | exact this) GWG2.out))) _).trans (((cell_far (p := ⟨gG2, _, none⟩) (by first | exact Nat.ne_of_lt (Nat.lt_of_lt_of_le (by have := World.block_lt_of_cell? _ _ hw_q1; first | rwa [add_block] at this | exact this) GWG2.out) | (rw [add_block]; exact Nat.ne_of_lt (Nat.lt_of_lt_of_le (by have := World.block_lt_of_cell? _ _ hw_q1; first | rwa [add_block] at this | exact this) GWG2.out)) | (show (Addr.add _ _).block ≠ _; rw [add_block]; exact Nat.ne_of_lt (Nat.lt_of_lt_of_le (by have := World.block_lt_of_cell? _ _ hw_q1; first | rwa [add_block] at this | exact this) GWG2.out)) | (dsimp only; exact Nat.ne_of_lt (Nat.lt_of_lt_of_le (by have := World.block_lt_of_cell? _ _ hw_q1; first | rwa [add_block] at this | exact this) GWG2.out))) _).trans (hHeld.2.2.2))))⟩ (fun hHeld => ?_)
      clear hK K
      refine done_ (done_of HT_.out (by kernel_rfl)) ?_
      have B1 := Aside0.mk (blk_far (blk_far (blk_put (blk_put BKG1.out 0 (.int .i64 p.f0) rfl) 1 (.int .i64 p.f1) rfl) (p := ⟨gG2, 0, none⟩) NB12.out (.int .i64 q.f0)) (p := ⟨gG2, 1, none⟩) NB12.out (.int .i64 q.f1))
      have B2 := Aside0.mk (blk_put (blk_put (blk_far (blk_far BKG2.out (p := ⟨gG1, 0, none⟩) NB21.out (.int .i64 p.f0)) (p := ⟨gG1, 1, none⟩) NB21.out (.int .i64 p.f1)) 0 (.int .i64 q.f0) rfl) 1 (.int .i64 q.f1) rfl)
      have HBF := Aside0.mk (lS (j := 1) (v := .int .i64 q.f1) (lS (j := 0) (v := .int .i64 q.f0) (lS (j := 1) (v := .int .i64 p.f1) (lS (j := 0) (v := .int .i64 p.f0) HB.out GWG1.out) GWG1.out) GWG2.out) GWG2.out)
      clear hHeld hs11 hfs11 hns11_1 hms11_1 hs12 hfs12 hns12_1 hms12_1 hs13 hfs13 hns13_0 hms13_0 hs14 hfs14 hns14_0 hms14_0 BKG1 BKG2 HB
      generalize (((wE.setCell ⟨gG1, 0, none⟩ (.int .i64 p.f0)).setCell ⟨gG1, 1, none⟩ (.int .i64 p.f1)).setCell ⟨gG2, 0, none⟩ (.int .i64 q.f0)).setCell ⟨gG2, 1, none⟩ (.int .i64 q.f1) = wF at *
      have e0 : wF.cell? ⟨gG1, 0, none⟩ = some (.int .i64 p.f0) := blk_cell B1.out 0
      have e1 : wF.cell? ⟨gG1, 1, none⟩ = some (.int .i64 p.f1) := blk_cell B1.out 1
      have e2 : wF.cell? ⟨gG2, 0, none⟩ = some (.int .i64 q.f0) := blk_cell B2.out 0
      have e3 : wF.cell? ⟨gG2, 1, none⟩ = some (.int .i64 q.f1) := blk_cell B2.out 1
      by_cases hs : wrap64 (wrap64 (wrap64 (q.f0 - p.f0) * wrap64 (y - wrap64 (p.f1 * d))) - wrap64 (wrap64 (q.f1 - p.f1) * wrap64 (x - wrap64 (p.f0 * d)))) < 0
      · have hsB : decide (wrap64 (wrap64 (wrap64 (q.f0 - p.f0) * wrap64 (y - wrap64 (p.f1 * d))) - wrap64 (wrap64 (q.f1 - p.f1) * wrap64 (x - wrap64 (p.f0 * d)))) < 0) = true := decide_eq_true hs
        have HF := Aside0.mk (refin_false hlt hl1 (by rw [HSD.out]; exact hs))
        clear hs HSD
        go_wp2
        go_ret
        exact ⟨by rw [HV.out, HF.out]; rfl, HBF.out⟩
      · have hsB : decide (wrap64 (wrap64 (wrap64 (q.f0 - p.f0) * wrap64 (y - wrap64 (p.f1 * d))) - wrap64 (wrap64 (q.f1 - p.f1) * wrap64 (x - wrap64 (p.f0 * d)))) < 0) = false := decide_eq_false hs
        have HK := Aside0.mk (show 0 ≤ sideW (pt l0 k) (pt l0 ((k + 1) % l0.length)) x y d by rw [HSD.out]; exact Int.not_lt.1 hs)
        clear hs HSD
        go_wp2
        go_roundw
        case rel => exact ⟨k + 1, by omega, by go_num, ⟨fun i hi => by
          rcases Nat.lt_or_ge i k with h | h
          · exact HA.out i h
          · obtain rfl : i = k := by omega
            exact HK.out⟩, HBF⟩
        case measure => simp [intOf]; omega
    · obtain rfl : k = l0.length := by omega
      by_cases h2 : 2 < l0.length
      · have h2I : (2 : Int) < ((l0.length : Nat) : Int) := by omega
        have HT := Aside0.mk (refin_true h2 HA.out)
        go_wp2
        go_ret
        exact ⟨by rw [HV.out, HT.out]; rfl, HB.out⟩
      · have h2' : l0.length = 2 := by omega
        obtain ⟨ad, rfl, hx0, hx1⟩ := at_T31 (Kd.C_below HR0.out HB.out) (0 : Int) (by omega) (by omega)
        obtain ⟨ad', had', hy0, hy1⟩ := at_T31 (Kd.C_below HR0.out HB.out) (1 : Int) (by omega) (by omega)
        cases had'
        rw [show rd_T31 l0 0 = pt l0 0 from rfl] at hx0 hx1
        rw [show rd_T31 l0 1 = pt l0 1 from rfl] at hy0 hy1
        have HT := Aside0.mk (refin_two h2' HA.out)
        generalize pt l0 0 = p at *
        generalize pt l0 1 = q at *
        have h2I : ¬ (2 : Int) < ((l0.length : Nat) : Int) := by omega
        have h0I : (0 : Int) < ((l0.length : Nat) : Int) := by omega
        have h1I : (1 : Int) < ((l0.length : Nat) : Int) := by omega
        rw [show (1 : Int).toNat * 2 = 2 from rfl] at hy0 hy1
        simp only [Addr.add_zero', Int.toNat_zero, Nat.zero_mul] at hx0 hx1
        have hsp := World.cell?_spot hx0
        obtain ⟨g, o, sp⟩ := ad
        simp only at hsp
        subst hsp
        simp only [Addr.add_lit] at hy0 hy1 hx1
        have Za := lA (Below.refl wr.heap.size wr) (Obj.cells #[.int .i64 0, .int .i64 0] 31)
        have ahx0 := cB Za hx0
        have ahx1 := cB Za hx1
        have ahy0 := cB Za hy0
        have ahy1 := cB Za hy1
        clear Za
        have Zb := lA (lA (Below.refl wr.heap.size wr) (Obj.cells #[.int .i64 0, .int .i64 0] 31)) (Obj.cells #[.int .i64 0, .int .i64 0] 31)
        have bhx0 := cB Zb hx0
        have bhx1 := cB Zb hx1
        have bhy0 := cB Zb hy0
        have bhy1 := cB Zb hy1
        clear Zb
        have Zc := lA (Below.refl wr.heap.size wr) (Obj.cells #[.int .i64 p.f0, .int .i64 p.f1] 31)
        have chy0 := cB Zc hy0
        have chy1 := cB Zc hy1
        clear Zc
        have Zd := lA (lA (Below.refl wr.heap.size wr) (Obj.cells #[.int .i64 p.f0, .int .i64 p.f1] 31)) (Obj.cells #[.int .i64 0, .int .i64 0] 31)
        have dhy0 := cB Zd hy0
        have dhy1 := cB Zd hy1
        clear Zd
        have Ze := lA (lA (Below.refl wr.heap.size wr) (Obj.cells #[.int .i64 0, .int .i64 0] 31)) (Obj.cells #[.int .i64 p.f0, .int .i64 p.f1] 31)
        have ehy0 := cB Ze hy0
        have ehy1 := cB Ze hy1
        clear Ze
        have Zf := lA (Below.refl wr.heap.size wr) (Obj.cells #[.int .i64 q.f0, .int .i64 q.f1] 31)
        have fhx0 := cB Zf hx0
        have fhx1 := cB Zf hx1
        clear Zf
        have Zg := lA (lA (Below.refl wr.heap.size wr) (Obj.cells #[.int .i64 q.f0, .int .i64 q.f1] 31)) (Obj.cells #[.int .i64 0, .int .i64 0] 31)
        have ghx0 := cB Zg hx0
        have ghx1 := cB Zg hx1
        clear Zg
        have Zh := lA (lA (Below.refl wr.heap.size wr) (Obj.cells #[.int .i64 0, .int .i64 0] 31)) (Obj.cells #[.int .i64 q.f0, .int .i64 q.f1] 31)
        have hhx0 := cB Zh hx0
        have hhx1 := cB Zh hx1
        clear Zh
        go_wp2
        go_region
        all_goals clear ahx0 ahx1 ahy0 ahy1 bhx0 bhx1 bhy0 bhy1 chy0 chy1 dhy0 dhy1 ehy0 ehy1 fhx0 fhx1 ghx0 ghx1 hhx0 hhx1
        · have BO := kD (kA (heap_alloc_new wr (Obj.cells #[.int .i64 p.f0, .int .i64 p.f1] 31)) (Obj.cells #[.int .i64 q.f0, .int .i64 q.f1] 31))
          have BN := kD (heap_alloc_new (wr.alloc (Obj.cells #[.int .i64 p.f0, .int .i64 p.f1] 31)) (Obj.cells #[.int .i64 q.f0, .int .i64 q.f1] 31))
          rw [World.size_alloc] at BN
          have HBE := Aside0.mk (lD (lA (lA HB.out (Obj.cells #[.int .i64 p.f0, .int .i64 p.f1] 31)) (Obj.cells #[.int .i64 q.f0, .int .i64 q.f1] 31)))
          generalize ((wr.alloc (Obj.cells #[.int .i64 p.f0, .int .i64 p.f1] 31)).alloc (Obj.cells #[.int .i64 q.f0, .int .i64 q.f1] 31)).drew = wE at *
          have e0 : wE.cell? ⟨wr.heap.size, 0, none⟩ = some (.int .i64 p.f0) := blk_cell BO 0
          have e1 : wE.cell? ⟨wr.heap.size, 1, none⟩ = some (.int .i64 p.f1) := blk_cell BO 1
          have e2 : wE.cell? ⟨(wr.heap.size + 1), 0, none⟩ = some (.int .i64 q.f0) := blk_cell BN 0
          have e3 : wE.cell? ⟨(wr.heap.size + 1), 1, none⟩ = some (.int .i64 q.f1) := blk_cell BN 1
          clear BO BN hx0 hx1 hy0 hy1
          by_cases c0 : wrap64 ((if q.f0 < p.f0 then q.f0 else p.f0) * d) ≤ x
          · have d0 : decide (wrap64 ((if q.f0 < p.f0 then q.f0 else p.f0) * d) ≤ x) = true := decide_eq_true c0
            by_cases c1 : x ≤ wrap64 ((if p.f0 < q.f0 then q.f0 else p.f0) * d)
            · have d1 : decide (x ≤ wrap64 ((if p.f0 < q.f0 then q.f0 else p.f0) * d)) = true := decide_eq_true c1
              by_cases c2 : wrap64 ((if q.f1 < p.f1 then q.f1 else p.f1) * d) ≤ y
              · have d2 : decide (wrap64 ((if q.f1 < p.f1 then q.f1 else p.f1) * d) ≤ y) = true := decide_eq_true c2
                by_cases c3 : y ≤ wrap64 ((if p.f1 < q.f1 then q.f1 else p.f1) * d)
                · have d3 : decide (y ≤ wrap64 ((if p.f1 < q.f1 then q.f1 else p.f1) * d)) = true := decide_eq_true c3
                  have HF := Aside0.mk (show refInB l0 x y d = true by rw [HT.out, decide_eq_true_eq]; exact ⟨⟨c0, c1⟩, c2, c3⟩)
                  clear c0 c1 c2 c3
                  go_wp2
                  all_goals (go_ret; exact ⟨by rw [HV.out, HF.out]; rfl, HBE.out⟩)
                · have d3 : decide (y ≤ wrap64 ((if p.f1 < q.f1 then q.f1 else p.f1) * d)) = false := decide_eq_false c3
                  have HF := Aside0.mk (show refInB l0 x y d = false by rw [HT.out, decide_eq_false_iff_not]; exact fun h => c3 h.2.2)
                  clear c0 c1 c2 c3
                  go_wp2
                  all_goals (go_ret; exact ⟨by rw [HV.out, HF.out]; rfl, HBE.out⟩)
              · have d2 : decide (wrap64 ((if q.f1 < p.f1 then q.f1 else p.f1) * d) ≤ y) = false := decide_eq_false c2
                have HF := Aside0.mk (show refInB l0 x y d = false by rw [HT.out, decide_eq_false_iff_not]; exact fun h => c2 h.2.1)
                clear c0 c1 c2
                go_wp2
                all_goals (go_ret; exact ⟨by rw [HV.out, HF.out]; rfl, HBE.out⟩)
            · have d1 : decide (x ≤ wrap64 ((if p.f0 < q.f0 then q.f0 else p.f0) * d)) = false := decide_eq_false c1
              have HF := Aside0.mk (show refInB l0 x y d = false by rw [HT.out, decide_eq_false_iff_not]; exact fun h => c1 h.1.2)
              clear c0 c1
              go_wp2
              all_goals (go_ret; exact ⟨by rw [HV.out, HF.out]; rfl, HBE.out⟩)
          · have d0 : decide (wrap64 ((if q.f0 < p.f0 then q.f0 else p.f0) * d) ≤ x) = false := decide_eq_false c0
            have HF := Aside0.mk (show refInB l0 x y d = false by rw [HT.out, decide_eq_false_iff_not]; exact fun h => c0 h.1.1)
            clear c0
            go_wp2
            all_goals (go_ret; exact ⟨by rw [HV.out, HF.out]; rfl, HBE.out⟩)
        · have BO := kD (kA (heap_alloc_new wr (Obj.cells #[.int .i64 q.f0, .int .i64 q.f1] 31)) (Obj.cells #[.int .i64 p.f0, .int .i64 p.f1] 31))
          have BN := kD (heap_alloc_new (wr.alloc (Obj.cells #[.int .i64 q.f0, .int .i64 q.f1] 31)) (Obj.cells #[.int .i64 p.f0, .int .i64 p.f1] 31))
          rw [World.size_alloc] at BN
          have HBE := Aside0.mk (lD (lA (lA HB.out (Obj.cells #[.int .i64 q.f0, .int .i64 q.f1] 31)) (Obj.cells #[.int .i64 p.f0, .int .i64 p.f1] 31)))
          generalize ((wr.alloc (Obj.cells #[.int .i64 q.f0, .int .i64 q.f1] 31)).alloc (Obj.cells #[.int .i64 p.f0, .int .i64 p.f1] 31)).drew = wE at *
          have e0 : wE.cell? ⟨(wr.heap.size + 1), 0, none⟩ = some (.int .i64 p.f0) := blk_cell BN 0
          have e1 : wE.cell? ⟨(wr.heap.size + 1), 1, none⟩ = some (.int .i64 p.f1) := blk_cell BN 1
          have e2 : wE.cell? ⟨wr.heap.size, 0, none⟩ = some (.int .i64 q.f0) := blk_cell BO 0
          have e3 : wE.cell? ⟨wr.heap.size, 1, none⟩ = some (.int .i64 q.f1) := blk_cell BO 1
          clear BO BN hx0 hx1 hy0 hy1
          by_cases c0 : wrap64 ((if q.f0 < p.f0 then q.f0 else p.f0) * d) ≤ x
          · have d0 : decide (wrap64 ((if q.f0 < p.f0 then q.f0 else p.f0) * d) ≤ x) = true := decide_eq_true c0
            by_cases c1 : x ≤ wrap64 ((if p.f0 < q.f0 then q.f0 else p.f0) * d)
            · have d1 : decide (x ≤ wrap64 ((if p.f0 < q.f0 then q.f0 else p.f0) * d)) = true := decide_eq_true c1
              by_cases c2 : wrap64 ((if q.f1 < p.f1 then q.f1 else p.f1) * d) ≤ y
              · have d2 : decide (wrap64 ((if q.f1 < p.f1 then q.f1 else p.f1) * d) ≤ y) = true := decide_eq_true c2
                by_cases c3 : y ≤ wrap64 ((if p.f1 < q.f1 then q.f1 else p.f1) * d)
                · have d3 : decide (y ≤ wrap64 ((if p.f1 < q.f1 then q.f1 else p.f1) * d)) = true := decide_eq_true c3
                  have HF := Aside0.mk (show refInB l0 x y d = true by rw [HT.out, decide_eq_true_eq]; exact ⟨⟨c0, c1⟩, c2, c3⟩)
                  clear c0 c1 c2 c3
                  go_wp2
                  all_goals (go_ret; exact ⟨by rw [HV.out, HF.out]; rfl, HBE.out⟩)
                · have d3 : decide (y ≤ wrap64 ((if p.f1 < q.f1 then q.f1 else p.f1) * d)) = false := decide_eq_false c3
                  have HF := Aside0.mk (show refInB l0 x y d = false by rw [HT.out, decide_eq_false_iff_not]; exact fun h => c3 h.2.2)
                  clear c0 c1 c2 c3
                  go_wp2
                  all_goals (go_ret; exact ⟨by rw [HV.out, HF.out]; rfl, HBE.out⟩)
              · have d2 : decide (wrap64 ((if q.f1 < p.f1 then q.f1 else p.f1) * d) ≤ y) = false := decide_eq_false c2
                have HF := Aside0.mk (show refInB l0 x y d = false by rw [HT.out, decide_eq_false_iff_not]; exact fun h => c2 h.2.1)
                clear c0 c1 c2
                go_wp2
                all_goals (go_ret; exact ⟨by rw [HV.out, HF.out]; rfl, HBE.out⟩)
            · have d1 : decide (x ≤ wrap64 ((if p.f0 < q.f0 then q.f0 else p.f0) * d)) = false := decide_eq_false c1
              have HF := Aside0.mk (show refInB l0 x y d = false by rw [HT.out, decide_eq_false_iff_not]; exact fun h => c1 h.1.2)
              clear c0 c1
              go_wp2
              all_goals (go_ret; exact ⟨by rw [HV.out, HF.out]; rfl, HBE.out⟩)
          · have d0 : decide (wrap64 ((if q.f0 < p.f0 then q.f0 else p.f0) * d) ≤ x) = false := decide_eq_false c0
            have HF := Aside0.mk (show refInB l0 x y d = false by rw [HT.out, decide_eq_false_iff_not]; exact fun h => c0 h.1.1)
            clear c0
            go_wp2
            all_goals (go_ret; exact ⟨by rw [HV.out, HF.out]; rfl, HBE.out⟩)
set_option maxHeartbeats 2000000 in
theorem refin_one (A0 : Option Addr) (c0 : Nat) (l0 : List S31) (x y d : Int) (w : World) (hr0 : Kd.C k31 w A0 l0.length l0) (hl1 : l0.length = 1) :
    Calls Try.prog 71 #[.slice A0 l0.length c0, .int .i64 x, .int .i64 y, .int .i64 d] w fun e w' => e = .returned (.bool (refInB l0 x y d)) ∧ Below w.heap.size w w' := by
  have HB := Aside0.mk (Below.refl w.heap.size w)
  obtain ⟨ad, rfl, hx0, hx1⟩ := at_T31 hr0 (0 : Int) (by omega) (by omega)
  rw [show rd_T31 l0 0 = pt l0 0 from rfl] at hx0 hx1
  simp only [Addr.add_zero', Int.toNat_zero, Nat.zero_mul] at hx0 hx1
  have HE : Aside0 (refInB l0 x y d = decide (x = wrap64 ((pt l0 0).f0 * d) ∧ y = wrap64 ((pt l0 0).f1 * d))) := ⟨by unfold refInB; rw [if_pos hl1]⟩
  have h1B : (((l0.length : Nat) : Int) == 1) = true := by rw [beq_iff_eq]; omega
  have hlI : (0 : Int) < ((l0.length : Nat) : Int) := by omega
  generalize refInB l0 x y d = r at *
  generalize pt l0 0 = p at *
  clear hr0 hl1
  by_cases hq : x = wrap64 (p.f0 * d)
  · have hqB : (x == wrap64 (p.f0 * d)) = true := by rw [beq_iff_eq]; exact hq
    have HR : Aside0 (r = (y == wrap64 (p.f1 * d))) := ⟨by rw [HE.out, Bool.eq_iff_iff]; simp [hq]⟩
    clear hq
    go_enter Try.func71, Try.ntmps71
    go_wp2
    go_ret
    exact ⟨by rw [HR.out]; rfl, HB.out⟩
  · have hqB : (x == wrap64 (p.f0 * d)) = false := by rw [beq_eq_false_iff_ne]; exact hq
    have HR : Aside0 (r = false) := ⟨by rw [HE.out, decide_eq_false_iff_not]; exact fun h => hq h.1⟩
    clear hq
    go_enter Try.func71, Try.ntmps71
    go_wp2
    go_ret
    exact ⟨by rw [HR.out]; rfl, HB.out⟩
def silversideref01_in.f (l0 : List S31) (a1 a2 a3 : Int) : Option Bool := if 1 ≤ l0.length ∧ l0.length ≤ 4096 then some (refInB l0 a1 a2 a3) else none
theorem silversideref01_in.calls (A0 : Option Addr) (c0 : Nat) (l0 : List S31) (a1 a2 a3 : Int) (r : Bool) (w : World) (hr0 : Kd.C k31 w A0 l0.length l0) (hc0 : l0.length ≤ c0) (h : silversideref01_in.f l0 a1 a2 a3 = some r) :
    Calls Try.prog 71 #[.slice A0 l0.length c0, .int .i64 a1, .int .i64 a2, .int .i64 a3] w fun e w' => e = .returned (.bool r) ∧ Below w.heap.size w w' := by
  unfold silversideref01_in.f at h
  split at h
  · rename_i hh
    cases h
    by_cases h1 : l0.length = 1
    · exact refin_one A0 c0 l0 a1 a2 a3 w hr0 h1
    · exact refin_more A0 c0 l0 a1 a2 a3 w hr0 hc0 (by omega) hh.2
  · cases h
end Go.Proofs.Ythaklbjcjoolcaa.P
namespace Go.Proofs.Ythaklbjcjoolcaa.P
open Go.RowKit Go.Proofs.YthaklbjcjoolcaaW.PrintWords Go.Proofs.YthaklbjcjoolcaaW.PrintLast Go.Proofs.YthaklbjcjoolcaaW.PrintMore
attribute [local go_sem] max2_int min2_int max_two min_two max_three min_three max_four min_four   -- for this text's walks alone

/-! ### silversideref01_Meets: function 41 -/
mutual
def silversideref01_Meets.l0 : Nat → List (S31) → List (S31) → Int → Option (Bool)
 | 0, _, _, _ => none
 | k + 1, x5, x6, x7 => if x7 < (x5.length : Int) then (if 0 ≤ x7 then ((silversideref01_in.f x6 ((rd_T31 x5 x7).f0) ((rd_T31 x5 x7).f1) 1).bind fun t460 => (if t460 = true then (some true) else (silversideref01_Meets.l0 k x5 x6 (wrap64 (x7 + 1))))) else (none)) else (silversideref01_Meets.l1 k x5 x6 0)
def silversideref01_Meets.l1 : Nat → List (S31) → List (S31) → Int → Option (Bool)
 | 0, _, _, _ => none
 | k + 1, x5, x6, x8 => if x8 < (x6.length : Int) then (if 0 ≤ x8 then ((silversideref01_in.f x5 ((rd_T31 x6 x8).f0) ((rd_T31 x6 x8).f1) 1).bind fun t463 => (if t463 = true then (some true) else (silversideref01_Meets.l1 k x5 x6 (wrap64 (x8 + 1))))) else (none)) else (silversideref01_Meets.l2 k x5 x6 0)
def silversideref01_Meets.l2 : Nat → List (S31) → List (S31) → Int → Option (Bool)
 | 0, _, _, _ => none
 | k + 1, x5, x6, x9 => if x9 < (x5.length : Int) then (silversideref01_Meets.l3 k x5 x6 x9 0) else (some false)
def silversideref01_Meets.l3 : Nat → List (S31) → List (S31) → Int → Int → Option (Bool)
 | 0, _, _, _, _ => none
 | k + 1, x5, x6, x9, x10 => if x10 < (x6.length : Int) then (if 0 ≤ x9 then (if x9 < (x5.length : Int) then ((silversideref01_next.f x9 (x5.length : Int)).bind fun t465 => (if 0 ≤ t465 then (if t465 < (x5.length : Int) then (if 0 ≤ x10 then ((silversideref01_next.f x10 (x6.length : Int)).bind fun t468 => (if 0 ≤ t468 then (if t468 < (x6.length : Int) then ((silversideref01_meet.f k ((rd_T31 x5 x9).f0) ((rd_T31 x5 x9).f1) ((rd_T31 x5 t465).f0) ((rd_T31 x5 t465).f1) ((rd_T31 x6 x10).f0) ((rd_T31 x6 x10).f1) ((rd_T31 x6 t468).f0) ((rd_T31 x6 t468).f1)).bind fun t470 => (if t470 = true then (some true) else (silversideref01_Meets.l3 k x5 x6 x9 (wrap64 (x10 + 1))))) else (none)) else (none))) else (none)) else (none)) else (none))) else (none)) else (none)) else (silversideref01_Meets.l2 k x5 x6 (wrap64 (x9 + 1)))
end
def silversideref01_Meets.f (k : Nat) (l0 : List (S31)) (l1 : List (S31)) : Option (Bool) := (silversideref01_Hull.f l0).bind fun t452 => ((silversideref01_Hull.f l1).bind fun t455 => (silversideref01_Meets.l0 k t452 t455 0))
theorem silversideref01_Meets.mono_l : ∀ k, (∀ y0 y1 y2, LeO (silversideref01_Meets.l0 k y0 y1 y2) (silversideref01_Meets.l0 (k + 1) y0 y1 y2)) ∧ (∀ y0 y1 y2, LeO (silversideref01_Meets.l1 k y0 y1 y2) (silversideref01_Meets.l1 (k + 1) y0 y1 y2)) ∧ (∀ y0 y1 y2, LeO (silversideref01_Meets.l2 k y0 y1 y2) (silversideref01_Meets.l2 (k + 1) y0 y1 y2)) ∧ (∀ y0 y1 y2 y3, LeO (silversideref01_Meets.l3 k y0 y1 y2 y3) (silversideref01_Meets.l3 (k + 1) y0 y1 y2 y3))
 | 0 => ⟨fun _ _ _ r h => by simp [silversideref01_Meets.l0] at h, fun _ _ _ r h => by simp [silversideref01_Meets.l1] at h, fun _ _ _ r h => by simp [silversideref01_Meets.l2] at h, fun _ _ _ _ r h => by simp [silversideref01_Meets.l3] at h⟩
 | k + 1 => by
  obtain ⟨ih0, ih1, ih2, ih3⟩ := silversideref01_Meets.mono_l k
  refine ⟨?_, ?_, ?_, ?_⟩
  ·intro y0 y1 y2
   unfold silversideref01_Meets.l0
   repeat' first
   | (with_reducible exact ih0 _ _ _)
   | (with_reducible exact ih1 _ _ _)
   | (with_reducible exact ih2 _ _ _)
   | (with_reducible exact ih3 _ _ _ _)
   | (with_reducible exact silversideref01_meet.mono _ _ _ _ _ _ _ _ _)
   | (with_reducible exact LeO.refl _)
   | (with_reducible exact LeO.none _)
   | (with_reducible refine LeO.ite ?_ ?_)
   | (with_reducible refine LeO.bind ?_ (fun _ => ?_))
   | exact ih0 _ _ _
   | exact ih1 _ _ _
   | exact ih2 _ _ _
   | exact ih3 _ _ _ _
   | exact silversideref01_meet.mono _ _ _ _ _ _ _ _ _
   | exact LeO.none _
   | refine LeO.ite ?_ ?_
   | refine LeO.bind ?_ (fun _ => ?_)
  ·intro y0 y1 y2
   unfold silversideref01_Meets.l1
   repeat' first
   | (with_reducible exact ih0 _ _ _)
   | (with_reducible exact ih1 _ _ _)
   | (with_reducible exact ih2 _ _ _)
   | (with_reducible exact ih3 _ _ _ _)
   | (with_reducible exact silversideref01_meet.mono _ _ _ _ _ _ _ _ _)
   | (with_reducible exact LeO.refl _)
   | (with_reducible exact LeO.none _)
   | (with_reducible refine LeO.ite ?_ ?_)
   | (with_reducible refine LeO.bind ?_ (fun _ => ?_))
   | exact ih0 _ _ _
   | exact ih1 _ _ _
   | exact ih2 _ _ _
   | exact ih3 _ _ _ _
   | exact silversideref01_meet.mono _ _ _ _ _ _ _ _ _
   | exact LeO.none _
   | refine LeO.ite ?_ ?_
   | refine LeO.bind ?_ (fun _ => ?_)
  ·intro y0 y1 y2
   unfold silversideref01_Meets.l2
   repeat' first
   | (with_reducible exact ih0 _ _ _)
   | (with_reducible exact ih1 _ _ _)
   | (with_reducible exact ih2 _ _ _)
   | (with_reducible exact ih3 _ _ _ _)
   | (with_reducible exact silversideref01_meet.mono _ _ _ _ _ _ _ _ _)
   | (with_reducible exact LeO.refl _)
   | (with_reducible exact LeO.none _)
   | (with_reducible refine LeO.ite ?_ ?_)
   | (with_reducible refine LeO.bind ?_ (fun _ => ?_))
   | exact ih0 _ _ _
   | exact ih1 _ _ _
   | exact ih2 _ _ _
   | exact ih3 _ _ _ _
   | exact silversideref01_meet.mono _ _ _ _ _ _ _ _ _
   | exact LeO.none _
   | refine LeO.ite ?_ ?_
   | refine LeO.bind ?_ (fun _ => ?_)
  ·intro y0 y1 y2 y3
   unfold silversideref01_Meets.l3
   repeat' first
   | (with_reducible exact ih0 _ _ _)
   | (with_reducible exact ih1 _ _ _)
   | (with_reducible exact ih2 _ _ _)
   | (with_reducible exact ih3 _ _ _ _)
   | (with_reducible exact silversideref01_meet.mono _ _ _ _ _ _ _ _ _)
   | (with_reducible exact LeO.refl _)
   | (with_reducible exact LeO.none _)
   | (with_reducible refine LeO.ite ?_ ?_)
   | (with_reducible refine LeO.bind ?_ (fun _ => ?_))
   | exact ih0 _ _ _
   | exact ih1 _ _ _
   | exact ih2 _ _ _
   | exact ih3 _ _ _ _
   | exact silversideref01_meet.mono _ _ _ _ _ _ _ _ _
   | exact LeO.none _
   | refine LeO.ite ?_ ?_
   | refine LeO.bind ?_ (fun _ => ?_)
theorem silversideref01_Meets.mono : ∀ a0 a1 k, LeO (silversideref01_Meets.f k a0 a1) (silversideref01_Meets.f (k + 1) a0 a1) := by
 intro a0 a1 k
 obtain ⟨ih0, ih1, ih2, ih3⟩ := silversideref01_Meets.mono_l k
 unfold silversideref01_Meets.f
 repeat' first
   | (with_reducible exact ih0 _ _ _)
   | (with_reducible exact ih1 _ _ _)
   | (with_reducible exact ih2 _ _ _)
   | (with_reducible exact ih3 _ _ _ _)
   | (with_reducible exact silversideref01_meet.mono _ _ _ _ _ _ _ _ _)
   | (with_reducible exact LeO.refl _)
   | (with_reducible exact LeO.none _)
   | (with_reducible refine LeO.ite ?_ ?_)
   | (with_reducible refine LeO.bind ?_ (fun _ => ?_))
   | exact ih0 _ _ _
   | exact ih1 _ _ _
   | exact ih2 _ _ _
   | exact ih3 _ _ _ _
   | exact silversideref01_meet.mono _ _ _ _ _ _ _ _ _
   | exact LeO.none _
   | refine LeO.ite ?_ ?_
   | refine LeO.bind ?_ (fun _ => ?_)
def silversideref01_Meets.T5 : Bool × List (List Nat × List Nat) := (true, [([], []), ([], []), ([], []), ([1, 2], [1, 2]), ([3], [3]), ([4], [4]), ([], []), ([], []), ([6, 7], [6, 7]), ([8], [8]), ([9], [9]), ([0, 5, 10], [0, 5, 10])])
def silversideref01_Meets.B5 : List Nat := [0, 0, 0, 6, 14, 30, 0, 0, 192, 448, 960, 2047]
theorem silversideref01_Meets.tab5 : rtab .any (opsOf Try.f41 5) = silversideref01_Meets.T5 := by kernel_rfl
theorem silversideref01_Meets.bits5 : waitsOk silversideref01_Meets.T5.2 silversideref01_Meets.B5 = true := by kernel_rfl
def silversideref01_Meets.T10 : Bool × List (List Nat × List Nat) := (true, [([], []), ([], []), ([], []), ([1, 2], [1, 2]), ([3], [3]), ([4], [4]), ([], []), ([], []), ([6, 7], [6, 7]), ([8], [8]), ([9], [9]), ([0, 5, 10], [0, 5, 10])])
def silversideref01_Meets.B10 : List Nat := [0, 0, 0, 6, 14, 30, 0, 0, 192, 448, 960, 2047]
theorem silversideref01_Meets.tab10 : rtab .any (opsOf Try.f41 10) = silversideref01_Meets.T10 := by kernel_rfl
theorem silversideref01_Meets.bits10 : waitsOk silversideref01_Meets.T10.2 silversideref01_Meets.B10 = true := by kernel_rfl
def silversideref01_Meets.T18 : Bool × List (List Nat × List Nat) := (true, [([], []), ([], []), ([0, 1], [0, 1]), ([2], [2]), ([], []), ([], []), ([], []), ([6], [6]), ([5, 7], [5, 7]), ([4, 8], [4, 8]), ([9], [9]), ([], []), ([], []), ([11, 12], [11, 12]), ([13], [13]), ([], []), ([], []), ([], []), ([17], [17]), ([16, 18, 8], [16, 18]), ([15, 19], [15, 19]), ([20], [20]), ([3, 10, 14, 21, 19], [3, 10, 14, 21])])
def silversideref01_Meets.B18 : List Nat := [0, 0, 3, 7, 0, 0, 0, 64, 224, 496, 1008, 0, 0, 6144, 14336, 0, 0, 0, 131072, 459232, 1016288, 2064864, 4194303]
theorem silversideref01_Meets.tab18 : rtab .any (opsOf Try.f41 18) = silversideref01_Meets.T18 := by kernel_rfl
theorem silversideref01_Meets.bits18 : waitsOk silversideref01_Meets.T18.2 silversideref01_Meets.B18 = true := by kernel_rfl
set_option maxHeartbeats 8000000 in
set_option maxRecDepth 100000 in
theorem silversideref01_Meets.calls (k : Nat) (A0 : Option Addr) (c0 : Nat) (l0 : List (S31)) (A1 : Option Addr) (c1 : Nat) (l1 : List (S31)) (r : Bool) (w : World) (hr0 : Kd.C k31 w A0 l0.length l0) (hc0 : l0.length ≤ c0) (hr1 : Kd.C k31 w A1 l1.length l1) (hc1 : l1.length ≤ c1) (h : silversideref01_Meets.f k l0 l1 = some r) :
  Calls Try.prog 41 #[.slice A0 l0.length c0, .slice A1 l1.length c1] w fun e w' => e = .returned (.bool r) ∧ Below w.heap.size w w' := by
 have hu31 := Try.underlying31
 have HR0 := Aside0.mk hr0
 have HC0 := Aside0.mk hc0
 clear hr0 hc0
 have HR1 := Aside0.mk hr1
 have HC1 := Aside0.mk hc1
 clear hr1 hc1
 have HB := Aside0.mk (Below.refl w.heap.size w)
 have H : ((silversideref01_Hull.f l0).bind fun t452 => ((silversideref01_Hull.f l1).bind fun t455 => (silversideref01_Meets.l0 k t452 t455 0))) = some r := h
 clear h
 replace H := Option.bind_eq_some_iff.mp H
 obtain ⟨t452, A30, H⟩ := H
 replace H : ((silversideref01_Hull.f l1).bind fun t455 => (silversideref01_Meets.l0 k t452 t455 0)) = some r := H
 have A3 := Aside0.mk A30
 clear A30
 replace H := Option.bind_eq_some_iff.mp H
 obtain ⟨t455, A40, H⟩ := H
 replace H : (silversideref01_Meets.l0 k t452 t455 0) = some r := H
 have A4 := Aside0.mk A40
 clear A40
 have H' := Aside0.mk H
 clear H
 go_enter Try.func41, Try.ntmps41
 go_wp2_with (first | ((with_reducible refine gate_callee (f := 35) rfl ?_); refine goesL_ (some 12) rfl rfl Try.func35 (by kernel_rfl) rfl #[.slice A0 l0.length c0] rfl (by (try simp only [List.map_toArray, List.map_cons, List.map_nil]); first | done | rfl | (simp only [List.length_drop, List.length_take]; rfl)) ?_; (with_reducible refine (silversideref01_Hull.calls _ _ l0 t452 _ ?side1 ?side2 A3.out).mono ?_); (case side1 => repeat (first | exact HR0.out | (with_reducible refine Kd.C_alloc ?_ _) | (with_reducible refine Kd.C_drewN ?_ _) | (with_reducible refine Kd.C_drew ?_))); (case side2 => exact HC0.out); rintro e w5 ⟨v453, rfl, ho0, hb⟩; refine ⟨_, rfl, ?_⟩; have n0_ := Aside0.mk (Kd.R_lower ho0 (below_size lB)); have n1_ := Aside0.mk (below_step lB hb); clear HB; have HO454 := n0_; have HB := n1_; clear n0_ n1_; (try clear hb); (try clear hb2); (try clear hk); (try clear hi); (try clear ho0)) | ((with_reducible refine gate_callee (f := 35) rfl ?_); refine goesL_ (some 14) rfl rfl Try.func35 (by kernel_rfl) rfl #[.slice A1 l1.length c1] rfl (by (try simp only [List.map_toArray, List.map_cons, List.map_nil]); first | done | rfl | (simp only [List.length_drop, List.length_take]; rfl)) ?_; (with_reducible refine (silversideref01_Hull.calls _ _ l1 t455 _ ?side1 ?side2 A4.out).mono ?_); (case side1 => repeat (first | exact (Kd.C_below HR1.out HB.out) | (with_reducible refine Kd.C_alloc ?_ _) | (with_reducible refine Kd.C_drewN ?_ _) | (with_reducible refine Kd.C_drew ?_))); (case side2 => exact HC1.out); rintro e w6 ⟨v456, rfl, ho0, hb⟩; refine ⟨_, rfl, ?_⟩; have n0_ := Aside0.mk (Kd.R_elder' (by (with_reducible repeat (first | apply Kd.R_alloc | apply Kd.R_drewN | apply Kd.R_drew)); exact HO454.out) (Kd.R_base ho0) hb); have n1_ := Aside0.mk (Kd.R_lower (Kd.R_new' ho0 (Kd.R_lt (by (with_reducible repeat (first | apply Kd.R_alloc | apply Kd.R_drewN | apply Kd.R_drew)); exact HO454.out))) (below_size lB)); have n2_ := Aside0.mk (below_step lB hb); clear HO454; clear HB; have HO454 := n0_; have HO457 := n1_; have HB := n2_; clear n0_ n1_ n2_; (try clear hb); (try clear hb2); (try clear hk); (try clear hi); (try clear ho0)))
 go_loopg [7] k (fun kq v7 w' => ∃ (x7_1 : Int), v7 = .int .i64 x7_1 ∧ Aside0 (silversideref01_Meets.l0 kq t452 t455 x7_1 = some r) ∧ Aside0 (kq ≤ k) ∧ Aside0 (Kd.R k31 31 w' w.heap.size (fun k_ => some k_ ≠ (v456 : Value).ownBlock) v453 t452) ∧ Aside0 (Kd.R k31 31 w' w.heap.size (fun k_ => some k_ ≠ (v453 : Value).ownBlock) v456 t455) ∧ Aside0 (Below w.heap.size w w'))
 case atStart => exact ⟨(0), (by first | rfl | (simp; done) | (simp [*]; done)), H', ⟨Nat.le_refl _⟩, ⟨by (with_reducible repeat (first | apply Kd.R_alloc | apply Kd.R_drewN | apply Kd.R_drew)); exact Kd.R_mono HO454.out (fun _ hk => hk.2)⟩, ⟨by (with_reducible repeat (first | apply Kd.R_alloc | apply Kd.R_drewN | apply Kd.R_drew)); exact Kd.R_mono HO457.out (fun _ hk => hk.2)⟩, ⟨by repeat (first | (with_reducible first | exact HB.out | apply lA | apply lN | apply lD) | exact HB.out)⟩⟩
 case round =>
  clear H'
  try clear c1
  try clear p2
  try clear c3
  try clear c4
  obtain ⟨x7_1, rfl, HA, HK1, HO_5, HO_6, HB⟩ := hrel
  cases gk with
  | zero => exact absurd HA.out (by simp [silversideref01_Meets.l0])
  | succ k1 =>
   have H := HA.out
   clear HA
   simp only [silversideref01_Meets.l0] at H
   by_cases c7 : x7_1 < (t452.length : Int)
   ·rw [if_pos c7] at H
    have c7b0 : decide (x7_1 < (t452.length : Int)) = true := decide_eq_true c7
    clear c7
    by_cases c8 : 0 ≤ x7_1
    ·rw [if_pos c8] at H
     have c8b0 : decide (0 ≤ x7_1) = true := decide_eq_true c8
     clear c8
     replace H := Option.bind_eq_some_iff.mp H
     obtain ⟨t460, A90, H⟩ := H
     replace H : (if t460 = true then (some true) else (silversideref01_Meets.l0 k1 t452 t455 (wrap64 (x7_1 + 1)))) = some r := H
     have A9 := Aside0.mk A90
     clear A90
     by_cases c10 : t460 = true
     ·subst c10
      have H1 : (some true) = some r := by rw [if_pos rfl] at H; exact H
      clear H
      have H := H1
      clear H1
      obtain rfl := Option.some.inj H
      obtain ⟨Ao11, co11, eo11⟩ := Kd.R_slice HO_5.out
      subst eo11
      try go_wp2
      replace HO_5 := Aside0.mk (Kd.R_drew HO_5.out)
      replace HO_6 := Aside0.mk (Kd.R_drew HO_6.out)
      replace HB := Aside0.mk (lD HB.out)
      have p458 : 0 ≤ (x7_1 : Int) := of_decide_eq_true (by first | (with_reducible assumption) | assumption)
      have q458 : x7_1 < (t452.length : Int) := of_decide_eq_true (by first | (with_reducible assumption) | assumption)
      obtain ⟨ad458, e458, hx458_0, hx458_1⟩ := at_T31 (Kd.R_reads' HO_5.out).2.2 x7_1 p458 q458
      cases e458
      replace p458 := eq_true p458
      replace q458 := eq_true q458
      have p459 : 0 ≤ (x7_1 : Int) := of_decide_eq_true (by first | (with_reducible assumption) | assumption)
      have q459 : x7_1 < (t452.length : Int) := of_decide_eq_true (by first | (with_reducible assumption) | assumption)
      obtain ⟨ad459, e459, hx459_0, hx459_1⟩ := at_T31 (Kd.R_reads' HO_5.out).2.2 x7_1 p459 q459
      obtain rfl : ad458 = ad459 := (by injection e459)
      replace p459 := eq_true p459
      replace q459 := eq_true q459
      obtain ⟨Ao13, co13, eo13⟩ := Kd.R_slice HO_6.out
      (first | subst eo13 | (injection eo13 with f1_ f2_ f3_; have f4_ := f1_.symm; have f5_ := f3_.symm; clear f1_ f2_ f3_; subst f4_; subst f5_))
      refine start_ (n := 12) (S := fun w' => w'.cell? (ad458.add ((x7_1).toNat * 2)) = some (.int .i64 ((rd_T31 t452 x7_1).f0)) ∧ w'.cell? ⟨(ad458.add ((x7_1).toNat * 2)).block, (ad458.add ((x7_1).toNat * 2)).off + 1, none⟩ = some (.int .i64 ((rd_T31 t452 x7_1).f1)) ∧ w'.cell? (ad458.add ((x7_1).toNat * 2)) = some (.int .i64 ((rd_T31 t452 x7_1).f0)) ∧ w'.cell? ⟨(ad458.add ((x7_1).toNat * 2)).block, (ad458.add ((x7_1).toNat * 2)).off + 1, none⟩ = some (.int .i64 ((rd_T31 t452 x7_1).f1))) (ds := []) (Bs 0 12) (by kernel_rfl) rfl rfl ⟨hx458_0, hx458_1, hx459_0, hx459_1⟩ (fun hHeld => ?_); refine with_tabW silversideref01_Meets.tab5 silversideref01_Meets.bits5 (fun HT_ HW_ => ?_)
      generalize wr.drew = w12 at HO_5 HO_6 HB hx458_0 hx458_1 hx459_0 hx459_1 hHeld ⊢
      refine pu 0 21 (Bs 1 12) HT_ ?_
      refine pu 1 22 (Bs 2 12) HT_ ?_
      refine pu 2 23 (Bs 3 12) HT_ ?_
      refine pu 3 24 (Bs 4 12) HT_ ?_
      refine pu 4 25 (Bs 5 12) HT_ ?_
      refine pu 6 27 (Br [5,1,1,5]) HT_ ?_
      refine pu 7 28 (Br [5,1,2,4]) HT_ ?_
      refine pu 8 29 (Br [5,1,3,3]) HT_ ?_
      refine pu 9 30 (Br [5,1,4,2]) HT_ ?_
      refine ta 5 26 (Bs 10 12) HT_ HW_ hHeld ?_
      refine ta 10 31 (Bs 11 12) HT_ HW_ hHeld ?_
      refine one_ (i := 11) (N := some 32) (Bs 12 12) rfl rfl (one_of HT_.out (by kernel_rfl)) (by decide) (fun K hK => ?_)
      refine goes_ Try.func71 (by kernel_rfl) rfl #[.slice Ao13 t455.length co13, .int .i64 ((rd_T31 t452 x7_1).f0), .int .i64 ((rd_T31 t452 x7_1).f1), .int .i64 1] (by rfl) rfl rfl (by (try simp only [List.map_toArray, List.map_cons, List.map_nil]); first | done | rfl | (simp only [List.length_drop, List.length_take]; rfl)) ?_
      with_reducible refine (silversideref01_in.calls _ _ t455 ((rd_T31 t452 x7_1).f0) ((rd_T31 t452 x7_1).f1) 1 true _ ?side1 ?side2 A9.out).mono ?_
      (case side1 => repeat (first | exact (Kd.R_reads' HO_6.out).2.2 | (with_reducible refine Kd.C_alloc ?_ _) | (with_reducible refine Kd.C_drewN ?_ _) | (with_reducible refine Kd.C_drew ?_)))
      (case side2 => exact (Kd.R_reads' HO_6.out).2.1)
      rintro e w14 ⟨rfl, hb⟩
      have HS0_ := (hb.cell (World.block_lt_of_cell? _ _ (hHeld.1))).trans (hHeld.1)
      have HS1_ := (hb.cell (World.block_lt_of_cell? _ _ (hHeld.2.1))).trans (hHeld.2.1)
      have HS2_ := (hb.cell (World.block_lt_of_cell? _ _ (hHeld.2.2.1))).trans (hHeld.2.2.1)
      have HS3_ := (hb.cell (World.block_lt_of_cell? _ _ (hHeld.2.2.2))).trans (hHeld.2.2.2)
      refine ⟨_, rfl, ?_⟩
      have n0_ := Aside0.mk (Kd.R_below (by (with_reducible repeat (first | apply Kd.R_alloc | apply Kd.R_drewN | apply Kd.R_drew)); exact HO_5.out) hb)
      have n1_ := Aside0.mk (Kd.R_below (by (with_reducible repeat (first | apply Kd.R_alloc | apply Kd.R_drewN | apply Kd.R_drew)); exact HO_6.out) hb)
      have n2_ := Aside0.mk (below_step lB hb)
      clear HO_5
      clear HO_6
      clear HB
      have HO_5 := n0_
      have HO_6 := n1_
      have HB := n2_
      clear n0_ n1_ n2_
      (try clear hb)
      (try clear hb2)
      (try clear hk)
      (try clear hi)
      refine hK.out _ _ ⟨HS0_, HS1_, HS2_, HS3_⟩ (fun hHeld => ?_)
      clear hK K
      refine nm 32 ?_
      refine done_ (done_of HT_.out (by kernel_rfl)) ?_
      try go_wp2
      go_ret
      exact en
     ·replace c10 := Bool.eq_false_iff.mpr c10
      subst c10
      have H1 : (silversideref01_Meets.l0 k1 t452 t455 (wrap64 (x7_1 + 1))) = some r := by rw [if_neg (show ¬ (false = true) by decide)] at H; exact H
      clear H
      have H := H1
      clear H1
      have H' := Aside0.mk H
      clear H
      obtain ⟨Ao15, co15, eo15⟩ := Kd.R_slice HO_5.out
      subst eo15
      try go_wp2
      replace HO_5 := Aside0.mk (Kd.R_drew HO_5.out)
      replace HO_6 := Aside0.mk (Kd.R_drew HO_6.out)
      replace HB := Aside0.mk (lD HB.out)
      have p458 : 0 ≤ (x7_1 : Int) := of_decide_eq_true (by first | (with_reducible assumption) | assumption)
      have q458 : x7_1 < (t452.length : Int) := of_decide_eq_true (by first | (with_reducible assumption) | assumption)
      obtain ⟨ad458, e458, hx458_0, hx458_1⟩ := at_T31 (Kd.R_reads' HO_5.out).2.2 x7_1 p458 q458
      cases e458
      replace p458 := eq_true p458
      replace q458 := eq_true q458
      have p459 : 0 ≤ (x7_1 : Int) := of_decide_eq_true (by first | (with_reducible assumption) | assumption)
      have q459 : x7_1 < (t452.length : Int) := of_decide_eq_true (by first | (with_reducible assumption) | assumption)
      obtain ⟨ad459, e459, hx459_0, hx459_1⟩ := at_T31 (Kd.R_reads' HO_5.out).2.2 x7_1 p459 q459
      obtain rfl : ad458 = ad459 := (by injection e459)
      replace p459 := eq_true p459
      replace q459 := eq_true q459
      obtain ⟨Ao17, co17, eo17⟩ := Kd.R_slice HO_6.out
      (first | subst eo17 | (injection eo17 with f1_ f2_ f3_; have f4_ := f1_.symm; have f5_ := f3_.symm; clear f1_ f2_ f3_; subst f4_; subst f5_))
      refine start_ (n := 12) (S := fun w' => w'.cell? (ad458.add ((x7_1).toNat * 2)) = some (.int .i64 ((rd_T31 t452 x7_1).f0)) ∧ w'.cell? ⟨(ad458.add ((x7_1).toNat * 2)).block, (ad458.add ((x7_1).toNat * 2)).off + 1, none⟩ = some (.int .i64 ((rd_T31 t452 x7_1).f1)) ∧ w'.cell? (ad458.add ((x7_1).toNat * 2)) = some (.int .i64 ((rd_T31 t452 x7_1).f0)) ∧ w'.cell? ⟨(ad458.add ((x7_1).toNat * 2)).block, (ad458.add ((x7_1).toNat * 2)).off + 1, none⟩ = some (.int .i64 ((rd_T31 t452 x7_1).f1))) (ds := []) (Bs 0 12) (by kernel_rfl) rfl rfl ⟨hx458_0, hx458_1, hx459_0, hx459_1⟩ (fun hHeld => ?_); refine with_tabW silversideref01_Meets.tab5 silversideref01_Meets.bits5 (fun HT_ HW_ => ?_)
      generalize wr.drew = w16 at HO_5 HO_6 HB hx458_0 hx458_1 hx459_0 hx459_1 hHeld ⊢
      refine pu 0 21 (Bs 1 12) HT_ ?_
      refine pu 1 22 (Bs 2 12) HT_ ?_
      refine pu 2 23 (Bs 3 12) HT_ ?_
      refine pu 3 24 (Bs 4 12) HT_ ?_
      refine pu 4 25 (Bs 5 12) HT_ ?_
      refine pu 6 27 (Br [5,1,1,5]) HT_ ?_
      refine pu 7 28 (Br [5,1,2,4]) HT_ ?_
      refine pu 8 29 (Br [5,1,3,3]) HT_ ?_
      refine pu 9 30 (Br [5,1,4,2]) HT_ ?_
      refine ta 5 26 (Bs 10 12) HT_ HW_ hHeld ?_
      refine ta 10 31 (Bs 11 12) HT_ HW_ hHeld ?_
      refine one_ (i := 11) (N := some 32) (Bs 12 12) rfl rfl (one_of HT_.out (by kernel_rfl)) (by decide) (fun K hK => ?_)
      refine goes_ Try.func71 (by kernel_rfl) rfl #[.slice Ao17 t455.length co17, .int .i64 ((rd_T31 t452 x7_1).f0), .int .i64 ((rd_T31 t452 x7_1).f1), .int .i64 1] (by rfl) rfl rfl (by (try simp only [List.map_toArray, List.map_cons, List.map_nil]); first | done | rfl | (simp only [List.length_drop, List.length_take]; rfl)) ?_
      with_reducible refine (silversideref01_in.calls _ _ t455 ((rd_T31 t452 x7_1).f0) ((rd_T31 t452 x7_1).f1) 1 false _ ?side1 ?side2 A9.out).mono ?_
      (case side1 => repeat (first | exact (Kd.R_reads' HO_6.out).2.2 | (with_reducible refine Kd.C_alloc ?_ _) | (with_reducible refine Kd.C_drewN ?_ _) | (with_reducible refine Kd.C_drew ?_)))
      (case side2 => exact (Kd.R_reads' HO_6.out).2.1)
      rintro e w18 ⟨rfl, hb⟩
      have HS0_ := (hb.cell (World.block_lt_of_cell? _ _ (hHeld.1))).trans (hHeld.1)
      have HS1_ := (hb.cell (World.block_lt_of_cell? _ _ (hHeld.2.1))).trans (hHeld.2.1)
      have HS2_ := (hb.cell (World.block_lt_of_cell? _ _ (hHeld.2.2.1))).trans (hHeld.2.2.1)
      have HS3_ := (hb.cell (World.block_lt_of_cell? _ _ (hHeld.2.2.2))).trans (hHeld.2.2.2)
      refine ⟨_, rfl, ?_⟩
      have n0_ := Aside0.mk (Kd.R_below (by (with_reducible repeat (first | apply Kd.R_alloc | apply Kd.R_drewN | apply Kd.R_drew)); exact HO_5.out) hb)
      have n1_ := Aside0.mk (Kd.R_below (by (with_reducible repeat (first | apply Kd.R_alloc | apply Kd.R_drewN | apply Kd.R_drew)); exact HO_6.out) hb)
      have n2_ := Aside0.mk (below_step lB hb)
      clear HO_5
      clear HO_6
      clear HB
      have HO_5 := n0_
      have HO_6 := n1_
      have HB := n2_
      clear n0_ n1_ n2_
      (try clear hb)
      (try clear hb2)
      (try clear hk)
      (try clear hi)
      refine hK.out _ _ ⟨HS0_, HS1_, HS2_, HS3_⟩ (fun hHeld => ?_)
      clear hK K
      refine nm 32 ?_
      refine done_ (done_of HT_.out (by kernel_rfl)) ?_
      try go_wp2
      go_roundg k1
      case measure => have := HK1.out; omega
      case rel => exact ⟨(wrap64 (x7_1 + 1)), (by first | rfl | (simp; done) | (simp [*]; done)), H', ⟨by have := HK1.out; omega⟩, ⟨by (with_reducible repeat (first | apply Kd.R_alloc | apply Kd.R_drewN | apply Kd.R_drew)); exact HO_5.out⟩, ⟨by (with_reducible repeat (first | apply Kd.R_alloc | apply Kd.R_drewN | apply Kd.R_drew)); exact HO_6.out⟩, ⟨by repeat (first | (with_reducible first | exact HB.out | apply lA | apply lN | apply lD) | exact HB.out)⟩⟩
    ·rw [if_neg c8] at H
     exact absurd H (by simp)
   ·rw [if_neg c7] at H
    have c7b0 : decide (x7_1 < (t452.length : Int)) = false := decide_eq_false c7
    clear c7
    have H' := Aside0.mk H
    clear H
    obtain ⟨Ao19, co19, eo19⟩ := Kd.R_slice HO_5.out
    subst eo19
    go_wp2
    go_loopg [8] k1 (fun kq v8 w' => ∃ (x8_2 : Int), v8 = .int .i64 x8_2 ∧ Aside0 (silversideref01_Meets.l1 kq t452 t455 x8_2 = some r) ∧ Aside0 (kq ≤ k1) ∧ Aside0 (Kd.R k31 31 w' w.heap.size (fun k_ => some k_ ≠ (v456 : Value).ownBlock) (.slice Ao19 t452.length co19) t452) ∧ Aside0 (Kd.R k31 31 w' w.heap.size (fun k_ => some k_ ≠ ((.slice Ao19 t452.length co19) : Value).ownBlock) v456 t455) ∧ Aside0 (Below w.heap.size w w'))
    case atStart => exact ⟨(0), (by first | rfl | (simp; done) | (simp [*]; done)), H', ⟨Nat.le_refl _⟩, ⟨by (with_reducible repeat (first | apply Kd.R_alloc | apply Kd.R_drewN | apply Kd.R_drew)); exact HO_5.out⟩, ⟨by (with_reducible repeat (first | apply Kd.R_alloc | apply Kd.R_drewN | apply Kd.R_drew)); exact HO_6.out⟩, ⟨by repeat (first | (with_reducible first | exact HB.out | apply lA | apply lN | apply lD) | exact HB.out)⟩⟩
    case round =>
     clear H'
     try clear c1
     try clear p2
     try clear c3
     try clear c4
     try clear p4
     try clear q4
     try clear hx4
     try clear p6
     try clear c7
     try clear c7b0
     try clear c8
     try clear c8b0
     try clear c10
     try clear hx458_0
     try clear hx458_1
     try clear hx459_0
     try clear hx459_1
     try clear p2
     try clear p458
     try clear p459
     try clear q458
     try clear q459
     obtain ⟨x8_2, rfl, HA, HK2, HO_5, HO_6, HB⟩ := hrel
     cases gk with
     | zero => exact absurd HA.out (by simp [silversideref01_Meets.l1])
     | succ k2 =>
      have H := HA.out
      clear HA
      simp only [silversideref01_Meets.l1] at H
      by_cases c20 : x8_2 < (t455.length : Int)
      ·rw [if_pos c20] at H
       have c20b0 : decide (x8_2 < (t455.length : Int)) = true := decide_eq_true c20
       clear c20
       by_cases c21 : 0 ≤ x8_2
       ·rw [if_pos c21] at H
        have c21b0 : decide (0 ≤ x8_2) = true := decide_eq_true c21
        clear c21
        replace H := Option.bind_eq_some_iff.mp H
        obtain ⟨t463, A220, H⟩ := H
        replace H : (if t463 = true then (some true) else (silversideref01_Meets.l1 k2 t452 t455 (wrap64 (x8_2 + 1)))) = some r := H
        have A22 := Aside0.mk A220
        clear A220
        by_cases c23 : t463 = true
        ·subst c23
         have H1 : (some true) = some r := by rw [if_pos rfl] at H; exact H
         clear H
         have H := H1
         clear H1
         obtain rfl := Option.some.inj H
         obtain ⟨Ao24, co24, eo24⟩ := Kd.R_slice HO_6.out
         subst eo24
         try go_wp2
         replace HO_5 := Aside0.mk (Kd.R_drew HO_5.out)
         replace HO_6 := Aside0.mk (Kd.R_drew HO_6.out)
         replace HB := Aside0.mk (lD HB.out)
         have p461 : 0 ≤ (x8_2 : Int) := of_decide_eq_true (by first | (with_reducible assumption) | assumption)
         have q461 : x8_2 < (t455.length : Int) := of_decide_eq_true (by first | (with_reducible assumption) | assumption)
         obtain ⟨ad461, e461, hx461_0, hx461_1⟩ := at_T31 (Kd.R_reads' HO_6.out).2.2 x8_2 p461 q461
         cases e461
         replace p461 := eq_true p461
         replace q461 := eq_true q461
         have p462 : 0 ≤ (x8_2 : Int) := of_decide_eq_true (by first | (with_reducible assumption) | assumption)
         have q462 : x8_2 < (t455.length : Int) := of_decide_eq_true (by first | (with_reducible assumption) | assumption)
         obtain ⟨ad462, e462, hx462_0, hx462_1⟩ := at_T31 (Kd.R_reads' HO_6.out).2.2 x8_2 p462 q462
         obtain rfl : ad461 = ad462 := (by injection e462)
         replace p462 := eq_true p462
         replace q462 := eq_true q462
         refine start_ (n := 12) (S := fun w' => w'.cell? (ad461.add ((x8_2).toNat * 2)) = some (.int .i64 ((rd_T31 t455 x8_2).f0)) ∧ w'.cell? ⟨(ad461.add ((x8_2).toNat * 2)).block, (ad461.add ((x8_2).toNat * 2)).off + 1, none⟩ = some (.int .i64 ((rd_T31 t455 x8_2).f1)) ∧ w'.cell? (ad461.add ((x8_2).toNat * 2)) = some (.int .i64 ((rd_T31 t455 x8_2).f0)) ∧ w'.cell? ⟨(ad461.add ((x8_2).toNat * 2)).block, (ad461.add ((x8_2).toNat * 2)).off + 1, none⟩ = some (.int .i64 ((rd_T31 t455 x8_2).f1))) (ds := []) (Bs 0 12) (by kernel_rfl) rfl rfl ⟨hx461_0, hx461_1, hx462_0, hx462_1⟩ (fun hHeld => ?_); refine with_tabW silversideref01_Meets.tab10 silversideref01_Meets.bits10 (fun HT_ HW_ => ?_)
         generalize wr.drew = w25 at HO_5 HO_6 HB hx461_0 hx461_1 hx462_0 hx462_1 hHeld ⊢
         refine pu 0 39 (Bs 1 12) HT_ ?_
         refine pu 1 40 (Bs 2 12) HT_ ?_
         refine pu 2 41 (Bs 3 12) HT_ ?_
         refine pu 3 42 (Bs 4 12) HT_ ?_
         refine pu 4 43 (Bs 5 12) HT_ ?_
         refine pu 6 45 (Br [5,1,1,5]) HT_ ?_
         refine pu 7 46 (Br [5,1,2,4]) HT_ ?_
         refine pu 8 47 (Br [5,1,3,3]) HT_ ?_
         refine pu 9 48 (Br [5,1,4,2]) HT_ ?_
         refine ta 5 44 (Bs 10 12) HT_ HW_ hHeld ?_
         refine ta 10 49 (Bs 11 12) HT_ HW_ hHeld ?_
         refine one_ (i := 11) (N := some 50) (Bs 12 12) rfl rfl (one_of HT_.out (by kernel_rfl)) (by decide) (fun K hK => ?_)
         refine goes_ Try.func71 (by kernel_rfl) rfl #[.slice Ao19 t452.length co19, .int .i64 ((rd_T31 t455 x8_2).f0), .int .i64 ((rd_T31 t455 x8_2).f1), .int .i64 1] (by rfl) rfl rfl (by (try simp only [List.map_toArray, List.map_cons, List.map_nil]); first | done | rfl | (simp only [List.length_drop, List.length_take]; rfl)) ?_
         with_reducible refine (silversideref01_in.calls _ _ t452 ((rd_T31 t455 x8_2).f0) ((rd_T31 t455 x8_2).f1) 1 true _ ?side1 ?side2 A22.out).mono ?_
         (case side1 => repeat (first | exact (Kd.R_reads' HO_5.out).2.2 | (with_reducible refine Kd.C_alloc ?_ _) | (with_reducible refine Kd.C_drewN ?_ _) | (with_reducible refine Kd.C_drew ?_)))
         (case side2 => exact (Kd.R_reads' HO_5.out).2.1)
         rintro e w26 ⟨rfl, hb⟩
         have HS0_ := (hb.cell (World.block_lt_of_cell? _ _ (hHeld.1))).trans (hHeld.1)
         have HS1_ := (hb.cell (World.block_lt_of_cell? _ _ (hHeld.2.1))).trans (hHeld.2.1)
         have HS2_ := (hb.cell (World.block_lt_of_cell? _ _ (hHeld.2.2.1))).trans (hHeld.2.2.1)
         have HS3_ := (hb.cell (World.block_lt_of_cell? _ _ (hHeld.2.2.2))).trans (hHeld.2.2.2)
         refine ⟨_, rfl, ?_⟩
         have n0_ := Aside0.mk (Kd.R_below (by (with_reducible repeat (first | apply Kd.R_alloc | apply Kd.R_drewN | apply Kd.R_drew)); exact HO_5.out) hb)
         have n1_ := Aside0.mk (Kd.R_below (by (with_reducible repeat (first | apply Kd.R_alloc | apply Kd.R_drewN | apply Kd.R_drew)); exact HO_6.out) hb)
         have n2_ := Aside0.mk (below_step lB hb)
         clear HO_5
         clear HO_6
         clear HB
         have HO_5 := n0_
         have HO_6 := n1_
         have HB := n2_
         clear n0_ n1_ n2_
         (try clear hb)
         (try clear hb2)
         (try clear hk)
         (try clear hi)
         refine hK.out _ _ ⟨HS0_, HS1_, HS2_, HS3_⟩ (fun hHeld => ?_)
         clear hK K
         refine nm 50 ?_
         refine done_ (done_of HT_.out (by kernel_rfl)) ?_
         try go_wp2
         go_ret
         exact en
        ·replace c23 := Bool.eq_false_iff.mpr c23
         subst c23
         have H1 : (silversideref01_Meets.l1 k2 t452 t455 (wrap64 (x8_2 + 1))) = some r := by rw [if_neg (show ¬ (false = true) by decide)] at H; exact H
         clear H
         have H := H1
         clear H1
         have H' := Aside0.mk H
         clear H
         obtain ⟨Ao27, co27, eo27⟩ := Kd.R_slice HO_6.out
         subst eo27
         try go_wp2
         replace HO_5 := Aside0.mk (Kd.R_drew HO_5.out)
         replace HO_6 := Aside0.mk (Kd.R_drew HO_6.out)
         replace HB := Aside0.mk (lD HB.out)
         have p461 : 0 ≤ (x8_2 : Int) := of_decide_eq_true (by first | (with_reducible assumption) | assumption)
         have q461 : x8_2 < (t455.length : Int) := of_decide_eq_true (by first | (with_reducible assumption) | assumption)
         obtain ⟨ad461, e461, hx461_0, hx461_1⟩ := at_T31 (Kd.R_reads' HO_6.out).2.2 x8_2 p461 q461
         cases e461
         replace p461 := eq_true p461
         replace q461 := eq_true q461
         have p462 : 0 ≤ (x8_2 : Int) := of_decide_eq_true (by first | (with_reducible assumption) | assumption)
         have q462 : x8_2 < (t455.length : Int) := of_decide_eq_true (by first | (with_reducible assumption) | assumption)
         obtain ⟨ad462, e462, hx462_0, hx462_1⟩ := at_T31 (Kd.R_reads' HO_6.out).2.2 x8_2 p462 q462
         obtain rfl : ad461 = ad462 := (by injection e462)
         replace p462 := eq_true p462
         replace q462 := eq_true q462
         refine start_ (n := 12) (S := fun w' => w'.cell? (ad461.add ((x8_2).toNat * 2)) = some (.int .i64 ((rd_T31 t455 x8_2).f0)) ∧ w'.cell? ⟨(ad461.add ((x8_2).toNat * 2)).block, (ad461.add ((x8_2).toNat * 2)).off + 1, none⟩ = some (.int .i64 ((rd_T31 t455 x8_2).f1)) ∧ w'.cell? (ad461.add ((x8_2).toNat * 2)) = some (.int .i64 ((rd_T31 t455 x8_2).f0)) ∧ w'.cell? ⟨(ad461.add ((x8_2).toNat * 2)).block, (ad461.add ((x8_2).toNat * 2)).off + 1, none⟩ = some (.int .i64 ((rd_T31 t455 x8_2).f1))) (ds := []) (Bs 0 12) (by kernel_rfl) rfl rfl ⟨hx461_0, hx461_1, hx462_0, hx462_1⟩ (fun hHeld => ?_); refine with_tabW silversideref01_Meets.tab10 silversideref01_Meets.bits10 (fun HT_ HW_ => ?_)
         generalize wr.drew = w28 at HO_5 HO_6 HB hx461_0 hx461_1 hx462_0 hx462_1 hHeld ⊢
         refine pu 0 39 (Bs 1 12) HT_ ?_
         refine pu 1 40 (Bs 2 12) HT_ ?_
         refine pu 2 41 (Bs 3 12) HT_ ?_
         refine pu 3 42 (Bs 4 12) HT_ ?_
         refine pu 4 43 (Bs 5 12) HT_ ?_
         refine pu 6 45 (Br [5,1,1,5]) HT_ ?_
         refine pu 7 46 (Br [5,1,2,4]) HT_ ?_
         refine pu 8 47 (Br [5,1,3,3]) HT_ ?_
         refine pu 9 48 (Br [5,1,4,2]) HT_ ?_
         refine ta 5 44 (Bs 10 12) HT_ HW_ hHeld ?_
         refine ta 10 49 (Bs 11 12) HT_ HW_ hHeld ?_
         refine one_ (i := 11) (N := some 50) (Bs 12 12) rfl rfl (one_of HT_.out (by kernel_rfl)) (by decide) (fun K hK => ?_)
         refine goes_ Try.func71 (by kernel_rfl) rfl #[.slice Ao19 t452.length co19, .int .i64 ((rd_T31 t455 x8_2).f0), .int .i64 ((rd_T31 t455 x8_2).f1), .int .i64 1] (by rfl) rfl rfl (by (try simp only [List.map_toArray, List.map_cons, List.map_nil]); first | done | rfl | (simp only [List.length_drop, List.length_take]; rfl)) ?_
         with_reducible refine (silversideref01_in.calls _ _ t452 ((rd_T31 t455 x8_2).f0) ((rd_T31 t455 x8_2).f1) 1 false _ ?side1 ?side2 A22.out).mono ?_
         (case side1 => repeat (first | exact (Kd.R_reads' HO_5.out).2.2 | (with_reducible refine Kd.C_alloc ?_ _) | (with_reducible refine Kd.C_drewN ?_ _) | (with_reducible refine Kd.C_drew ?_)))
         (case side2 => exact (Kd.R_reads' HO_5.out).2.1)
         rintro e w29 ⟨rfl, hb⟩
         have HS0_ := (hb.cell (World.block_lt_of_cell? _ _ (hHeld.1))).trans (hHeld.1)
         have HS1_ := (hb.cell (World.block_lt_of_cell? _ _ (hHeld.2.1))).trans (hHeld.2.1)
         have HS2_ := (hb.cell (World.block_lt_of_cell? _ _ (hHeld.2.2.1))).trans (hHeld.2.2.1)
         have HS3_ := (hb.cell (World.block_lt_of_cell? _ _ (hHeld.2.2.2))).trans (hHeld.2.2.2)
         refine ⟨_, rfl, ?_⟩
         have n0_ := Aside0.mk (Kd.R_below (by (with_reducible repeat (first | apply Kd.R_alloc | apply Kd.R_drewN | apply Kd.R_drew)); exact HO_5.out) hb)
         have n1_ := Aside0.mk (Kd.R_below (by (with_reducible repeat (first | apply Kd.R_alloc | apply Kd.R_drewN | apply Kd.R_drew)); exact HO_6.out) hb)
         have n2_ := Aside0.mk (below_step lB hb)
         clear HO_5
         clear HO_6
         clear HB
         have HO_5 := n0_
         have HO_6 := n1_
         have HB := n2_
         clear n0_ n1_ n2_
         (try clear hb)
         (try clear hb2)
         (try clear hk)
         (try clear hi)
         refine hK.out _ _ ⟨HS0_, HS1_, HS2_, HS3_⟩ (fun hHeld => ?_)
         clear hK K
         refine nm 50 ?_
         refine done_ (done_of HT_.out (by kernel_rfl)) ?_
         try go_wp2
         go_roundg k2
         case measure => have := HK1.out; have := HK2.out; omega
         case rel => exact ⟨(wrap64 (x8_2 + 1)), (by first | rfl | (simp; done) | (simp [*]; done)), H', ⟨by have := HK1.out; have := HK2.out; omega⟩, ⟨by (with_reducible repeat (first | apply Kd.R_alloc | apply Kd.R_drewN | apply Kd.R_drew)); exact HO_5.out⟩, ⟨by (with_reducible repeat (first | apply Kd.R_alloc | apply Kd.R_drewN | apply Kd.R_drew)); exact HO_6.out⟩, ⟨by repeat (first | (with_reducible first | exact HB.out | apply lA | apply lN | apply lD) | exact HB.out)⟩⟩
       ·rw [if_neg c21] at H
        exact absurd H (by simp)
      ·rw [if_neg c20] at H
       have c20b0 : decide (x8_2 < (t455.length : Int)) = false := decide_eq_false c20
       clear c20
       have H' := Aside0.mk H
       clear H
       obtain ⟨Ao30, co30, eo30⟩ := Kd.R_slice HO_6.out
       subst eo30
       go_wp2
       go_loopg [9] k2 (fun kq v9 w' => ∃ (x9_3 : Int), v9 = .int .i64 x9_3 ∧ Aside0 (silversideref01_Meets.l2 kq t452 t455 x9_3 = some r) ∧ Aside0 (kq ≤ k2) ∧ Aside0 (Kd.R k31 31 w' w.heap.size (fun k_ => some k_ ≠ ((.slice Ao30 t455.length co30) : Value).ownBlock) (.slice Ao19 t452.length co19) t452) ∧ Aside0 (Kd.R k31 31 w' w.heap.size (fun k_ => some k_ ≠ ((.slice Ao19 t452.length co19) : Value).ownBlock) (.slice Ao30 t455.length co30) t455) ∧ Aside0 (Below w.heap.size w w'))
       case atStart => exact ⟨(0), (by first | rfl | (simp; done) | (simp [*]; done)), H', ⟨Nat.le_refl _⟩, ⟨by (with_reducible repeat (first | apply Kd.R_alloc | apply Kd.R_drewN | apply Kd.R_drew)); exact HO_5.out⟩, ⟨by (with_reducible repeat (first | apply Kd.R_alloc | apply Kd.R_drewN | apply Kd.R_drew)); exact HO_6.out⟩, ⟨by repeat (first | (with_reducible first | exact HB.out | apply lA | apply lN | apply lD) | exact HB.out)⟩⟩
       case round =>
        clear H'
        try clear c1
        try clear c2
        try clear p2
        try clear c3
        try clear c4
        try clear p4
        try clear q4
        try clear hx4
        try clear p6
        try clear c7
        try clear c7b0
        try clear c8
        try clear c8b0
        try clear c10
        try clear c20
        try clear c20b0
        try clear c21
        try clear c21b0
        try clear c23
        try clear hx458_0
        try clear hx458_1
        try clear hx459_0
        try clear hx459_1
        try clear hx461_0
        try clear hx461_1
        try clear hx462_0
        try clear hx462_1
        try clear p2
        try clear p4
        try clear p458
        try clear p459
        try clear p461
        try clear p462
        try clear p6
        try clear q4
        try clear q458
        try clear q459
        try clear q461
        try clear q462
        obtain ⟨x9_3, rfl, HA, HK3, HO_5, HO_6, HB⟩ := hrel
        cases gk with
        | zero => exact absurd HA.out (by simp [silversideref01_Meets.l2])
        | succ k3 =>
         have H := HA.out
         clear HA
         simp only [silversideref01_Meets.l2] at H
         by_cases c31 : x9_3 < (t452.length : Int)
         ·rw [if_pos c31] at H
          have c31b0 : decide (x9_3 < (t452.length : Int)) = true := decide_eq_true c31
          clear c31
          have H' := Aside0.mk H
          clear H
          go_wp2
          go_loopg [10] k3 (fun kq v10 w' => ∃ (x10_4 : Int), v10 = .int .i64 x10_4 ∧ Aside0 (silversideref01_Meets.l3 kq t452 t455 x9_3 x10_4 = some r) ∧ Aside0 (kq ≤ k3) ∧ Aside0 (Kd.R k31 31 w' w.heap.size (fun k_ => some k_ ≠ ((.slice Ao30 t455.length co30) : Value).ownBlock) (.slice Ao19 t452.length co19) t452) ∧ Aside0 (Kd.R k31 31 w' w.heap.size (fun k_ => some k_ ≠ ((.slice Ao19 t452.length co19) : Value).ownBlock) (.slice Ao30 t455.length co30) t455) ∧ Aside0 (Below w.heap.size w w'))
          case atStart => exact ⟨(0), (by first | rfl | (simp; done) | (simp [*]; done)), H', ⟨Nat.le_refl _⟩, ⟨by (with_reducible repeat (first | apply Kd.R_alloc | apply Kd.R_drewN | apply Kd.R_drew)); exact HO_5.out⟩, ⟨by (with_reducible repeat (first | apply Kd.R_alloc | apply Kd.R_drewN | apply Kd.R_drew)); exact HO_6.out⟩, ⟨by repeat (first | (with_reducible first | exact HB.out | apply lA | apply lN | apply lD) | exact HB.out)⟩⟩
          case round =>
           clear H'
           try clear c1
           try clear c2
           try clear p2
           try clear c3
           try clear c4
           try clear p4
           try clear q4
           try clear hx4
           try clear p6
           try clear c7
           try clear c7b0
           try clear c8
           try clear c8b0
           try clear c10
           try clear c20
           try clear c20b0
           try clear c21
           try clear c21b0
           try clear c23
           try clear c31
           try clear c31b0
           try clear hx458_0
           try clear hx458_1
           try clear hx459_0
           try clear hx459_1
           try clear hx461_0
           try clear hx461_1
           try clear hx462_0
           try clear hx462_1
           try clear p2
           try clear p4
           try clear p458
           try clear p459
           try clear p461
           try clear p462
           try clear p6
           try clear q4
           try clear q458
           try clear q459
           try clear q461
           try clear q462
           obtain ⟨x10_4, rfl, HA, HK4, HO_5, HO_6, HB⟩ := hrel
           cases gk with
           | zero => exact absurd HA.out (by simp [silversideref01_Meets.l3])
           | succ k4 =>
            have H := HA.out
            clear HA
            simp only [silversideref01_Meets.l3] at H
            by_cases c32 : x10_4 < (t455.length : Int)
            ·rw [if_pos c32] at H
             have c32b0 : decide (x10_4 < (t455.length : Int)) = true := decide_eq_true c32
             clear c32
             by_cases c33 : 0 ≤ x9_3
             ·rw [if_pos c33] at H
              have c33b0 : decide (0 ≤ x9_3) = true := decide_eq_true c33
              clear c33
              by_cases c34 : x9_3 < (t452.length : Int)
              ·rw [if_pos c34] at H
               have c34b0 : decide (x9_3 < (t452.length : Int)) = true := decide_eq_true c34
               clear c34
               replace H := Option.bind_eq_some_iff.mp H
               obtain ⟨t465, A350, H⟩ := H
               replace H : (if 0 ≤ t465 then (if t465 < (t452.length : Int) then (if 0 ≤ x10_4 then ((silversideref01_next.f x10_4 (t455.length : Int)).bind fun t468 => (if 0 ≤ t468 then (if t468 < (t455.length : Int) then ((silversideref01_meet.f k4 ((rd_T31 t452 x9_3).f0) ((rd_T31 t452 x9_3).f1) ((rd_T31 t452 t465).f0) ((rd_T31 t452 t465).f1) ((rd_T31 t455 x10_4).f0) ((rd_T31 t455 x10_4).f1) ((rd_T31 t455 t468).f0) ((rd_T31 t455 t468).f1)).bind fun t470 => (if t470 = true then (some true) else (silversideref01_Meets.l3 k4 t452 t455 x9_3 (wrap64 (x10_4 + 1))))) else (none)) else (none))) else (none)) else (none)) else (none)) = some r := H
               have A35 := Aside0.mk A350
               clear A350
               by_cases c36 : 0 ≤ t465
               ·rw [if_pos c36] at H
                have c36b0 : decide (0 ≤ t465) = true := decide_eq_true c36
                clear c36
                by_cases c37 : t465 < (t452.length : Int)
                ·rw [if_pos c37] at H
                 have c37b0 : decide (t465 < (t452.length : Int)) = true := decide_eq_true c37
                 clear c37
                 by_cases c38 : 0 ≤ x10_4
                 ·rw [if_pos c38] at H
                  have c38b0 : decide (0 ≤ x10_4) = true := decide_eq_true c38
                  clear c38
                  replace H := Option.bind_eq_some_iff.mp H
                  obtain ⟨t468, A390, H⟩ := H
                  replace H : (if 0 ≤ t468 then (if t468 < (t455.length : Int) then ((silversideref01_meet.f k4 ((rd_T31 t452 x9_3).f0) ((rd_T31 t452 x9_3).f1) ((rd_T31 t452 t465).f0) ((rd_T31 t452 t465).f1) ((rd_T31 t455 x10_4).f0) ((rd_T31 t455 x10_4).f1) ((rd_T31 t455 t468).f0) ((rd_T31 t455 t468).f1)).bind fun t470 => (if t470 = true then (some true) else (silversideref01_Meets.l3 k4 t452 t455 x9_3 (wrap64 (x10_4 + 1))))) else (none)) else (none)) = some r := H
                  have A39 := Aside0.mk A390
                  clear A390
                  by_cases c40 : 0 ≤ t468
                  ·rw [if_pos c40] at H
                   have c40b0 : decide (0 ≤ t468) = true := decide_eq_true c40
                   clear c40
                   by_cases c41 : t468 < (t455.length : Int)
                   ·rw [if_pos c41] at H
                    have c41b0 : decide (t468 < (t455.length : Int)) = true := decide_eq_true c41
                    clear c41
                    replace H := Option.bind_eq_some_iff.mp H
                    obtain ⟨t470, A420, H⟩ := H
                    replace H : (if t470 = true then (some true) else (silversideref01_Meets.l3 k4 t452 t455 x9_3 (wrap64 (x10_4 + 1)))) = some r := H
                    have A42 := Aside0.mk A420
                    clear A420
                    by_cases c43 : t470 = true
                    ·subst c43
                     have H1 : (some true) = some r := by rw [if_pos rfl] at H; exact H
                     clear H
                     have H := H1
                     clear H1
                     obtain rfl := Option.some.inj H
                     try go_wp2
                     replace HO_5 := Aside0.mk (Kd.R_drew HO_5.out)
                     replace HO_6 := Aside0.mk (Kd.R_drew HO_6.out)
                     replace HB := Aside0.mk (lD HB.out)
                     have p464 : 0 ≤ (x9_3 : Int) := of_decide_eq_true (by first | (with_reducible assumption) | assumption)
                     have q464 : x9_3 < (t452.length : Int) := of_decide_eq_true (by first | (with_reducible assumption) | assumption)
                     obtain ⟨ad464, e464, hx464_0, hx464_1⟩ := at_T31 (Kd.R_reads' HO_5.out).2.2 x9_3 p464 q464
                     cases e464
                     replace p464 := eq_true p464
                     replace q464 := eq_true q464
                     have p467 : 0 ≤ (x10_4 : Int) := of_decide_eq_true (by first | (with_reducible assumption) | assumption)
                     have q467 : x10_4 < (t455.length : Int) := of_decide_eq_true (by first | (with_reducible assumption) | assumption)
                     obtain ⟨ad467, e467, hx467_0, hx467_1⟩ := at_T31 (Kd.R_reads' HO_6.out).2.2 x10_4 p467 q467
                     cases e467
                     replace p467 := eq_true p467
                     replace q467 := eq_true q467
                     have p466 : 0 ≤ (t465 : Int) := of_decide_eq_true (by first | (with_reducible assumption) | assumption)
                     have q466 : t465 < (t452.length : Int) := of_decide_eq_true (by first | (with_reducible assumption) | assumption)
                     obtain ⟨ad466, e466, hx466_0, hx466_1⟩ := at_T31 (Kd.R_reads' HO_5.out).2.2 t465 p466 q466
                     obtain rfl : ad464 = ad466 := (by injection e466)
                     replace p466 := eq_true p466
                     replace q466 := eq_true q466
                     have p469 : 0 ≤ (t468 : Int) := of_decide_eq_true (by first | (with_reducible assumption) | assumption)
                     have q469 : t468 < (t455.length : Int) := of_decide_eq_true (by first | (with_reducible assumption) | assumption)
                     obtain ⟨ad469, e469, hx469_0, hx469_1⟩ := at_T31 (Kd.R_reads' HO_6.out).2.2 t468 p469 q469
                     obtain rfl : ad467 = ad469 := (by injection e469)
                     replace p469 := eq_true p469
                     replace q469 := eq_true q469
                     refine start_ (n := 23) (S := fun w' => w'.cell? (ad464.add ((x9_3).toNat * 2)) = some (.int .i64 ((rd_T31 t452 x9_3).f0)) ∧ w'.cell? ⟨(ad464.add ((x9_3).toNat * 2)).block, (ad464.add ((x9_3).toNat * 2)).off + 1, none⟩ = some (.int .i64 ((rd_T31 t452 x9_3).f1)) ∧ w'.cell? (ad467.add ((x10_4).toNat * 2)) = some (.int .i64 ((rd_T31 t455 x10_4).f0)) ∧ w'.cell? ⟨(ad467.add ((x10_4).toNat * 2)).block, (ad467.add ((x10_4).toNat * 2)).off + 1, none⟩ = some (.int .i64 ((rd_T31 t455 x10_4).f1)) ∧ w'.cell? (ad464.add ((t465).toNat * 2)) = some (.int .i64 ((rd_T31 t452 t465).f0)) ∧ w'.cell? ⟨(ad464.add ((t465).toNat * 2)).block, (ad464.add ((t465).toNat * 2)).off + 1, none⟩ = some (.int .i64 ((rd_T31 t452 t465).f1)) ∧ w'.cell? (ad467.add ((t468).toNat * 2)) = some (.int .i64 ((rd_T31 t455 t468).f0)) ∧ w'.cell? ⟨(ad467.add ((t468).toNat * 2)).block, (ad467.add ((t468).toNat * 2)).off + 1, none⟩ = some (.int .i64 ((rd_T31 t455 t468).f1))) (ds := []) (Bs 0 23) (by kernel_rfl) rfl rfl ⟨hx464_0, hx464_1, hx467_0, hx467_1, hx466_0, hx466_1, hx469_0, hx469_1⟩ (fun hHeld => ?_); refine with_tabW silversideref01_Meets.tab18 silversideref01_Meets.bits18 (fun HT_ HW_ => ?_)
                     generalize wr.drew = w44 at HO_5 HO_6 HB hx464_0 hx464_1 hx466_0 hx466_1 hx467_0 hx467_1 hx469_0 hx469_1 hHeld ⊢
                     refine pu 0 63 (Bs 1 23) HT_ ?_
                     refine pu 1 64 (Bs 2 23) HT_ ?_
                     refine pu 2 65 (Bs 3 23) HT_ ?_
                     refine pu 4 67 (Br [3,1,1,18]) HT_ ?_
                     refine pu 5 68 (Br [3,1,2,17]) HT_ ?_
                     refine pu 6 69 (Br [3,1,3,16]) HT_ ?_
                     refine pu 7 70 (Br [3,1,4,15]) HT_ ?_
                     refine pu 11 74 (Br [3,1,4,3,1,11]) HT_ ?_
                     refine pu 12 75 (Br [3,1,4,3,2,10]) HT_ ?_
                     refine pu 13 76 (Br [3,1,4,3,3,9]) HT_ ?_
                     refine pu 15 78 (Br [3,1,4,3,3,1,1,7]) HT_ ?_
                     refine pu 16 79 (Br [3,1,4,3,3,1,2,6]) HT_ ?_
                     refine pu 17 80 (Br [3,1,4,3,3,1,3,5]) HT_ ?_
                     refine pu 18 81 (Br [3,1,4,3,3,1,4,4]) HT_ ?_
                     refine ta 3 66 (Br [8,3,3,1,4,4]) HT_ HW_ hHeld ?_
                     refine ta 14 77 (Br [8,3,8,4]) HT_ HW_ hHeld ?_
                     refine one_ (i := 8) (N := some 71) (Br [9,2,8,4]) rfl rfl (one_of HT_.out (by kernel_rfl)) (by decide) (fun K hK => ?_)
                     refine goes_ Try.func54 (by kernel_rfl) rfl #[.int .i64 x9_3, .int .i64 (t452.length : Int)] (by rfl) rfl rfl (by (try simp only [List.map_toArray, List.map_cons, List.map_nil]); first | done | rfl | (simp only [List.length_drop, List.length_take]; rfl)) ?_
                     with_reducible refine (silversideref01_next.calls x9_3 (t452.length : Int) t465 _ A35.out).mono ?_
                     rintro e w' ⟨rfl, ⟨nd, rfl⟩⟩
                     refine ⟨_, rfl, ?_⟩
                     refine hK.out _ _ ⟨hHeld.1, hHeld.2.1, hHeld.2.2.1, hHeld.2.2.2.1, hHeld.2.2.2.2.1, hHeld.2.2.2.2.2.1, hHeld.2.2.2.2.2.2.1, hHeld.2.2.2.2.2.2.2⟩ (fun hHeld => ?_)
                     clear hK K
                     refine nm 71 ?_
                     refine pu 9 72 (Br [10,1,8,4]) HT_ ?_
                     refine ta 10 73 (Bs 19 23) HT_ HW_ hHeld ?_
                     refine one_ (i := 19) (N := some 82) (Bs 20 23) rfl rfl (one_of HT_.out (by kernel_rfl)) (by decide) (fun K hK => ?_)
                     refine goes_ Try.func54 (by kernel_rfl) rfl #[.int .i64 x10_4, .int .i64 (t455.length : Int)] (by rfl) rfl rfl (by (try simp only [List.map_toArray, List.map_cons, List.map_nil]); first | done | rfl | (simp only [List.length_drop, List.length_take]; rfl)) ?_
                     with_reducible refine (silversideref01_next.calls x10_4 (t455.length : Int) t468 _ A39.out).mono ?_
                     rintro e w' ⟨rfl, ⟨nd, rfl⟩⟩
                     refine ⟨_, rfl, ?_⟩
                     refine hK.out _ _ ⟨hHeld.1, hHeld.2.1, hHeld.2.2.1, hHeld.2.2.2.1, hHeld.2.2.2.2.1, hHeld.2.2.2.2.2.1, hHeld.2.2.2.2.2.2.1, hHeld.2.2.2.2.2.2.2⟩ (fun hHeld => ?_)
                     clear hK K
                     refine nm 82 ?_
                     refine pu 20 83 (Bs 21 23) HT_ ?_
                     refine ta 21 84 (Bs 22 23) HT_ HW_ hHeld ?_
                     refine one_ (i := 22) (N := some 85) (Bs 23 23) rfl rfl (one_of HT_.out (by kernel_rfl)) (by decide) (fun K hK => ?_)
                     refine goes_ Try.func60 (by kernel_rfl) rfl #[.agg #[.int .i64 ((rd_T31 t452 x9_3).f0), .int .i64 ((rd_T31 t452 x9_3).f1)], .agg #[.int .i64 ((rd_T31 t452 t465).f0), .int .i64 ((rd_T31 t452 t465).f1)], .agg #[.int .i64 ((rd_T31 t455 x10_4).f0), .int .i64 ((rd_T31 t455 x10_4).f1)], .agg #[.int .i64 ((rd_T31 t455 t468).f0), .int .i64 ((rd_T31 t455 t468).f1)]] (by rfl) rfl rfl (by (try simp only [List.map_toArray, List.map_cons, List.map_nil]); first | done | rfl | (simp only [List.length_drop, List.length_take]; rfl)) ?_
                     with_reducible refine (silversideref01_meet.calls k4 ((rd_T31 t452 x9_3).f0) ((rd_T31 t452 x9_3).f1) ((rd_T31 t452 t465).f0) ((rd_T31 t452 t465).f1) ((rd_T31 t455 x10_4).f0) ((rd_T31 t455 x10_4).f1) ((rd_T31 t455 t468).f0) ((rd_T31 t455 t468).f1) true _ A42.out).mono ?_
                     rintro e w45 ⟨rfl, hb⟩
                     have HS0_ := (hb.cell (World.block_lt_of_cell? _ _ (hHeld.1))).trans (hHeld.1)
                     have HS1_ := (hb.cell (World.block_lt_of_cell? _ _ (hHeld.2.1))).trans (hHeld.2.1)
                     have HS2_ := (hb.cell (World.block_lt_of_cell? _ _ (hHeld.2.2.1))).trans (hHeld.2.2.1)
                     have HS3_ := (hb.cell (World.block_lt_of_cell? _ _ (hHeld.2.2.2.1))).trans (hHeld.2.2.2.1)
                     have HS4_ := (hb.cell (World.block_lt_of_cell? _ _ (hHeld.2.2.2.2.1))).trans (hHeld.2.2.2.2.1)
                     have HS5_ := (hb.cell (World.block_lt_of_cell? _ _ (hHeld.2.2.2.2.2.1))).trans (hHeld.2.2.2.2.2.1)
                     have HS6_ := (hb.cell (World.block_lt_of_cell? _ _ (hHeld.2.2.2.2.2.2.1))).trans (hHeld.2.2.2.2.2.2.1)
                     have HS7_ := (hb.cell (World.block_lt_of_cell? _ _ (hHeld.2.2.2.2.2.2.2))).trans (hHeld.2.2.2.2.2.2.2)
                     refine ⟨_, rfl, ?_⟩
                     have n0_ := Aside0.mk (Kd.R_below (by (with_reducible repeat (first | apply Kd.R_alloc | apply Kd.R_drewN | apply Kd.R_drew)); exact HO_5.out) hb)
                     have n1_ := Aside0.mk (Kd.R_below (by (with_reducible repeat (first | apply Kd.R_alloc | apply Kd.R_drewN | apply Kd.R_drew)); exact HO_6.out) hb)
                     have n2_ := Aside0.mk (below_step lB hb)
                     clear HO_5
                     clear HO_6
                     clear HB
                     have HO_5 := n0_
                     have HO_6 := n1_
                     have HB := n2_
                     clear n0_ n1_ n2_
                     (try clear hb)
                     (try clear hb2)
                     (try clear hk)
                     (try clear hi)
                     refine hK.out _ _ ⟨HS0_, HS1_, HS2_, HS3_, HS4_, HS5_, HS6_, HS7_⟩ (fun hHeld => ?_)
                     clear hK K
                     refine nm 85 ?_
                     refine done_ (done_of HT_.out (by kernel_rfl)) ?_
                     try go_wp2
                     go_ret
                     exact en
                    ·replace c43 := Bool.eq_false_iff.mpr c43
                     subst c43
                     have H1 : (silversideref01_Meets.l3 k4 t452 t455 x9_3 (wrap64 (x10_4 + 1))) = some r := by rw [if_neg (show ¬ (false = true) by decide)] at H; exact H
                     clear H
                     have H := H1
                     clear H1
                     have H' := Aside0.mk H
                     clear H
                     try go_wp2
                     replace HO_5 := Aside0.mk (Kd.R_drew HO_5.out)
                     replace HO_6 := Aside0.mk (Kd.R_drew HO_6.out)
                     replace HB := Aside0.mk (lD HB.out)
                     have p464 : 0 ≤ (x9_3 : Int) := of_decide_eq_true (by first | (with_reducible assumption) | assumption)
                     have q464 : x9_3 < (t452.length : Int) := of_decide_eq_true (by first | (with_reducible assumption) | assumption)
                     obtain ⟨ad464, e464, hx464_0, hx464_1⟩ := at_T31 (Kd.R_reads' HO_5.out).2.2 x9_3 p464 q464
                     cases e464
                     replace p464 := eq_true p464
                     replace q464 := eq_true q464
                     have p467 : 0 ≤ (x10_4 : Int) := of_decide_eq_true (by first | (with_reducible assumption) | assumption)
                     have q467 : x10_4 < (t455.length : Int) := of_decide_eq_true (by first | (with_reducible assumption) | assumption)
                     obtain ⟨ad467, e467, hx467_0, hx467_1⟩ := at_T31 (Kd.R_reads' HO_6.out).2.2 x10_4 p467 q467
                     cases e467
                     replace p467 := eq_true p467
                     replace q467 := eq_true q467
                     have p466 : 0 ≤ (t465 : Int) := of_decide_eq_true (by first | (with_reducible assumption) | assumption)
                     have q466 : t465 < (t452.length : Int) := of_decide_eq_true (by first | (with_reducible assumption) | assumption)
                     obtain ⟨ad466, e466, hx466_0, hx466_1⟩ := at_T31 (Kd.R_reads' HO_5.out).2.2 t465 p466 q466
                     obtain rfl : ad464 = ad466 := (by injection e466)
                     replace p466 := eq_true p466
                     replace q466 := eq_true q466
                     have p469 : 0 ≤ (t468 : Int) := of_decide_eq_true (by first | (with_reducible assumption) | assumption)
                     have q469 : t468 < (t455.length : Int) := of_decide_eq_true (by first | (with_reducible assumption) | assumption)
                     obtain ⟨ad469, e469, hx469_0, hx469_1⟩ := at_T31 (Kd.R_reads' HO_6.out).2.2 t468 p469 q469
                     obtain rfl : ad467 = ad469 := (by injection e469)
                     replace p469 := eq_true p469
                     replace q469 := eq_true q469
                     refine start_ (n := 23) (S := fun w' => w'.cell? (ad464.add ((x9_3).toNat * 2)) = some (.int .i64 ((rd_T31 t452 x9_3).f0)) ∧ w'.cell? ⟨(ad464.add ((x9_3).toNat * 2)).block, (ad464.add ((x9_3).toNat * 2)).off + 1, none⟩ = some (.int .i64 ((rd_T31 t452 x9_3).f1)) ∧ w'.cell? (ad467.add ((x10_4).toNat * 2)) = some (.int .i64 ((rd_T31 t455 x10_4).f0)) ∧ w'.cell? ⟨(ad467.add ((x10_4).toNat * 2)).block, (ad467.add ((x10_4).toNat * 2)).off + 1, none⟩ = some (.int .i64 ((rd_T31 t455 x10_4).f1)) ∧ w'.cell? (ad464.add ((t465).toNat * 2)) = some (.int .i64 ((rd_T31 t452 t465).f0)) ∧ w'.cell? ⟨(ad464.add ((t465).toNat * 2)).block, (ad464.add ((t465).toNat * 2)).off + 1, none⟩ = some (.int .i64 ((rd_T31 t452 t465).f1)) ∧ w'.cell? (ad467.add ((t468).toNat * 2)) = some (.int .i64 ((rd_T31 t455 t468).f0)) ∧ w'.cell? ⟨(ad467.add ((t468).toNat * 2)).block, (ad467.add ((t468).toNat * 2)).off + 1, none⟩ = some (.int .i64 ((rd_T31 t455 t468).f1))) (ds := []) (Bs 0 23) (by kernel_rfl) rfl rfl ⟨hx464_0, hx464_1, hx467_0, hx467_1, hx466_0, hx466_1, hx469_0, hx469_1⟩ (fun hHeld => ?_); refine with_tabW silversideref01_Meets.tab18 silversideref01_Meets.bits18 (fun HT_ HW_ => ?_)
                     generalize wr.drew = w46 at HO_5 HO_6 HB hx464_0 hx464_1 hx466_0 hx466_1 hx467_0 hx467_1 hx469_0 hx469_1 hHeld ⊢
                     refine pu 0 63 (Bs 1 23) HT_ ?_
                     refine pu 1 64 (Bs 2 23) HT_ ?_
                     refine pu 2 65 (Bs 3 23) HT_ ?_
                     refine pu 4 67 (Br [3,1,1,18]) HT_ ?_
                     refine pu 5 68 (Br [3,1,2,17]) HT_ ?_
                     refine pu 6 69 (Br [3,1,3,16]) HT_ ?_
                     refine pu 7 70 (Br [3,1,4,15]) HT_ ?_
                     refine pu 11 74 (Br [3,1,4,3,1,11]) HT_ ?_
                     refine pu 12 75 (Br [3,1,4,3,2,10]) HT_ ?_
                     refine pu 13 76 (Br [3,1,4,3,3,9]) HT_ ?_
                     refine pu 15 78 (Br [3,1,4,3,3,1,1,7]) HT_ ?_
                     refine pu 16 79 (Br [3,1,4,3,3,1,2,6]) HT_ ?_
                     refine pu 17 80 (Br [3,1,4,3,3,1,3,5]) HT_ ?_
                     refine pu 18 81 (Br [3,1,4,3,3,1,4,4]) HT_ ?_
                     refine ta 3 66 (Br [8,3,3,1,4,4]) HT_ HW_ hHeld ?_
                     refine ta 14 77 (Br [8,3,8,4]) HT_ HW_ hHeld ?_
                     refine one_ (i := 8) (N := some 71) (Br [9,2,8,4]) rfl rfl (one_of HT_.out (by kernel_rfl)) (by decide) (fun K hK => ?_)
                     refine goes_ Try.func54 (by kernel_rfl) rfl #[.int .i64 x9_3, .int .i64 (t452.length : Int)] (by rfl) rfl rfl (by (try simp only [List.map_toArray, List.map_cons, List.map_nil]); first | done | rfl | (simp only [List.length_drop, List.length_take]; rfl)) ?_
                     with_reducible refine (silversideref01_next.calls x9_3 (t452.length : Int) t465 _ A35.out).mono ?_
                     rintro e w' ⟨rfl, ⟨nd, rfl⟩⟩
                     refine ⟨_, rfl, ?_⟩
                     refine hK.out _ _ ⟨hHeld.1, hHeld.2.1, hHeld.2.2.1, hHeld.2.2.2.1, hHeld.2.2.2.2.1, hHeld.2.2.2.2.2.1, hHeld.2.2.2.2.2.2.1, hHeld.2.2.2.2.2.2.2⟩ (fun hHeld => ?_)
                     clear hK K
                     refine nm 71 ?_
                     refine pu 9 72 (Br [10,1,8,4]) HT_ ?_
                     refine ta 10 73 (Bs 19 23) HT_ HW_ hHeld ?_
                     refine one_ (i := 19) (N := some 82) (Bs 20 23) rfl rfl (one_of HT_.out (by kernel_rfl)) (by decide) (fun K hK => ?_)
                     refine goes_ Try.func54 (by kernel_rfl) rfl #[.int .i64 x10_4, .int .i64 (t455.length : Int)] (by rfl) rfl rfl (by (try simp only [List.map_toArray, List.map_cons, List.map_nil]); first | done | rfl | (simp only [List.length_drop, List.length_take]; rfl)) ?_
                     with_reducible refine (silversideref01_next.calls x10_4 (t455.length : Int) t468 _ A39.out).mono ?_
                     rintro e w' ⟨rfl, ⟨nd, rfl⟩⟩
                     refine ⟨_, rfl, ?_⟩
                     refine hK.out _ _ ⟨hHeld.1, hHeld.2.1, hHeld.2.2.1, hHeld.2.2.2.1, hHeld.2.2.2.2.1, hHeld.2.2.2.2.2.1, hHeld.2.2.2.2.2.2.1, hHeld.2.2.2.2.2.2.2⟩ (fun hHeld => ?_)
                     clear hK K
                     refine nm 82 ?_
                     refine pu 20 83 (Bs 21 23) HT_ ?_
                     refine ta 21 84 (Bs 22 23) HT_ HW_ hHeld ?_
                     refine one_ (i := 22) (N := some 85) (Bs 23 23) rfl rfl (one_of HT_.out (by kernel_rfl)) (by decide) (fun K hK => ?_)
                     refine goes_ Try.func60 (by kernel_rfl) rfl #[.agg #[.int .i64 ((rd_T31 t452 x9_3).f0), .int .i64 ((rd_T31 t452 x9_3).f1)], .agg #[.int .i64 ((rd_T31 t452 t465).f0), .int .i64 ((rd_T31 t452 t465).f1)], .agg #[.int .i64 ((rd_T31 t455 x10_4).f0), .int .i64 ((rd_T31 t455 x10_4).f1)], .agg #[.int .i64 ((rd_T31 t455 t468).f0), .int .i64 ((rd_T31 t455 t468).f1)]] (by rfl) rfl rfl (by (try simp only [List.map_toArray, List.map_cons, List.map_nil]); first | done | rfl | (simp only [List.length_drop, List.length_take]; rfl)) ?_
                     with_reducible refine (silversideref01_meet.calls k4 ((rd_T31 t452 x9_3).f0) ((rd_T31 t452 x9_3).f1) ((rd_T31 t452 t465).f0) ((rd_T31 t452 t465).f1) ((rd_T31 t455 x10_4).f0) ((rd_T31 t455 x10_4).f1) ((rd_T31 t455 t468).f0) ((rd_T31 t455 t468).f1) false _ A42.out).mono ?_
                     rintro e w47 ⟨rfl, hb⟩
                     have HS0_ := (hb.cell (World.block_lt_of_cell? _ _ (hHeld.1))).trans (hHeld.1)
                     have HS1_ := (hb.cell (World.block_lt_of_cell? _ _ (hHeld.2.1))).trans (hHeld.2.1)
                     have HS2_ := (hb.cell (World.block_lt_of_cell? _ _ (hHeld.2.2.1))).trans (hHeld.2.2.1)
                     have HS3_ := (hb.cell (World.block_lt_of_cell? _ _ (hHeld.2.2.2.1))).trans (hHeld.2.2.2.1)
                     have HS4_ := (hb.cell (World.block_lt_of_cell? _ _ (hHeld.2.2.2.2.1))).trans (hHeld.2.2.2.2.1)
                     have HS5_ := (hb.cell (World.block_lt_of_cell? _ _ (hHeld.2.2.2.2.2.1))).trans (hHeld.2.2.2.2.2.1)
                     have HS6_ := (hb.cell (World.block_lt_of_cell? _ _ (hHeld.2.2.2.2.2.2.1))).trans (hHeld.2.2.2.2.2.2.1)
                     have HS7_ := (hb.cell (World.block_lt_of_cell? _ _ (hHeld.2.2.2.2.2.2.2))).trans (hHeld.2.2.2.2.2.2.2)
                     refine ⟨_, rfl, ?_⟩
                     have n0_ := Aside0.mk (Kd.R_below (by (with_reducible repeat (first | apply Kd.R_alloc | apply Kd.R_drewN | apply Kd.R_drew)); exact HO_5.out) hb)
                     have n1_ := Aside0.mk (Kd.R_below (by (with_reducible repeat (first | apply Kd.R_alloc | apply Kd.R_drewN | apply Kd.R_drew)); exact HO_6.out) hb)
                     have n2_ := Aside0.mk (below_step lB hb)
                     clear HO_5
                     clear HO_6
                     clear HB
                     have HO_5 := n0_
                     have HO_6 := n1_
                     have HB := n2_
                     clear n0_ n1_ n2_
                     (try clear hb)
                     (try clear hb2)
                     (try clear hk)
                     (try clear hi)
                     refine hK.out _ _ ⟨HS0_, HS1_, HS2_, HS3_, HS4_, HS5_, HS6_, HS7_⟩ (fun hHeld => ?_)
                     clear hK K
                     refine nm 85 ?_
                     refine done_ (done_of HT_.out (by kernel_rfl)) ?_
                     try go_wp2
                     go_roundg k4
                     case measure => have := HK1.out; have := HK2.out; have := HK3.out; have := HK4.out; omega
                     case rel => exact ⟨(wrap64 (x10_4 + 1)), (by first | rfl | (simp; done) | (simp [*]; done)), H', ⟨by have := HK1.out; have := HK2.out; have := HK3.out; have := HK4.out; omega⟩, ⟨by (with_reducible repeat (first | apply Kd.R_alloc | apply Kd.R_drewN | apply Kd.R_drew)); exact HO_5.out⟩, ⟨by (with_reducible repeat (first | apply Kd.R_alloc | apply Kd.R_drewN | apply Kd.R_drew)); exact HO_6.out⟩, ⟨by repeat (first | (with_reducible first | exact HB.out | apply lA | apply lN | apply lD) | exact HB.out)⟩⟩
                   ·rw [if_neg c41] at H
                    exact absurd H (by simp)
                  ·rw [if_neg c40] at H
                   exact absurd H (by simp)
                 ·rw [if_neg c38] at H
                  exact absurd H (by simp)
                ·rw [if_neg c37] at H
                 exact absurd H (by simp)
               ·rw [if_neg c36] at H
                exact absurd H (by simp)
              ·rw [if_neg c34] at H
               exact absurd H (by simp)
             ·rw [if_neg c33] at H
              exact absurd H (by simp)
            ·rw [if_neg c32] at H
             have c32b0 : decide (x10_4 < (t455.length : Int)) = false := decide_eq_false c32
             clear c32
             have H' := Aside0.mk H
             clear H
             go_wp2
             go_roundg k4
             case measure => have := HK1.out; have := HK2.out; have := HK3.out; have := HK4.out; omega
             case rel => exact ⟨(wrap64 (x9_3 + 1)), (by first | rfl | (simp; done) | (simp [*]; done)), H', ⟨by have := HK1.out; have := HK2.out; have := HK3.out; have := HK4.out; omega⟩, ⟨by (with_reducible repeat (first | apply Kd.R_alloc | apply Kd.R_drewN | apply Kd.R_drew)); exact HO_5.out⟩, ⟨by (with_reducible repeat (first | apply Kd.R_alloc | apply Kd.R_drewN | apply Kd.R_drew)); exact HO_6.out⟩, ⟨by repeat (first | (with_reducible first | exact HB.out | apply lA | apply lN | apply lD) | exact HB.out)⟩⟩
         ·rw [if_neg c31] at H
          have c31b0 : decide (x9_3 < (t452.length : Int)) = false := decide_eq_false c31
          clear c31
          obtain rfl := Option.some.inj H
          go_wp2
          go_ret
          exact en


/-! ### silversideref01_within: function 70 -/
def silversideref01_within.f (a0 : Int) (a1 : Int) : Option (Bool) := if a0 ≥ (wrap64 (-a1)) then (some (decide (a0 ≤ a1))) else (some false)
set_option maxHeartbeats 8000000 in
set_option maxRecDepth 100000 in
theorem silversideref01_within.calls (a0 : Int) (a1 : Int) (r : Bool) (w : World) (h : silversideref01_within.f a0 a1 = some r) :
  Calls Try.prog 70 #[.int .i64 a0, .int .i64 a1] w fun e w' => e = .returned (.bool r) ∧ Drawn0 w w' := by
 have H : (if a0 ≥ (wrap64 (-a1)) then (some (decide (a0 ≤ a1))) else (some false)) = some r := h
 clear h
 by_cases c3 : a0 ≥ (wrap64 (-a1))
 ·rw [if_pos c3] at H
  have c3b0 : decide ((wrap64 (-a1)) ≤ a0) = true := decide_eq_true c3
  clear c3
  obtain rfl := Option.some.inj H
  go_enter Try.func70, Try.ntmps70
  go_wp2
  go_ret
  exact ⟨by first | rfl | (simp; done) | (simp [*]; done), by repeat (first | exact Drawn0.refl _ | apply Drawn0.step)⟩
 rw [if_neg c3] at H
 have c3b0 : decide ((wrap64 (-a1)) ≤ a0) = false := decide_eq_false c3
 clear c3
 obtain rfl := Option.some.inj H
 go_enter Try.func70, Try.ntmps70
 go_wp2
 go_ret
 exact ⟨by first | rfl | (simp; done) | (simp [*]; done), by repeat (first | exact Drawn0.refl _ | apply Drawn0.step)⟩

/-- THE ONE PURE STATEMENT of silversideref01_within: yours. -/
def silversideref01_within.Pure : Prop := ∀ (a0 : Int) (a1 : Int), (Lit.int .i64 a0).wf = true → (Lit.int .i64 a1).wf = true → silversideref01_within.f a0 a1 = some true
theorem silversideref01_within.walk (P : silversideref01_within.Pure) (a0 : Int) (a1 : Int) (w : World) (w0 : (Lit.int .i64 a0).wf = true) (w1 : (Lit.int .i64 a1).wf = true) :
  Calls Try.prog 70 #[.int .i64 a0, .int .i64 a1] w fun e w' => e = .returned (.bool true) ∧ Below w.heap.size w w' := by
 have h := P a0 a1 w0 w1
 refine (silversideref01_within.calls a0 a1 true w h).mono ?_
 rintro e w' ⟨rfl, hd⟩
 exact ⟨rfl, hd.below⟩

end Go.Proofs.Ythaklbjcjoolcaa.P
