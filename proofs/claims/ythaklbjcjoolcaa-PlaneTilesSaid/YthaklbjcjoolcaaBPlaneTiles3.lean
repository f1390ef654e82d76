/- Proved here: what functions that the law reaches compute, and plain laws of that. -/
import Derived.Deep.DeepMust
import Derived.IntWalk
import Derived.Test.YthaklbjcjoolcaaBPlaneTiles2
import Derived.Test.YthaklbjcjoolcaaBPlaneTiles1
import Derived.StillTailTactics
import Derived.Deep.RegionLawGrows
import Derived.Outline
import Derived.Laws.EntriesVeiled
import Derived.BigRegion
set_option linter.unusedVariables false
set_option linter.unusedSimpArgs false
namespace Go.Proofs.Ythaklbjcjoolcaa.P
open Go.RowKit Go.Shelf Go.Sort YthaklbjcjoolcaaW.PrintWords YthaklbjcjoolcaaW.PrintLast YthaklbjcjoolcaaW.PrintMore
theorem S31.eq_iff (p q : S31) : p = q ↔ p.f0 = q.f0 ∧ p.f1 = q.f1 := ⟨fun h => by rw [h]; exact ⟨rfl, rfl⟩, fun h => S31.ext' h.1 h.2⟩
instance : DecidableEq S31 := fun p q => decidable_of_iff _ (S31.eq_iff p q).symm
def pt (xs : List S31) (k : Nat) : S31 := xs.getD k z31
theorem pt_eq (xs : List S31) (k : Nat) (h : k < xs.length) : pt xs k = xs[k] := by unfold pt; rw [List.getD_eq_getElem?_getD, List.getElem?_eq_getElem h, Option.getD_some]
theorem rd_pt (xs : List S31) (k : Nat) : rd_T31 xs (k : Int) = pt xs k := by unfold rd_T31 pt; rw [Int.toNat_natCast]
def ddL (xs : List S31) : Nat → List S31
 | 0 => []
 | 1 => [pt xs 0]
 | k + 2 => if pt xs (k + 1) = pt xs k then ddL xs (k + 1) else ddL xs (k + 1) ++ [pt xs (k + 1)]
theorem ddL_len (xs : List S31) : ∀ k, (ddL xs k).length ≤ k
 | 0 => by simp [ddL]
 | 1 => by simp [ddL]
 | k + 2 => by
  have := ddL_len xs (k + 1)
  unfold ddL
  split
  ·omega
  ·rw [List.length_append, List.length_singleton]; omega
theorem ddL_same (xs : List S31) {k : Nat} (h : pt xs (k + 1) = pt xs k) : ddL xs (k + 2) = ddL xs (k + 1) := by rw [ddL, if_pos h]
theorem ddL_new (xs : List S31) {k : Nat} (h : pt xs (k + 1) ≠ pt xs k) : ddL xs (k + 2) = ddL xs (k + 1) ++ [pt xs (k + 1)] := by rw [ddL, if_neg h]
theorem take_pt (xs : List S31) (k : Nat) (h : k < xs.length) : xs.take (k + 1) = xs.take k ++ [pt xs k] := by rw [List.take_succ_eq_append_getElem h, pt_eq xs k h]
theorem eqB (p q : S31) : (p.f0 == q.f0 && p.f1 == q.f1) = decide (p = q) := by
 rw [Bool.eq_iff_iff]
 simp [S31.eq_iff]
theorem pt_tail (xs D : List S31) (m : Nat) (h : D.length ≤ m) (hD : D.length ≤ xs.length) : pt (D ++ xs.drop D.length) m = pt xs m := by
 unfold pt
 rw [List.getD_eq_getElem?_getD, List.getD_eq_getElem?_getD, List.getElem?_append_right h, List.getElem?_drop, show D.length + (m - D.length) = m by omega]
theorem set_tail (xs D : List S31) (p : S31) (h : D.length < xs.length) : (D ++ xs.drop D.length).set D.length p = (D ++ [p]) ++ xs.drop (D ++ [p]).length := by
 rw [List.set_append_right _ _ (Nat.le_refl _), Nat.sub_self, List.drop_eq_getElem_cons h, List.set_cons_zero, List.length_append, List.length_singleton]
 simp
theorem len_tail (xs D : List S31) (h : D.length ≤ xs.length) : (D ++ xs.drop D.length).length = xs.length := by rw [List.length_append, List.length_drop]; omega
theorem own_behind {base g n cap size : Nat} {e : TypeId} {F : List Value} : ∀ (vs : List Value) (o : Nat) {w : World}, w.ownsRow base e size (.slice (some ⟨g, 0, none⟩) n cap) n F → n * size ≤ o → (w.setCells g o vs).ownsRow base e size (.slice (some ⟨g, 0, none⟩) n cap) n F
 | [], _, _, h, _ => h
 | v :: r, o, w, h, ho => by
  refine own_behind r (o + 1) ?_ (by omega)
  obtain ⟨hl, hv⟩ := h
  refine ⟨hl, ?_⟩
  rcases hv with hv | ⟨g', cap', cur, hv, hg, hblk, hc1, hc2, hcs, htk⟩
  ·exact .inl hv
  ·simp only [Value.slice.injEq, Option.some.injEq, Addr.mk.injEq] at hv
   obtain ⟨⟨rfl, _⟩, _, rfl⟩ := hv
   refine .inr ⟨g, cap, cur.setIfInBounds o v, rfl, hg, blk_set hblk o v, hc1, hc2, by simp [hcs], ?_⟩
   rw [Array.toList_setIfInBounds, List.take_set_of_le ho]
   exact htk
theorem setCells_grown (g : Nat) : ∀ (vs : List Value) (o : Nat) (w : World), w.grownBy (w.setCells g o vs) (some g)
 | [], _, w => ⟨rfl, rfl, rfl, Nat.le_refl _, fun _ _ _ => rfl⟩
 | v :: r, o, w => by
  have h1 : w.grownBy (w.setCell ⟨g, o, none⟩ v) (some g) := ⟨rfl, rfl, rfl, by simp, fun k _ hk => Below.heap_setCell _ _ _ k (fun e => hk (by rw [e]))⟩
  have h2 := setCells_grown g r (o + 1) (w.setCell ⟨g, o, none⟩ v)
  exact ⟨h2.os.trans h1.os, h2.tape.trans h1.tape, h2.output.trans h1.output, Nat.le_trans h1.size h2.size, fun k hk hne => (h2.block k (Nat.lt_of_lt_of_le hk h1.size) hne).trans (h1.block k hk hne)⟩
theorem grown_drewN {w W : World} {row : Option Nat} (h : w.grownBy W row) (n : Nat) : w.grownBy (W.drewN n) row := ⟨h.os, h.tape, h.output, h.size, h.block⟩
theorem grown_trans {w W W' : World} {row : Option Nat} (h1 : w.grownBy W row) (h2 : W.grownBy W' row) : w.grownBy W' row :=
 ⟨h2.os.trans h1.os, h2.tape.trans h1.tape, h2.output.trans h1.output, Nat.le_trans h1.size h2.size, fun k hk hne => (h2.block k (Nat.lt_of_lt_of_le hk h1.size) hne).trans (h1.block k hk hne)⟩
theorem put31 {w : World} {base : Nat} {ok : Nat → Prop} {g n cap : Nat} {xs : List S31} (h : Kd.R k31 31 w base ok (.slice (some ⟨g, 0, none⟩) n cap) xs) (k : Nat) (hk : k < xs.length) (p : S31) :
  Kd.R k31 31 ((w.setCell ⟨g, k * 2, none⟩ (.int .i64 p.f0)).setCell ⟨g, k * 2 + 1, none⟩ (.int .i64 p.f1)) base ok (.slice (some ⟨g, 0, none⟩) n cap) (xs.set k p) ∧ w.grownBy ((w.setCell ⟨g, k * 2, none⟩ (.int .i64 p.f0)).setCell ⟨g, k * 2 + 1, none⟩ (.int .i64 p.f1)) (some g) := by
 have hn : n = xs.length := (Kd.R_reads' h).1
 obtain ⟨c, hcl, _, hcc, _⟩ := Kd.R_elem h z31 (k : Int) (by omega) (by omega)
 have hs := Kd.R_seg (j := 0) (seg := [.int .i64 p.f0, .int .i64 p.f1]) (okp := fun _ => False) (x' := p) h (k : Int) (by omega) (by omega) hcl hcc (show 0 + 2 ≤ 2 by omega) (by
  have : c.drop 2 = [] := List.drop_eq_nil_of_le (by rw [hcl]; decide)
  simp only [List.take_zero, List.nil_append, List.length_cons, List.length_nil, Nat.zero_add, this, List.append_nil]
  exact k31_mkM _ _ _ p) (fun _ hf => hf.elim)
 rw [Int.toNat_natCast] at hs
 exact hs
theorem at31 {w : World} {base : Nat} {ok : Nat → Prop} {g n cap : Nat} {xs : List S31} (h : Kd.R k31 31 w base ok (.slice (some ⟨g, 0, none⟩) n cap) xs) (k : Nat) (hk : k < xs.length) :
  w.cell? ⟨g, k * 2, none⟩ = some (.int .i64 (pt xs k).f0) ∧ w.cell? ⟨g, k * 2 + 1, none⟩ = some (.int .i64 (pt xs k).f1) ∧ (∀ o, w.frozen? ⟨g, o, none⟩ = false) := by
 obtain ⟨rfl, hc, hC⟩ := Kd.R_reads' h
 obtain ⟨ad, e, h0, h1⟩ := at_T31 hC (k : Int) (by omega) (by omega)
 cases e
 rw [rd_pt, Int.toNat_natCast] at h0 h1
 simp only [Addr.add_lit, Nat.zero_add] at h0 h1
 obtain ⟨cells, hb⟩ := Kd.R_typed h g (by simp [Value.ownBlock])
 exact ⟨h0, h1, fun o => blk_frozen hb o⟩
def zer (n : Nat) : List Value := (Builtin.zeroCells #[.int .i64 0, .int .i64 0] n).toList
theorem zer_len (n : Nat) : (zer n).length = n * 2 := by simp [zer, Builtin.zeroCells]
theorem zer_one (n : Nat) (v : Value) (hv : v ∈ zer n) : v.oneCell' = true := by
 simp [zer, Builtin.zeroCells] at hv
 obtain ⟨i, _, rfl⟩ := hv
 rcases Nat.mod_two_eq_zero_or_one i with h | h <;> rw [h] <;> rfl
theorem clear31 (W : World) (ty : TypeId) (g s n c : Nat) (hn : 0 < n) (hc : ∀ j, j < n * 2 → (W.cell? ⟨g, s + j, none⟩).isSome = true) (hf : ∀ j, j < n * 2 → W.frozen? ⟨g, s + j, none⟩ = false) :
  (Builtin.clear_ #[22] ty #[.slice (some ⟨g, s, none⟩) n c]).run Try.prog W = .ok (.tuple #[]) (W.setCells g s (zer n)) := by
 have hst := run_storeCells_cells (P := Try.prog) g s (zer n) 0 W (by simpa [zer_len] using hc) (by simpa [zer_len] using hf) (fun v hv => zer_one n v hv)
 simp only [Nat.add_zero] at hst
 obtain ⟨m, rfl⟩ : ∃ m, n = m + 1 := ⟨n - 1, by omega⟩
 have hz : ∀ w, (zeroValue 31).run Try.prog w = .ok (.agg #[.int .i64 0, .int .i64 0]) w := fun w => by kernel_rfl
 have hcells : (Value.agg #[.int .i64 0, .int .i64 0]).cells = #[.int .i64 0, .int .i64 0] := rfl
 unfold zer at hst
 simp [Builtin.clear_, run_underlying Try.underlying22, hz, hcells, hst, zer]
attribute [local go_sem high] eqA31
set_option maxHeartbeats 4000000 in
set_option maxRecDepth 100000 in
theorem compact_calls (w : World) (base : Nat) (ok : Nat → Prop) (v : Value) (xs : List S31) (h : Kd.R k31 31 w base ok v xs) (hl1 : 1 ≤ xs.length) (hsz : xs.length ≤ 4096) :
  Calls Try.prog 84 #[v] w fun e w' => ∃ v', e = .returned v' ∧ Kd.R k31 31 w' base ok v' (ddL xs xs.length) ∧ w.grownBy w' v.ownBlock ∧ v'.ownBlock = v.ownBlock := by
 obtain ⟨g, cap, rfl, hg1, hg2, hgc⟩ := Kd.R_form h (by omega)
 have hcap : xs.length ≤ cap := (Kd.R_reads' h).2.1
 have HX := Aside0.mk h
 have HG0 : Aside0 (w.grownBy w (some g)) := ⟨⟨rfl, rfl, rfl, Nat.le_refl _, fun _ _ _ => rfl⟩⟩
 clear h hgc
 by_cases hn1 : xs.length < 2
 ·obtain hl : xs.length = 1 := by omega
  have HD : Aside0 (ddL xs xs.length = xs) := ⟨by
   rw [hl]
   match xs, hl with
   | [p], _ => rfl⟩
  have hI : ((xs.length : Nat) : Int) < 2 := by omega
  have HL := Aside0.mk hl
  clear hl
  go_enter Try.func84, Try.ntmps84
  go_wp2
  go_ret
  exact ⟨_, rfl, by rw [HD.out]; exact HX.out, HG0.out, rfl⟩
 ·have hI : ¬ ((xs.length : Nat) : Int) < 2 := by omega
  have HT1 : Aside0 (ddL xs 1 = xs.take 1) := ⟨by rw [take_pt xs 0 (by omega)]; rfl⟩
  go_enter Try.func84, Try.ntmps84
  go_wp2
  go_loopw [3] (fun v3 wr => ∃ (k : Nat) (q : Nat), 1 ≤ k ∧ k ≤ xs.length ∧ v3 = .int .i64 k ∧ Aside0 (ddL xs k = xs.take k) ∧ wr = w.drewN q) (fun v3 _ => xs.length - (intOf v3).toNat)
  case atStart => exact ⟨1, 0, by omega, by omega, rfl, HT1, rfl⟩
  case round =>
   obtain ⟨k, q, hk1, hk, rfl, HT, rfl⟩ := hrel
   obtain ⟨j, hj⟩ : ∃ j, k = j + 1 := ⟨k - 1, by omega⟩
   by_cases hlt : k < xs.length
   ·obtain ⟨x0, x1, xf⟩ := at31 HX.out j (by omega)
    obtain ⟨y0, y1, _⟩ := at31 HX.out k hlt
    have hltI : ((k : Nat) : Int) < ((xs.length : Nat) : Int) := by omega
    have hjI : ((j : Nat) : Int) < ((xs.length : Nat) : Int) := by omega
    have hsub : IntKind.i64.wrap (((k : Nat) : Int) - 1) = ((j : Nat) : Int) := by rw [IntWalk.i64_in _ (by omega)]; omega
    by_cases he : pt xs k = pt xs j
    ·have heB : ((pt xs k).f0 == (pt xs j).f0 && (pt xs k).f1 == (pt xs j).f1) = true := by rw [eqB]; simpa using he
     have HD : Aside0 (ddL xs (k + 1) = xs.take k) := ⟨by rw [← HT.out, hj, ddL_same xs (by rw [← hj]; exact he)]⟩
     have hcs : ¬ cap = k := by omega
     have hkc : ((k : Nat) : Int) ≤ ((cap : Nat) : Int) := by omega
     clear he HT
     generalize pt xs k = py at *
     generalize pt xs j = px at *
     have HJ := Aside0.mk hj
     clear hj
     go_wp2
     go_quiet (fail)
     clear hsub
     go_wp2
     have HR0 : ∀ m : Nat, Aside0 (Kd.R k31 31 (w.drewN m) base ok (.slice (some ⟨g, 0, none⟩) xs.length cap) (xs.take k ++ xs.drop (xs.take k).length)) := fun m => ⟨by
      rw [List.length_take, Nat.min_eq_left hk, List.take_append_drop]; exact Kd.R_drewN HX.out _⟩
     go_loopw [3, 5] (fun v3 v5 wx => ∃ (i : Nat) (D : List S31), 1 ≤ i ∧ k + i ≤ xs.length ∧ v5 = .int .i64 i ∧ v3 = .int .i64 (D.length : Nat) ∧ D.length + 1 ≤ k + i ∧ Aside0 (ddL xs (k + i) = D) ∧ Aside0 (Kd.R k31 31 wx base ok (.slice (some ⟨g, 0, none⟩) xs.length cap) (D ++ xs.drop D.length)) ∧ Aside0 (w.grownBy wx (some g))) (fun _ v5 _ => xs.length - (intOf v5).toNat)
     case atStart => exact ⟨1, xs.take k, by omega, by omega, rfl, by rw [List.length_take, Nat.min_eq_left hk], by rw [List.length_take]; omega, HD, HR0 _, ⟨⟨rfl, rfl, rfl, Nat.le_refl _, fun _ _ _ => rfl⟩⟩⟩
     case round =>
      obtain ⟨i, D, hi1, hi2, rfl, rfl, hDl, HDD, HR, HG⟩ := hrel
      obtain ⟨i', hi'⟩ : ∃ i', i = i' + 1 := ⟨i - 1, by omega⟩
      clear HR0
      have hDx : D.length ≤ xs.length := by omega
      by_cases hlt2 : i < xs.length - k
      ·have hcl := len_tail xs D hDx
       obtain ⟨x0, x1, _⟩ := at31 HR.out (k + i) (by rw [hcl]; omega)
       obtain ⟨y0, y1, xf⟩ := at31 HR.out (k + i') (by rw [hcl]; omega)
       rw [pt_tail xs D _ (by omega) hDx, Nat.add_mul] at x0 x1 y0 y1
       have hiI : ((i : Nat) : Int) < ((xs.length - k : Nat) : Int) := by omega
       have hi'I : ((i' : Nat) : Int) < ((xs.length - k : Nat) : Int) := by omega
       have hsub : IntKind.i64.wrap (((i : Nat) : Int) - 1) = ((i' : Nat) : Int) := by rw [IntWalk.i64_in _ (by omega)]; omega
       by_cases he2 : pt xs (k + i) = pt xs (k + i')
       ·have heN : (!((pt xs (k + i)).f0 == (pt xs (k + i')).f0) || !((pt xs (k + i)).f1 == (pt xs (k + i')).f1)) = false := by rw [← Bool.not_and, eqB]; simpa using he2
        have heB : ((pt xs (k + i)).f0 == (pt xs (k + i')).f0 && (pt xs (k + i)).f1 == (pt xs (k + i')).f1) = true := by rw [eqB]; simpa using he2
        have HDD' : Aside0 (ddL xs (k + (i + 1)) = D) := ⟨by
         have h2 := ddL_same xs (k := k + i') (by rw [show k + i' + 1 = k + i by omega]; exact he2)
         rw [show k + i' + 2 = k + (i + 1) by omega, show k + i' + 1 = k + i by omega] at h2
         rw [h2]; exact HDD.out⟩
        clear he2
        have HI' := Aside0.mk hi'
        clear hi' hcl
        generalize pt xs (k + i) = p1 at *
        generalize pt xs (k + i') = p2 at *
        go_wp2
        go_quiet (fail)
        clear hsub
        go_wp2
        go_roundw
        case rel => exact ⟨i + 1, D, by omega, by omega, by go_num, rfl, by omega, HDD', ⟨Kd.R_drewN HR.out _⟩, ⟨grown_drewN HG.out _⟩⟩
        case measure => simp [intOf]; omega
       ·have heN : (!((pt xs (k + i)).f0 == (pt xs (k + i')).f0) || !((pt xs (k + i)).f1 == (pt xs (k + i')).f1)) = true := by rw [← Bool.not_and, eqB]; simpa using he2
        have heB : ((pt xs (k + i)).f0 == (pt xs (k + i')).f0 && (pt xs (k + i)).f1 == (pt xs (k + i')).f1) = false := by rw [eqB]; simpa using he2
        have HDD' : Aside0 (ddL xs (k + (i + 1)) = D ++ [pt xs (k + i)]) := ⟨by
         have h2 := ddL_new xs (k := k + i') (by rw [show k + i' + 1 = k + i by omega]; exact he2)
         rw [show k + i' + 2 = k + (i + 1) by omega, show k + i' + 1 = k + i by omega] at h2
         rw [h2, HDD.out]⟩
        have HST := Aside0.mk (set_tail xs D (pt xs (k + i)) (by omega))
        obtain ⟨z0, z1, _⟩ := at31 HR.out D.length (by rw [hcl]; omega)
        have hDI : ((D.length : Nat) : Int) < ((xs.length : Nat) : Int) := by omega
        clear he2
        have HI' := Aside0.mk hi'
        clear hi' hcl
        generalize pt xs (k + i) = p1 at *
        generalize pt xs (k + i') = p2 at *
        go_wp2
        go_quiet (fail)
        clear hsub
        go_wp2
        go_roundw
        case rel =>
         obtain ⟨P1, P2⟩ := put31 (Kd.R_drewN HR.out nq) D.length (by rw [len_tail xs D hDx]; omega) p1
         rw [HST.out] at P1
         exact ⟨i + 1, D ++ [p1], by omega, by omega, by go_num, by rw [List.length_append, List.length_singleton]; go_num, by rw [List.length_append, List.length_singleton]; omega, HDD', ⟨P1⟩, ⟨grown_trans (grown_drewN HG.out nq) P2⟩⟩
        case measure => simp [intOf]; omega
      ·obtain hin : k + i = xs.length := by omega
       have HDF : Aside0 (ddL xs xs.length = D) := ⟨by rw [← hin]; exact HDD.out⟩
       have hnn : ¬ ((i : Nat) : Int) < ((xs.length - k : Nat) : Int) := by omega
       have hcl := len_tail xs D hDx
       have hclr : Aside0 (∀ ty, (Builtin.clear_ #[22] ty #[.slice (some ⟨g, D.length * 2, none⟩) (xs.length - D.length) (cap - D.length)]).run Try.prog wr = .ok (.tuple #[]) (wr.setCells g (D.length * 2) (zer (xs.length - D.length)))) := ⟨fun ty => by
        refine clear31 wr ty g (D.length * 2) (xs.length - D.length) (cap - D.length) (by omega) (fun j hj => ?_) (fun j hj => ?_)
        ·obtain ⟨c0, c1, _⟩ := at31 HR.out (D.length + j / 2) (by rw [hcl]; omega)
         rcases Nat.mod_two_eq_zero_or_one j with h | h
         ·rw [show D.length * 2 + j = (D.length + j / 2) * 2 by omega, c0]; rfl
         ·rw [show D.length * 2 + j = (D.length + j / 2) * 2 + 1 by omega, c1]; rfl
        ·exact (at31 HR.out D.length (by rw [hcl]; omega)).2.2 _⟩
       have HRD : Aside0 (Kd.R k31 31 (wr.setCells g (D.length * 2) (zer (xs.length - D.length))) base ok (.slice (some ⟨g, 0, none⟩) D.length cap) D) := ⟨by
        have h1 := Kd.R_take (m := D.length) HR.out (by rw [hcl]; exact hDx)
        rw [List.take_left'] at h1
        ·exact R31_of_own (own_behind _ _ (own_of_R31 h1) (Nat.le_refl _)) h1.1
        ·rfl⟩
       have HGD : Aside0 (w.grownBy (wr.setCells g (D.length * 2) (zer (xs.length - D.length))) (some g)) := ⟨grown_trans HG.out (setCells_grown _ _ _ _)⟩
       have hDc : ¬ cap = D.length := by omega
       have hDI : ((D.length : Nat) : Int) ≤ ((cap : Nat) : Int) := by omega
       have hDI2 : ((D.length : Nat) : Int) ≤ ((xs.length : Nat) : Int) := by omega
       clear HR HG HDD
       generalize wr.setCells g (D.length * 2) (zer (xs.length - D.length)) = W2 at *
       go_wp2_with (first | ((with_reducible refine gate_builtin (b := .clear) (xs := #[.tmp 56]) rfl ?_); go_must (refine Kd.event_run (w1 := W2) (v := .tuple #[]) rfl ?hr ?_); (case hr => go_simp; rw [hclr.out]; rfl)))
       go_ret
       exact ⟨_, rfl, by rw [HDF.out]; exact HRD.out, HGD.out, rfl⟩
    ·have HT2 : Aside0 (ddL xs (k + 1) = xs.take (k + 1)) := ⟨by rw [take_pt xs k hlt, ← HT.out, hj, ddL_new xs (by rw [← hj]; exact he)]⟩
     have heB : ((pt xs k).f0 == (pt xs j).f0 && (pt xs k).f1 == (pt xs j).f1) = false := by rw [eqB]; simpa using he
     clear he HT
     generalize pt xs k = py at *
     generalize pt xs j = px at *
     have HJ := Aside0.mk hj
     clear hj
     go_wp2
     go_quiet (fail)
     clear hsub
     go_wp2
     go_roundw
     case rel => exact ⟨k + 1, _, by omega, by omega, by go_num, HT2, by first | rfl | (rw [World.drewN_drewN]; done)⟩
     case measure => simp [intOf]; omega
   ·obtain rfl : k = xs.length := by omega
    go_wp2
    go_ret
    refine ⟨_, rfl, ?_, ?_, rfl⟩
    ·rw [HT.out, List.take_length]; exact Kd.R_drewN HX.out q
    ·exact ⟨rfl, rfl, rfl, Nat.le_refl _, fun _ _ _ => rfl⟩
def popN (out : List S31) (p : S31) : Nat → Nat
 | 0 => 0
 | 1 => 1
 | n + 2 => if crs (pt out n) (pt out (n + 1)) p ≤ 0 then popN out p (n + 1) else n + 2
theorem popN_le (out : List S31) (p : S31) : ∀ n, popN out p n ≤ n
 | 0 => by simp [popN]
 | 1 => by simp [popN]
 | n + 2 => by
  have := popN_le out p (n + 1)
  unfold popN
  split <;> omega
def chStep (out : List S31) (p : S31) : List S31 := out.take (popN out p out.length) ++ [p]
def chainL (l : List S31) : List S31 := l.foldl chStep []
theorem chainL_snoc (l : List S31) (p : S31) : chainL (l ++ [p]) = chStep (chainL l) p := by simp [chainL]
theorem chStep_ok {out : List S31} {p : S31} (ho : allOk out = true) (hp : okPt p = true) : allOk (chStep out p) = true := by
 unfold chStep allOk at *
 rw [List.all_append, List.all_eq_true.2 (fun x hx => List.all_eq_true.1 ho x (List.mem_of_mem_take hx))]
 simp [hp]
theorem chainL_ok (l : List S31) (h : allOk l = true) : allOk (chainL l) = true := by
 have key : ∀ (l out : List S31), allOk l = true → allOk out = true → allOk (l.foldl chStep out) = true := by
  intro l
  induction l with
  | nil => intro out _ h; exact h
  | cons p l ih =>
   intro out h1 h2
   unfold allOk at h1
   rw [List.all_cons, Bool.and_eq_true] at h1
   exact ih _ h1.2 (chStep_ok h2 h1.1)
 exact key l [] h rfl
theorem chainL_len (l : List S31) : (chainL l).length ≤ l.length := by
 have key : ∀ (l out : List S31), (l.foldl chStep out).length ≤ out.length + l.length := by
  intro l
  induction l with
  | nil => intro out; simp
  | cons p l ih =>
   intro out
   have := ih (chStep out p)
   have h2 : (chStep out p).length ≤ out.length + 1 := by
    unfold chStep
    rw [List.length_append, List.length_take, List.length_singleton]; omega
   rw [List.foldl_cons, List.length_cons]; omega
 have := key l []
 simpa [chainL] using this
theorem allOk_pt {l : List S31} (h : allOk l = true) (k : Nat) (hk : k < l.length) : okPt (pt l k) = true := by
 rw [pt_eq l k hk]
 exact List.all_eq_true.1 h _ (List.getElem_mem hk)
theorem allOk_take {l : List S31} (h : allOk l = true) (k : Nat) : allOk (l.take k) = true := List.all_eq_true.2 (fun x hx => List.all_eq_true.1 h x (List.mem_of_mem_take hx))
theorem old_cells {W : World} {base : Nat} {ok : Nat → Prop} {g n co : Nat} {out : List S31} (h : Kd.R k31 31 W base ok (.slice (some ⟨g, 0, none⟩) n co) out) (m : Nat) (o : Obj) (b : Addr) (hb : (some ⟨g, 0, none⟩ : Option Addr) = some b) (j : Nat) (u : Value) (hu : (fl (out.take m))[j]? = some u) : (W.drew.alloc o).cell? (b.add j) = some u := by
 cases hb
 have hu' : (fl out)[j]? = some u := by
  rw [← List.take_append_drop m out, fl_append, List.getElem?_append_left (List.getElem?_eq_some_iff.1 hu).1]
  exact hu
 have hc := (own_of_R31 h).cells (g := g) (by simp [Value.ownBlock]) _ u hu'
 have hlt := World.block_lt_of_cell? W _ hc
 exact ((below_alloc (below_drew (Below.refl W.heap.size W)) o).cell hlt).trans hc
theorem new_cells (W : World) (p : S31) (j : Nat) (u : Value) (hu : (encP p)[j]? = some u) : (W.drew.alloc (Obj.cells #[.int .i64 p.f0, .int .i64 p.f1] 31)).cell? ((⟨W.heap.size, 0, none⟩ : Addr).add j) = some u := by
 have h := heap_alloc_new W.drew (Obj.cells #[.int .i64 p.f0, .int .i64 p.f1] 31)
 rw [Addr.add_lit, Nat.zero_add, blk_cell (g := W.heap.size) (t := 31) (cs := #[.int .i64 p.f0, .int .i64 p.f1]) h]
 rw [← hu]
 simp [encP]
theorem chain_row {w W w4 : World} {o : Obj} {v4 : Value} {m : Nat} {out : List S31} {p : S31} (hown : w4.ownsRow (W.alloc o).drew.heap.size 31 2 v4 (m + 1) (fl (out.take m) ++ encP p)) (hgrow : (W.alloc o).drew.grownBy w4 none) (hm : m ≤ out.length) (hb : Below w.heap.size w W) :
  Kd.R k31 31 w4 w.heap.size (fun _ => True) v4 (out.take m ++ [p]) ∧ Below w.heap.size w w4 := by
 have hl : (out.take m ++ [p]).length = m + 1 := by rw [List.length_append, List.length_take, List.length_singleton]; omega
 have hf : fl (out.take m ++ [p]) = fl (out.take m) ++ encP p := by rw [fl_append]; simp [fl]
 refine ⟨Kd.R_lower (R31_of_own (by rw [hl, hf]; exact hown) (fun _ _ => trivial)) (by have := hb.size; simp [World.drew]; omega), ?_⟩
 have h2 : Below w.heap.size w (W.alloc o).drew := below_drew (below_alloc hb o)
 exact h2.grown hgrow (by have := hb.size; simp [World.drew]; omega) (fun k e => by cases e)
set_option maxHeartbeats 4000000 in
set_option maxRecDepth 100000 in
theorem chain_calls (A0 : Option Addr) (c0 : Nat) (l0 : List S31) (w : World) (hr0 : Kd.C k31 w A0 l0.length l0) (hc0 : l0.length ≤ c0) (hok : allOk l0 = true) (hsz : l0.length ≤ 4096) :
  Calls Try.prog 85 #[.slice A0 l0.length c0] w fun e w' => ∃ v, e = .returned v ∧ Kd.R k31 31 w' w.heap.size (fun _ => True) v (chainL l0) ∧ Below w.heap.size w w' := by
 obtain ⟨i0, hi, hz0, hz1, hz2⟩ := info_parts info31
 have HI0 := Aside0.mk (show Try.prog.info? 31 = some i0 ∧ i0.zero = some (.agg #[.int .i64 0, .int .i64 0]) ∧ i0.size = 2 ∧ i0.bytes = 16 from ⟨hi, hz0, hz1, hz2⟩)
 have HR0 := Aside0.mk hr0
 have HB0 := Aside0.mk (Below.refl w.heap.size w)
 have HOK := Aside0.mk hok
 have HN0 : Aside0 (Kd.R k31 31 w w.heap.size (fun _ => True) (.slice none 0 0) (chainL (l0.take 0))) := ⟨Kd.R_nil _ _ _ _ _⟩
 clear hr0 hok hi hz0 hz1 hz2
 go_enter Try.func85, Try.ntmps85
 go_wp2
 go_loopw [3, 9] (fun v3 v9 wr => ∃ k : Nat, k ≤ l0.length ∧ v9 = .int .i64 k ∧ Aside0 (Kd.R k31 31 wr w.heap.size (fun _ => True) v3 (chainL (l0.take k))) ∧ Aside0 (Below w.heap.size w wr)) (fun _ v9 _ => l0.length - (intOf v9).toNat)
 case atStart => exact ⟨0, by omega, rfl, HN0, HB0⟩
 case round =>
  obtain ⟨k, hk, rfl, HR, HB⟩ := hrel
  clear HN0 HB0
  by_cases hlt : k < l0.length
  ·obtain ⟨ad, rfl, hx0, hx1⟩ := at_T31 (Kd.C_below HR0.out HB.out) (k : Int) (by omega) (by omega)
   rw [rd_pt, Int.toNat_natCast] at hx0 hx1
   have hltI : ((k : Nat) : Int) < ((l0.length : Nat) : Int) := by omega
   have HP := Aside0.mk (allOk_pt HOK.out k hlt)
   have HCH := Aside0.mk (show chainL (l0.take (k + 1)) = chStep (chainL (l0.take k)) (pt l0 k) by rw [take_pt l0 k hlt, chainL_snoc])
   have HCO := Aside0.mk (chainL_ok _ (allOk_take HOK.out k))
   have hcl := chainL_len (l0.take k)
   rw [List.length_take] at hcl
   generalize pt l0 k = p at *
   generalize chainL (l0.take k) = out at *
   obtain ⟨Ao, co, rfl⟩ := Kd.R_slice HR.out
   have hol : out.length ≤ 4096 := by omega
   obtain ⟨wo, hwo⟩ : ∃ wo : World, wo = wr := ⟨_, rfl⟩
   subst hwo
   have BX := Aside0.mk (heap_alloc_new wo (Obj.cells #[.int .i64 p.f0, .int .i64 p.f1] 31))
   have HB1 := Aside0.mk (below_alloc HB.out (Obj.cells #[.int .i64 p.f0, .int .i64 p.f1] 31))
   have HR1 := Aside0.mk (Kd.R_alloc HR.out (Obj.cells #[.int .i64 p.f0, .int .i64 p.f1] 31))
   have HBX := Aside0.mk HB.out.size
   clear hcl
   go_wp2
   go_loopw [6] (fun v6 wx => ∃ m : Nat, m ≤ out.length ∧ v6 = .int .i64 m ∧ Aside0 (popN out p m = popN out p out.length) ∧ Aside0 (wx.heap[wo.heap.size]? = some (.cells #[.int .i64 p.f0, .int .i64 p.f1] 31 (0, 0))) ∧ Aside0 (Kd.R k31 31 wx w.heap.size (fun _ => True) (.slice Ao out.length co) out) ∧ Aside0 (Below w.heap.size w wx)) (fun v6 _ => (intOf v6).toNat)
   case atStart => exact ⟨out.length, by omega, rfl, ⟨rfl⟩, BX, HR1, HB1⟩
   case round =>
    obtain ⟨m, hm, rfl, HPN, BX', HR', HB'⟩ := hrel
    clear BX HR1 HB1
    have b0 : wr.cell? ⟨wo.heap.size, 0, none⟩ = some (.int .i64 p.f0) := blk_cell BX'.out 0
    have b1 : wr.cell? ⟨wo.heap.size, 1, none⟩ = some (.int .i64 p.f1) := blk_cell BX'.out 1
    by_cases h2 : 2 ≤ m
    ·obtain ⟨i, hmi⟩ : ∃ i, m = i + 2 := ⟨m - 2, by omega⟩
     obtain ⟨j, hji⟩ : ∃ j, j = i + 1 := ⟨_, rfl⟩
     have hAo : ∃ g, Ao = some ⟨g, 0, none⟩ := by
      obtain ⟨g, cap, e, _⟩ := Kd.R_form HR'.out (by omega)
      injection e with e1
      exact ⟨g, e1⟩
     obtain ⟨g, hgA⟩ := hAo
     subst hgA
     obtain ⟨x0, x1, _⟩ := at31 HR'.out i (by omega)
     obtain ⟨y0, y1, _⟩ := at31 HR'.out j (by omega)
     have HT := Aside0.mk (turn_is (allOk_pt HCO.out i (by omega)) (allOk_pt HCO.out j (by omega)) HP.out)
     have HPOP : Aside0 (popN out p m = if crs (pt out i) (pt out j) p ≤ 0 then popN out p j else m) := ⟨by rw [hmi, hji]; rfl⟩
     have hs1 : IntKind.i64.wrap (((m : Nat) : Int) - 2) = ((i : Nat) : Int) := by rw [IntWalk.i64_in _ (by omega)]; omega
     have hs2 : IntKind.i64.wrap (((m : Nat) : Int) - 1) = ((j : Nat) : Int) := by rw [IntWalk.i64_in _ (by omega)]; omega
     have hge : decide ((2 : Int) ≤ ((m : Nat) : Int)) = true := by simp; omega
     have hiI : ((i : Nat) : Int) < ((out.length : Nat) : Int) := by omega
     have hiI1 : ((j : Nat) : Int) < ((out.length : Nat) : Int) := by omega
     have HIJ := Aside0.mk (show m = i + 2 ∧ j = i + 1 from ⟨hmi, hji⟩)
     clear hmi hji
     have HSG := Aside0.mk (@sgn_pos (crs (pt out i) (pt out j) p))
     generalize hcr : crs (pt out i) (pt out j) p = cr at *
     clear hcr
     generalize pt out i = pi at *
     generalize pt out j = pj at *
     by_cases hc : cr ≤ 0
     ·have hsg : sgn cr ≤ 0 := by have := HSG.out; omega
      rw [if_pos hc] at HPOP
      have HPN' : Aside0 (popN out p j = popN out p out.length) := ⟨by rw [← HPOP.out]; exact HPN.out⟩
      clear HPN HPOP hc
      generalize sgn cr = sg at *
      go_wp2
      go_still_tail 14, (by kernel_rfl)
      change wpList _ _ _ _ _ wr.drew
      have HRd := Aside0.mk (Kd.R_drew HR'.out)
      have HBd := Aside0.mk (below_drew HB'.out)
      have BXd := Aside0.mk (blk_drew BX'.out)
      generalize wr.drew = w2 at *
      go_wp2_with (first | (go_at_call 61; go_must (refine (plane_turn.calls pi.f0 pi.f1 pj.f0 pj.f1 p.f0 p.f1 _ _ HT.out).mono ?_); rintro e w3 ⟨rfl, hb3⟩; have HR3 := Aside0.mk (Kd.R_below HRd.out hb3); have HB3 := Aside0.mk (below_step HBd.out hb3); have BX3 := Aside0.mk (blk_below BXd.out hb3); clear hb3))
      go_roundw
      case rel => exact ⟨j, by omega, by go_num, HPN', BX3, HR3, HB3⟩
      case measure => simp [intOf]; have := HIJ.out; omega
     ·have hsg : ¬ sgn cr ≤ 0 := by have := HSG.out; omega
      rw [if_neg hc] at HPOP
      have HPM : Aside0 (popN out p out.length = m) := ⟨by rw [← HPN.out]; exact HPOP.out⟩
      clear HPN HPOP hc
      generalize sgn cr = sg at *
      go_wp2
      go_still_tail 14, (by kernel_rfl)
      change wpList _ _ _ _ _ wr.drew
      have HRd := Aside0.mk (Kd.R_drew HR'.out)
      have HBd := Aside0.mk (below_drew HB'.out)
      have BXd := Aside0.mk (blk_drew BX'.out)
      generalize wr.drew = w2 at *
      go_wp2_with (first | (go_at_call 61; go_must (refine (plane_turn.calls pi.f0 pi.f1 pj.f0 pj.f1 p.f0 p.f1 _ _ HT.out).mono ?_); rintro e w3 ⟨rfl, hb3⟩; have HR3 := Aside0.mk (Kd.R_below HRd.out hb3); have HB3 := Aside0.mk (below_step HBd.out hb3); have BX3 := Aside0.mk (blk_below BXd.out hb3); clear hb3))
      have hmc : ((m : Nat) : Int) ≤ ((co : Nat) : Int) := by have := (Kd.R_reads' HR3.out).2.1; omega
      have c0' : (w3).cell? ⟨wo.heap.size, 0, none⟩ = some (.int .i64 p.f0) := blk_cell BX3.out 0
      have c1' : (w3).cell? ⟨wo.heap.size, 1, none⟩ = some (.int .i64 p.f1) := blk_cell BX3.out 1
      have HST : Aside0 (chainL (l0.take (k + 1)) = out.take m ++ [p]) := ⟨by rw [HCH.out]; unfold chStep; rw [HPM.out]⟩
      have hws : (w3).heap.size < (w3).heap.size + 1 := by omega
      go_region_law (refine step_append_grows rfl (.tmp 37) (.tmp 39) 22 rfl 31 i0 (.agg #[.int .i64 0, .int .i64 0]) 2 16 Try.underlying22 HI0.out.1 HI0.out.2.1 HI0.out.2.2.1 HI0.out.2.2.2 rfl (by decide) (some ⟨g, 0, none⟩) m m (fl (out.take m)) (by simp [Act.eval, Act.put]) (fun h => by cases h) (by rw [fl_len, List.length_take, Nat.min_eq_left hm]) (old_cells HR3.out m _) ⟨(w3).heap.size, 0, none⟩ 1 1 (encP p) (by simp [Act.eval, Act.put]) rfl (new_cells (w3) p) (encP_one p) (by omega) (by unfold maxLen; omega) (by omega) ?_; intro v4 w4 hown hgrow)
      have HR4 := Aside0.mk (chain_row hown hgrow hm HB3.out)
      clear hown hgrow
      rw [← HST.out] at HR4
      go_wp2
      go_roundw
      case rel => exact ⟨k + 1, by omega, by go_num, ⟨HR4.out.1⟩, ⟨HR4.out.2⟩⟩
      case measure => simp [intOf]; omega
    ·have HPM : Aside0 (popN out p out.length = m) := ⟨by
      rw [← HPN.out]
      rcases (by omega : m = 0 ∨ m = 1) with e | e
      ·rw [e]; rfl
      ·rw [e]; rfl⟩
     have hge : decide ((2 : Int) ≤ ((m : Nat) : Int)) = false := by simp; omega
     rcases Ao with _ | Aa
     ·have hz : out.length = 0 := by
       rcases (own_of_R31 HR'.out).2 with ⟨_, h⟩ | ⟨g, cap, cur, e, _⟩
       ·exact h
       ·injection e with e1; cases e1
      obtain rfl : m = 0 := by omega
      go_wp2
      go_quiet (fail)
      go_wp2
      have HRd := Aside0.mk (Kd.R_drewN HR'.out nq)
      have HBd := Aside0.mk (pw_below_drewN HB'.out nq)
      have BXd := Aside0.mk (blk_drewN BX'.out nq)
      clear b0 b1 hge
      generalize wr.drewN nq = w5 at *
      have hmc : ((0 : Nat) : Int) ≤ ((co : Nat) : Int) := by have := (Kd.R_reads' HRd.out).2.1; omega
      have c0' : w5.cell? ⟨wo.heap.size, 0, none⟩ = some (.int .i64 p.f0) := blk_cell BXd.out 0
      have c1' : w5.cell? ⟨wo.heap.size, 1, none⟩ = some (.int .i64 p.f1) := blk_cell BXd.out 1
      have HST : Aside0 (chainL (l0.take (k + 1)) = out.take 0 ++ [p]) := ⟨by rw [HCH.out]; unfold chStep; rw [HPM.out]⟩
      have hws : w5.heap.size < w5.heap.size + 1 := by omega
      go_region_law (refine step_append_grows rfl (.tmp 37) (.tmp 39) 22 rfl 31 i0 (.agg #[.int .i64 0, .int .i64 0]) 2 16 Try.underlying22 HI0.out.1 HI0.out.2.1 HI0.out.2.2.1 HI0.out.2.2.2 rfl (by decide) none 0 0 (fl (out.take 0)) (by simp [Act.eval, Act.put]) (fun _ => ⟨rfl, rfl⟩) (by rw [List.take_zero]; rfl) (fun b hb => by cases hb) ⟨w5.heap.size, 0, none⟩ 1 1 (encP p) (by simp [Act.eval, Act.put]) rfl (new_cells w5 p) (encP_one p) (by omega) (by unfold maxLen; omega) (by omega) ?_; intro v4 w4 hown hgrow)
      have HR4 := Aside0.mk (chain_row hown hgrow hm HBd.out)
      clear hown hgrow
      rw [← HST.out] at HR4
      go_wp2
      go_roundw
      case rel => exact ⟨k + 1, by omega, by go_num, ⟨HR4.out.1⟩, ⟨HR4.out.2⟩⟩
      case measure => simp [intOf]; omega
     ·have hAo : ∃ g, Aa = ⟨g, 0, none⟩ := by
       rcases (own_of_R31 HR'.out).2 with ⟨e, _⟩ | ⟨g, cap, cur, e, _⟩
       ·cases e
       ·injection e with e1
        injection e1 with e2
        exact ⟨g, e2⟩
      obtain ⟨g, hgA⟩ := hAo
      subst hgA
      go_wp2
      go_quiet (fail)
      go_wp2
      have HRd := Aside0.mk (Kd.R_drewN HR'.out nq)
      have HBd := Aside0.mk (pw_below_drewN HB'.out nq)
      have BXd := Aside0.mk (blk_drewN BX'.out nq)
      clear b0 b1 hge
      generalize wr.drewN nq = w5 at *
      have hmc : ((m : Nat) : Int) ≤ ((co : Nat) : Int) := by have := (Kd.R_reads' HRd.out).2.1; omega
      have c0' : w5.cell? ⟨wo.heap.size, 0, none⟩ = some (.int .i64 p.f0) := blk_cell BXd.out 0
      have c1' : w5.cell? ⟨wo.heap.size, 1, none⟩ = some (.int .i64 p.f1) := blk_cell BXd.out 1
      have HST : Aside0 (chainL (l0.take (k + 1)) = out.take m ++ [p]) := ⟨by rw [HCH.out]; unfold chStep; rw [HPM.out]⟩
      have hws : w5.heap.size < w5.heap.size + 1 := by omega
      go_region_law (refine step_append_grows rfl (.tmp 37) (.tmp 39) 22 rfl 31 i0 (.agg #[.int .i64 0, .int .i64 0]) 2 16 Try.underlying22 HI0.out.1 HI0.out.2.1 HI0.out.2.2.1 HI0.out.2.2.2 rfl (by decide) (some ⟨g, 0, none⟩) m m (fl (out.take m)) (by simp [Act.eval, Act.put]) (fun h => by cases h) (by rw [fl_len, List.length_take, Nat.min_eq_left hm]) (old_cells HRd.out m _) ⟨w5.heap.size, 0, none⟩ 1 1 (encP p) (by simp [Act.eval, Act.put]) rfl (new_cells w5 p) (encP_one p) (by omega) (by unfold maxLen; omega) (by omega) ?_; intro v4 w4 hown hgrow)
      have HR4 := Aside0.mk (chain_row hown hgrow hm HBd.out)
      clear hown hgrow
      rw [← HST.out] at HR4
      go_wp2
      go_roundw
      case rel => exact ⟨k + 1, by omega, by go_num, ⟨HR4.out.1⟩, ⟨HR4.out.2⟩⟩
      case measure => simp [intOf]; omega
  ·obtain rfl : k = l0.length := by omega
   go_wp2
   go_ret
   refine ⟨_, rfl, ?_, HB.out⟩
   rw [List.take_length] at HR
   exact HR.out
theorem step_append_own {P : Program} {ops : Array Oper} {w : World} {o : Oper} {a : Act} {K : Act → World → Prop} {Q : Exit → Act → World → Prop} {E : Prop} (hg : o.guard = none) (s x : Operand) (t : TypeId)
  (ho : o.op = .call { callee := .builtin .append, args := #[s, x], argTypes := #[t, t] })
  (base : Nat) (e : TypeId) (i : TypeInfo) (z : Value) (size bytes : Nat) (ht : P.underlying t = some (.slice e)) (hi : P.info? e = some i) (hz : i.zero = some z)
  (hsize : i.size = size) (hby : i.bytes = bytes) (hzs : z.cells.size = size) (hsz : 0 < size)
  (v : Value) (n : Nat) (xs : List Value) (hs : a.eval s = v) (hown : w.ownsRow base e size v n xs)
  (ad : Addr) (m c : Nat) (news : List Value) (hx : a.eval x = .slice (some ad) m c) (hl : news.length = m * size) (hnews : ∀ j u, news[j]? = some u → w.cell? (ad.add j) = some u) (h1 : ∀ u ∈ news, u.oneCell' = true)
  (h63 : n + m ≤ maxLen) (hbytes : (n + m) * bytes ≤ 140737488355328) (hbase : base ≤ w.heap.size)
  (h : ∀ v' w', w'.ownsRow base e size v' (n + m) (xs ++ news) → w.grownBy w' v.ownBlock → (v' = .slice none 0 0 ↔ v = .slice none 0 0 ∧ m = 0) → K (a.put o.dst v') w') :
  if Region.wanted o (yielded ops a.tmps) = true then Oper.wp P o a w K Q else E := by
 have hw : Region.wanted o (yielded ops a.tmps) = true := by simp [Region.wanted, hg]
 rw [if_pos hw]
 exact wp_append_own w s x t ho base e i z size bytes ht hi hz hsize hby hzs hsz v n xs hs hown ad m c news hx hl hnews h1 h63 hbytes hbase h
def sortedS (l : List S31) : List S31 := ddL (sortP l) (sortP l).length
def cornersS (l : List S31) : List S31 := if (sortedS l).length < 3 then sortedS l else (chainL (sortedS l)).dropLast ++ (chainL (sortedS l).reverse).dropLast
theorem mem_ddL (xs : List S31) : ∀ k, k ≤ xs.length → ∀ p, p ∈ ddL xs k → p ∈ xs
 | 0, _, p, h => by simp [ddL] at h
 | 1, hk, p, h => by
  simp only [ddL, List.mem_singleton] at h
  rw [h, pt_eq xs 0 (by omega)]; exact List.getElem_mem _
 | k + 2, hk, p, h => by
  unfold ddL at h
  split at h
  ·exact mem_ddL xs (k + 1) (by omega) p h
  ·rw [List.mem_append, List.mem_singleton] at h
   rcases h with h | h
   ·exact mem_ddL xs (k + 1) (by omega) p h
   ·rw [h, pt_eq xs (k + 1) (by omega)]; exact List.getElem_mem _
theorem sortedS_ok {l : List S31} (h : allOk l = true) : allOk (sortedS l) = true := List.all_eq_true.2 (fun p hp => List.all_eq_true.1 h p ((List.mergeSort_perm _ _).mem_iff.1 (mem_ddL _ _ (Nat.le_refl _) p hp)))
theorem sortedS_len (l : List S31) : (sortedS l).length ≤ l.length := by
 have := ddL_len (sortP l) (sortP l).length
 rw [sortP_len] at this
 unfold sortedS; rw [sortP_len]; exact this
theorem allOk_rev {l : List S31} (h : allOk l = true) : allOk l.reverse = true := by unfold allOk at *; rw [List.all_reverse]; exact h
theorem chainL_pos {l : List S31} (h : 1 ≤ l.length) : 1 ≤ (chainL l).length := by
 obtain ⟨a, p, rfl⟩ : ∃ a p, l = a ++ [p] := ⟨l.dropLast, l.getLast (by intro e; rw [e] at h; simp at h), (List.dropLast_concat_getLast _).symm⟩
 rw [chainL_snoc]; unfold chStep; simp
def plane_corners.f (l0 : List S31) : Option (List S31) := if 1 ≤ l0.length ∧ l0.length ≤ 4096 ∧ allOk l0 = true then some (cornersS l0) else none
theorem chain_calls_n (A0 : Option Addr) (n c0 : Nat) (l0 : List S31) (w : World) (hn : l0.length = n) (hr0 : Kd.C k31 w A0 l0.length l0) (hc0 : l0.length ≤ c0) (hok : allOk l0 = true) (hsz : l0.length ≤ 4096) :
  Calls Try.prog 85 #[.slice A0 n c0] w fun e w' => ∃ v, e = .returned v ∧ Kd.R k31 31 w' w.heap.size (fun _ => True) v (chainL l0) ∧ Below w.heap.size w w' := by
 subst hn
 exact chain_calls A0 c0 l0 w hr0 hc0 hok hsz
set_option maxHeartbeats 4000000 in
set_option maxRecDepth 100000 in
theorem corners_calls (A0 : Option Addr) (c0 : Nat) (l0 : List S31) (w : World) (hr0 : Kd.C k31 w A0 l0.length l0) (hc0 : l0.length ≤ c0) (hl1 : 1 ≤ l0.length) (hsz : l0.length ≤ 4096) (hok : allOk l0 = true) :
  Calls Try.prog 64 #[.slice A0 l0.length c0] w fun e w' => ∃ v, e = .returned v ∧ Kd.R k31 31 w' w.heap.size (fun _ => True) v (cornersS l0) ∧ Below w.heap.size w w' := by
 obtain ⟨i0, hi, hz0, hz1, hz2⟩ := info_parts info31
 have HI0 := Aside0.mk (show Try.prog.info? 31 = some i0 ∧ i0.zero = some (.agg #[.int .i64 0, .int .i64 0]) ∧ i0.size = 2 ∧ i0.bytes = 16 from ⟨hi, hz0, hz1, hz2⟩)
 have HC1 := Aside0.mk (clone_calls A0 c0 l0 w hr0 hl1 (by omega))
 have HB0 := Aside0.mk (Below.refl w.heap.size w)
 have HSO := Aside0.mk (sortedS_ok hok)
 have hsl := sortedS_len l0
 have HSL := Aside0.mk (sortP_len l0)
 have HDS : Aside0 (ddL (sortP l0) (sortP l0).length = sortedS l0) := ⟨rfl⟩
 have HCS : Aside0 (cornersS l0 = if (sortedS l0).length < 3 then sortedS l0 else (chainL (sortedS l0)).dropLast ++ (chainL (sortedS l0).reverse).dropLast) := ⟨rfl⟩
 clear hr0 hok hi hz0 hz1 hz2
 generalize cornersS l0 = cs at *
 generalize sortedS l0 = so at *
 by_cases h3 : so.length < 3
 ·have h3I : ((so.length : Nat) : Int) < 3 := by omega
  rw [if_pos h3] at HCS
  go_enter Try.func64, Try.ntmps64
  go_wp2_with (first | (go_at_call 73; go_must (refine HC1.out.mono ?_); rintro e w1 ⟨v1, rfl, hr1, hb1⟩; have HR1 := Aside0.mk hr1; have HB1 := Aside0.mk hb1; clear hr1 hb1) | (go_at_call 74; go_must (refine (sort_calls w1 w.heap.size _ v1 l0 HR1.out (by omega)).mono ?_); rintro e w2 ⟨rfl, hr2, hg2⟩; have HR2 := Aside0.mk hr2; have HB2 := Aside0.mk (HB1.out.grown hg2 HB1.out.size (fun k e => Kd.R_base HR1.out k e)); clear hr2 hg2) | (go_at_call 84; go_must (refine (compact_calls w2 w.heap.size _ v1 (sortP l0) HR2.out (by rw [HSL.out]; exact hl1) (by rw [HSL.out]; exact hsz)).mono ?_); rintro e w3 ⟨v3, rfl, hr3, hg3, ho3⟩; rw [HDS.out] at hr3; have HR3 := Aside0.mk hr3; have HB3 := Aside0.mk (HB2.out.grown hg3 HB2.out.size (fun k e => Kd.R_base HR2.out k e)); clear hr3 hg3 ho3; obtain ⟨A3, c3, e3⟩ := Kd.R_slice HR3.out; subst e3))
  go_ret
  exact ⟨_, rfl, by rw [HCS.out]; exact HR3.out, HB3.out⟩
 ·have h3I : ¬ ((so.length : Nat) : Int) < 3 := by omega
  rw [if_neg h3] at HCS
  go_enter Try.func64, Try.ntmps64
  go_wp2_with (first | (go_at_call 73; go_must (refine HC1.out.mono ?_); rintro e w1 ⟨v1, rfl, hr1, hb1⟩; have HR1 := Aside0.mk hr1; have HB1 := Aside0.mk hb1; clear hr1 hb1) | (go_at_call 74; go_must (refine (sort_calls w1 w.heap.size _ v1 l0 HR1.out (by omega)).mono ?_); rintro e w2 ⟨rfl, hr2, hg2⟩; have HR2 := Aside0.mk hr2; have HB2 := Aside0.mk (HB1.out.grown hg2 HB1.out.size (fun k e => Kd.R_base HR1.out k e)); clear hr2 hg2) | (go_at_call 84; go_must (refine (compact_calls w2 w.heap.size _ v1 (sortP l0) HR2.out (by rw [HSL.out]; exact hl1) (by rw [HSL.out]; exact hsz)).mono ?_); rintro e w3 ⟨v3, rfl, hr3, hg3, ho3⟩; rw [HDS.out] at hr3; have HR3 := Aside0.mk hr3; have HB3 := Aside0.mk (HB2.out.grown hg3 HB2.out.size (fun k e => Kd.R_base HR2.out k e)); clear hr3 hg3 ho3; obtain ⟨A3, c3, e3⟩ := Kd.R_slice HR3.out; subst e3) | (go_at_call 85; refine (chain_calls_n A3 so.length c3 so.reverse w5 (List.length_reverse) (Kd.R_reads' HR5.out).2.2 (by rw [List.length_reverse]; exact (Kd.R_reads' HR5.out).2.1) (allOk_rev HSO.out) (by rw [List.length_reverse]; omega)).mono ?_; rintro e w6 ⟨v6, rfl, hr6, hb6⟩; have HR6 := Aside0.mk hr6; have HR46 := Aside0.mk (Kd.R_below HR45.out hb6); have HB6 := Aside0.mk (below_step HB5.out hb6); clear hr6 hb6) | (go_at_call 85; go_must (refine (chain_calls A3 c3 so w3 (Kd.R_reads' HR3.out).2.2 (Kd.R_reads' HR3.out).2.1 HSO.out (by omega)).mono ?_); rintro e w4 ⟨v4, rfl, hr4, hb4⟩; have HS4 := Aside0.mk hb4.size; have HR4 := Aside0.mk (R31_ok (ok' := fun q => w3.heap.size ≤ q) hr4 (fun q e => Kd.R_base hr4 q e)); have HR34 := Aside0.mk (Kd.R_below HR3.out hb4); have HB4 := Aside0.mk (below_step HB3.out hb4); clear hr4 hb4) | (go_at_call 86; go_must (refine (reverse_calls w4 w.heap.size _ (.slice A3 so.length c3) so HR34.out (by omega)).mono ?_); rintro e w5 ⟨rfl, hr5, hg5⟩; have HR5 := Aside0.mk hr5; have HB5 := Aside0.mk (HB4.out.grown hg5 HB4.out.size (fun k e => Kd.R_base HR34.out k e)); have HR45 := Aside0.mk (Kd.R_grown HR4.out hg5 (fun q hq e => by have := Kd.R_lt HR3.out q e.symm; omega)); clear hr5 hg5))
  have hX1 := chainL_pos (l := so) (by omega)
  have hY1 := chainL_pos (l := so.reverse) (by rw [List.length_reverse]; omega)
  have hX2 := chainL_len so
  have hY2 := chainL_len so.reverse
  rw [List.length_reverse] at hY2
  generalize chainL so = X at *
  generalize chainL so.reverse = Y at *
  obtain ⟨g4, c4, rfl, _, _, _⟩ := Kd.R_form HR46.out (by omega)
  obtain ⟨g6, c6, rfl, _, _, _⟩ := Kd.R_form HR6.out (by omega)
  obtain ⟨x, hx⟩ : ∃ x, X.length = x + 1 := ⟨X.length - 1, by omega⟩
  obtain ⟨y, hy⟩ : ∃ y, Y.length = y + 1 := ⟨Y.length - 1, by omega⟩
  have hc4 := (Kd.R_reads' HR46.out).2.1
  have hc6 := (Kd.R_reads' HR6.out).2.1
  have hs1 : IntKind.i64.wrap (((X.length : Nat) : Int) - 1) = ((x : Nat) : Int) := by rw [IntWalk.i64_in _ (by omega)]; omega
  have hs2 : IntKind.i64.wrap (((Y.length : Nat) : Int) - 1) = ((y : Nat) : Int) := by rw [IntWalk.i64_in _ (by omega)]; omega
  have hxc : ((x : Nat) : Int) ≤ ((c4 : Nat) : Int) := by omega
  have hyc : ((y : Nat) : Int) ≤ ((c6 : Nat) : Int) := by omega
  have lx : (X.take x).length = x := by rw [List.length_take]; omega
  have ly : (Y.take y).length = y := by rw [List.length_take]; omega
  have HOX : Aside0 (w6.drew.ownsRow w.heap.size 31 2 (.slice (some ⟨g4, 0, none⟩) x c4) x (fl (X.take x))) := ⟨by
   have h1 := own_of_R31 (Kd.R_drew (Kd.R_lower (Kd.R_take (m := x) HR46.out (by omega)) HB3.out.size))
   rw [lx] at h1; exact h1⟩
  have HNY : Aside0 (∀ j u, (fl (Y.take y))[j]? = some u → w6.drew.cell? ((⟨g6, 0, none⟩ : Addr).add j) = some u) := ⟨fun j u hu => by
   have hu' : (fl Y)[j]? = some u := by
    rw [← List.take_append_drop y Y, fl_append, List.getElem?_append_left (List.getElem?_eq_some_iff.1 hu).1]
    exact hu
   exact (own_of_R31 HR6.out).cells (g := g6) (by simp [Value.ownBlock]) _ u hu'⟩
  have HXY : Aside0 (cs = X.take x ++ Y.take y) := ⟨by rw [HCS.out, List.dropLast_eq_take, List.dropLast_eq_take, hx, hy, Nat.add_sub_cancel, Nat.add_sub_cancel]⟩
  have HLX := Aside0.mk (show (X.take x ++ Y.take y).length = x + y by rw [List.length_append, lx, ly])
  have HLY := Aside0.mk ly
  have HBS := Aside0.mk (show w.heap.size ≤ w6.drew.heap.size from HB6.out.size)
  have hxy : x + y ≤ 8192 := by omega
  have HG4 := Aside0.mk (fun k (e : (Value.slice (some ⟨g4, 0, none⟩) x c4).ownBlock = some k) => Nat.le_trans HB3.out.size (Kd.R_base HR46.out k e))
  clear hx hy hc4 hc6 lx ly hX1 hX2 hY1 hY2
  go_region_law (refine step_append_own rfl (.tmp 26) (.tmp 31) 22 rfl w.heap.size 31 i0 (.agg #[.int .i64 0, .int .i64 0]) 2 16 Try.underlying22 HI0.out.1 HI0.out.2.1 HI0.out.2.2.1 HI0.out.2.2.2 rfl (by decide) (.slice (some ⟨g4, 0, none⟩) x c4) x (fl (X.take x)) (by simp [Act.eval, Act.put]) HOX.out ⟨g6, 0, none⟩ y c6 (fl (Y.take y)) (by simp [Act.eval, Act.put]) (by rw [fl_len, HLY.out]) HNY.out (fl_one _) (by unfold maxLen; omega) (by omega) HBS.out ?_; intro v7 w7 hown7 hgrow7 _)
  have hR7 : Kd.R k31 31 w7 w.heap.size (fun _ => True) v7 cs := by
   rw [HXY.out]
   exact R31_of_own (by rw [HLX.out, fl_append]; exact hown7) (fun _ _ => trivial)
  have hB7 : Below w.heap.size w w7 := (below_drew HB6.out).grown hgrow7 HB6.out.size HG4.out
  clear hown7 hgrow7
  go_wp2
  go_ret
  exact ⟨_, rfl, hR7, hB7⟩
theorem plane_corners.calls (A0 : Option Addr) (c0 : Nat) (l0 : List S31) (r : List S31) (w : World) (hr0 : Kd.C k31 w A0 l0.length l0) (hc0 : l0.length ≤ c0) (h : plane_corners.f l0 = some r) :
  Calls Try.prog 64 #[.slice A0 l0.length c0] w fun e w' => ∃ v0_ : Value, e = .returned (v0_) ∧ Kd.R k31 31 w' w.heap.size (fun _ => True) v0_ r ∧ Below w.heap.size w w' := by
 unfold plane_corners.f at h
 by_cases hs : 1 ≤ l0.length ∧ l0.length ≤ 4096 ∧ allOk l0 = true
 ·rw [if_pos hs] at h
  injection h with h
  subst h
  exact corners_calls A0 c0 l0 w hr0 hc0 hs.1 hs.2.1 hs.2.2
 ·rw [if_neg hs] at h
  exact absurd h (by simp)
end Go.Proofs.Ythaklbjcjoolcaa.P
namespace Go.Proofs.Ythaklbjcjoolcaa.P
open Go.RowKit YthaklbjcjoolcaaW.PrintWords YthaklbjcjoolcaaW.PrintLast YthaklbjcjoolcaaW.PrintMore
def sideW (a b : S31) (x y d : Int) : Int := wrap64 (wrap64 (wrap64 (b.f0 - a.f0) * wrap64 (y - wrap64 (a.f1 * d))) - wrap64 (wrap64 (b.f1 - a.f1) * wrap64 (x - wrap64 (a.f0 * d))))
set_option maxHeartbeats 2000000 in
set_option maxRecDepth 100000 in
theorem side_calls (a b : S31) (x y d : Int) (bx by_ bd : Nat) (W : World) (hx : W.cell? ⟨bx, 0, none⟩ = some (.int .i64 x)) (hy : W.cell? ⟨by_, 0, none⟩ = some (.int .i64 y)) (hd : W.cell? ⟨bd, 0, none⟩ = some (.int .i64 d)) :
  Calls Try.prog 95 #[.agg #[.int .i64 a.f0, .int .i64 a.f1], .agg #[.int .i64 b.f0, .int .i64 b.f1], .pointer (some ⟨by_, 0, none⟩), .pointer (some ⟨bd, 0, none⟩), .pointer (some ⟨bx, 0, none⟩)] W fun e w' => e = .returned (.int .i64 (sideW a b x y d)) ∧ Below W.heap.size W w' := by
 have HE : Aside0 (sideW a b x y d = wrap64 (wrap64 (wrap64 (b.f0 - a.f0) * wrap64 (y - wrap64 (a.f1 * d))) - wrap64 (wrap64 (b.f1 - a.f1) * wrap64 (x - wrap64 (a.f0 * d))))) := ⟨rfl⟩
 generalize sideW a b x y d = r at *
 have HB := Aside0.mk (below_alloc (below_alloc (Below.refl W.heap.size W) (Obj.cells #[.int .i64 a.f0, .int .i64 a.f1] 31)) (Obj.cells #[.int .i64 b.f0, .int .i64 b.f1] 31))
 have b1 := heap_alloc_new W (Obj.cells #[.int .i64 a.f0, .int .i64 a.f1] 31)
 have b2 := heap_alloc_new (W.alloc (Obj.cells #[.int .i64 a.f0, .int .i64 a.f1] 31)) (Obj.cells #[.int .i64 b.f0, .int .i64 b.f1] 31)
 have hx2 := ((HB.out).cell (p := ⟨bx, 0, none⟩) (World.block_lt_of_cell? W _ hx)).trans hx
 have hy2 := ((HB.out).cell (p := ⟨by_, 0, none⟩) (World.block_lt_of_cell? W _ hy)).trans hy
 have hd2 := ((HB.out).cell (p := ⟨bd, 0, none⟩) (World.block_lt_of_cell? W _ hd)).trans hd
 have b3 := blk_alloc b1 (Obj.cells #[.int .i64 b.f0, .int .i64 b.f1] 31)
 rw [World.size_alloc] at b2
 have c0 : ((W.alloc (Obj.cells #[.int .i64 a.f0, .int .i64 a.f1] 31)).alloc (Obj.cells #[.int .i64 b.f0, .int .i64 b.f1] 31)).cell? ⟨W.heap.size, 0, none⟩ = some (.int .i64 a.f0) := blk_cell b3 0
 have c1 : ((W.alloc (Obj.cells #[.int .i64 a.f0, .int .i64 a.f1] 31)).alloc (Obj.cells #[.int .i64 b.f0, .int .i64 b.f1] 31)).cell? ⟨W.heap.size, 1, none⟩ = some (.int .i64 a.f1) := blk_cell b3 1
 have c2 : ((W.alloc (Obj.cells #[.int .i64 a.f0, .int .i64 a.f1] 31)).alloc (Obj.cells #[.int .i64 b.f0, .int .i64 b.f1] 31)).cell? ⟨W.heap.size + 1, 0, none⟩ = some (.int .i64 b.f0) := blk_cell b2 0
 have c3 : ((W.alloc (Obj.cells #[.int .i64 a.f0, .int .i64 a.f1] 31)).alloc (Obj.cells #[.int .i64 b.f0, .int .i64 b.f1] 31)).cell? ⟨W.heap.size + 1, 1, none⟩ = some (.int .i64 b.f1) := blk_cell b2 1
 clear b1 b2 b3 hx hy hd
 go_enter Try.func95, Try.ntmps95
 go_wp2
 go_ret
 exact ⟨by rw [HE.out]; rfl, HB.out⟩
theorem tmod_next (k n : Nat) (hk : k < n) (hn : n ≤ 4096) : Int.tmod (wrap64 ((k : Int) + 1)) (n : Int) = (((k + 1) % n : Nat) : Int) := by
 rw [w64i (by omega) (by omega), Int.tmod_eq_emod_of_nonneg (by omega)]
 push_cast
 rfl
theorem edge_is (l : List S31) (k : Nat) (hk : k < l.length) (hn : l.length ≤ 4096) : plane_edge.f l (k : Int) = some ((pt l k).f0, (pt l k).f1, (pt l ((k + 1) % l.length)).f0, (pt l ((k + 1) % l.length)).f1) := by
 have hm := Nat.mod_lt (k + 1) (show 0 < l.length by omega)
 unfold plane_edge.f
 rw [tmod_next k _ hk hn, if_pos (by omega), if_pos (by omega), if_neg (by omega), if_pos (by omega), if_pos (by omega), rd_pt, rd_pt]
def holdsB (l : List S31) (x y d : Int) : Bool :=
 if l.length = 1 then decide (x = wrap64 ((pt l 0).f0 * d) ∧ y = wrap64 ((pt l 0).f1 * d))
 else if l.length = 2 then decide (sideW (pt l 0) (pt l 1) x y d = 0 ∧ (wrap64 (mn (pt l 0).f0 (pt l 1).f0 * d) ≤ x ∧ x ≤ wrap64 (mx (pt l 0).f0 (pt l 1).f0 * d)) ∧ (wrap64 (mn (pt l 0).f1 (pt l 1).f1 * d) ≤ y ∧ y ≤ wrap64 (mx (pt l 0).f1 (pt l 1).f1 * d)))
 else (List.range l.length).all fun i => decide (0 ≤ sideW (pt l i) (pt l ((i + 1) % l.length)) x y d)
def plane_holds.f (l0 : List S31) (a1 a2 a3 : Int) : Option Bool := if l0.length ≤ 4096 then some (holdsB l0 a1 a2 a3) else none
structure HBox (W : World) (b : Nat) (x y d : Int) : Prop where
 bx : W.heap[b]? = some (.cells #[.int .i64 x] 3 (0, 0))
 by_ : W.heap[b + 1]? = some (.cells #[.int .i64 y] 3 (0, 0))
 bd : W.heap[b + 2]? = some (.cells #[.int .i64 d] 3 (0, 0))
theorem HBox.start (w : World) (x y d : Int) : HBox (((w.alloc (Obj.cells #[.int .i64 x] 3)).alloc (Obj.cells #[.int .i64 y] 3)).alloc (Obj.cells #[.int .i64 d] 3)) w.heap.size x y d := by
 have b1 := heap_alloc_new w (Obj.cells #[.int .i64 x] 3)
 have b2 := heap_alloc_new (w.alloc (Obj.cells #[.int .i64 x] 3)) (Obj.cells #[.int .i64 y] 3)
 have b3 := heap_alloc_new ((w.alloc (Obj.cells #[.int .i64 x] 3)).alloc (Obj.cells #[.int .i64 y] 3)) (Obj.cells #[.int .i64 d] 3)
 rw [World.size_alloc] at b2
 rw [World.size_alloc, World.size_alloc] at b3
 exact ⟨blk_alloc (blk_alloc b1 _) _, blk_alloc b2 _, b3⟩
theorem HBox.below {W W' : World} {b : Nat} {x y d : Int} (h : HBox W b x y d) (hb : Below W.heap.size W W') : HBox W' b x y d := ⟨blk_below h.bx hb, blk_below h.by_ hb, blk_below h.bd hb⟩
theorem HBox.side {W : World} {n : Nat} {x y d : Int} (h : HBox W n x y d) (a b : S31) :
  Calls Try.prog 95 #[.agg #[.int .i64 a.f0, .int .i64 a.f1], .agg #[.int .i64 b.f0, .int .i64 b.f1], .pointer (some ⟨n + 1, 0, none⟩), .pointer (some ⟨n + 1 + 1, 0, none⟩), .pointer (some ⟨n, 0, none⟩)] W fun e w' => e = .returned (.int .i64 (sideW a b x y d)) ∧ Below W.heap.size W w' :=
 side_calls a b x y d n (n + 1) (n + 2) W (blk_cell h.bx 0) (blk_cell h.by_ 0) (blk_cell h.bd 0)
attribute [local go_sem] max2_int min2_int max_two min_two
set_option maxHeartbeats 4000000 in
set_option maxRecDepth 100000 in
theorem holds_one (A0 : Option Addr) (c0 : Nat) (l0 : List S31) (x y d : Int) (w : World) (hr0 : Kd.C k31 w A0 l0.length l0) (hl : l0.length = 1) :
  Calls Try.prog 88 #[.slice A0 l0.length c0, .int .i64 x, .int .i64 y, .int .i64 d] w fun e w' => e = .returned (.bool (holdsB l0 x y d)) ∧ Below w.heap.size w w' := by
 have HB := Aside0.mk (below_alloc (below_alloc (below_alloc (Below.refl w.heap.size w) (Obj.cells #[.int .i64 x] 3)) (Obj.cells #[.int .i64 y] 3)) (Obj.cells #[.int .i64 d] 3))
 have HX := HBox.start w x y d
 obtain ⟨ad, rfl, hx0, hx1⟩ := at_T31 (Kd.C_below hr0 HB.out) (0 : Int) (by omega) (by omega)
 have HE : Aside0 (holdsB l0 x y d = decide (x = wrap64 ((pt l0 0).f0 * d) ∧ y = wrap64 ((pt l0 0).f1 * d))) := ⟨by unfold holdsB; rw [if_pos hl]⟩
 rw [show rd_T31 l0 0 = pt l0 0 from rfl] at hx0 hx1
 have bx := blk_cell HX.bx 0
 have bd := blk_cell HX.bd 0
 have hb := blk_cell HX.by_ 0
 have h1B : (((l0.length : Nat) : Int) == 1) = true := by rw [beq_iff_eq]; omega
 have hlI : (0 : Int) < ((l0.length : Nat) : Int) := by omega
 generalize holdsB l0 x y d = r at *
 generalize pt l0 0 = p at *
 clear hr0 hl HX
 simp only [Addr.add_zero', Int.toNat_zero, Nat.zero_mul] at hx0 hx1
 by_cases hq : x = wrap64 (p.f0 * d)
 ·have hqB : (x == wrap64 (p.f0 * d)) = true := by rw [beq_iff_eq]; exact hq
  have HR : Aside0 (r = (y == wrap64 (p.f1 * d))) := ⟨by rw [HE.out, Bool.eq_iff_iff]; simp [hq]⟩
  clear hq
  go_enter Try.func88, Try.ntmps88
  go_wp2
  go_quiet (fail)
  go_wp2
  go_ret
  exact ⟨by rw [HR.out]; rfl, pw_below_drewN HB.out _⟩
 ·have hqB : (x == wrap64 (p.f0 * d)) = false := by rw [beq_eq_false_iff_ne]; exact hq
  have HR : Aside0 (r = false) := ⟨by rw [HE.out, decide_eq_false_iff_not]; exact fun h => hq h.1⟩
  clear hq
  go_enter Try.func88, Try.ntmps88
  go_wp2
  go_quiet (fail)
  go_wp2
  go_ret
  exact ⟨by rw [HR.out]; rfl, pw_below_drewN HB.out _⟩
end Go.Proofs.Ythaklbjcjoolcaa.P
namespace Go.Proofs.Ythaklbjcjoolcaa.P
open Go.RowKit YthaklbjcjoolcaaW.PrintWords YthaklbjcjoolcaaW.PrintLast YthaklbjcjoolcaaW.PrintMore
attribute [local go_sem] max2_int min2_int max_two min_two max_three min_three max_four min_four
def holdsR.T6 : Bool × List (List Nat × List Nat) := (true, [([], []), ([], []), ([1], [1]), ([2], [2]), ([], []), ([4], [4]), ([5], [5]), ([0, 3, 6], [0, 3, 6]), ([7], [7]), ([8, 7], [8]), ([9], [9]), ([9], [9]), ([11, 9], [9, 11]), ([12, 9], [9, 12]), ([13, 9], [9, 13]), ([9], [9]), ([15, 9], [9, 15]), ([16, 9], [9, 16]), ([17, 9], [9, 17]), ([14, 18, 9], [9, 14, 18]), ([9], [9]), ([19, 20, 9], [9, 19, 20]), ([9], [9]), ([22, 9], [9, 22]), ([23, 9], [9, 23]), ([24, 9], [9, 24]), ([9], [9]), ([26, 9], [9, 26]), ([27, 9], [9, 27]), ([28, 9], [9, 28]), ([25, 29, 9], [9, 25, 29]), ([9], [9]), ([30, 31, 9], [9, 30, 31]), ([10, 21, 32, 9, 9], [9, 10, 21, 32]), ([9, 33], [9, 33]), ([34, 33], [34]), ([35], [35]), ([35], [35]), ([37, 35], [35, 37]), ([38, 35], [35, 38]), ([39, 35], [35, 39]), ([35], [35]), ([41, 35], [35, 41]), ([42, 35], [35, 42]), ([43, 35], [35, 43]), ([40, 44, 35], [35, 40, 44]), ([35], [35]), ([45, 46, 35], [35, 45, 46]), ([35], [35]), ([48, 35], [35, 48]), ([49, 35], [35, 49]), ([50, 35], [35, 50]), ([35], [35]), ([52, 35], [35, 52]), ([53, 35], [35, 53]), ([54, 35], [35, 54]), ([51, 55, 35], [35, 51, 55]), ([35], [35]), ([56, 57, 35], [35, 56, 57]), ([36, 47, 58, 35, 35], [35, 36, 47, 58]), ([35, 59], [35, 59]), ([60, 59, 0, 1, 2, 3, 4, 5, 6, 7, 8, 9, 10, 11, 12, 13, 14, 15, 16, 17, 18, 19, 20, 21, 22, 23, 24, 25, 26, 27, 28, 29, 30, 31, 32, 33, 34, 35, 36, 37, 38, 39, 40, 41, 42, 43, 44, 45, 46, 47, 48, 49, 50, 51, 52, 53, 54, 55, 56, 57, 58, 59, 60], [60])])
def holdsR.B6 : List Nat := [0, 0, 2, 6, 0, 16, 48, 127, 255, 511, 1023, 1023, 3071, 7167, 15359, 1023, 33791, 99327, 230399, 523263, 1023, 2096127, 1023, 4195327, 12583935, 29361151, 1023, 67109887, 201327615, 469763071, 1069548543, 1023, 4290774015, 8589934591, 17179869183, 34359738367, 68719476735, 68719476735, 206158430207, 481036337151, 1030792151039, 68719476735, 2267742732287, 6665789243391, 15461882265599, 35115652612095, 68719476735, 140668768878591, 68719476735, 281543696187391, 844493649608703, 1970393556451327, 68719476735, 4503668346847231, 13510867601588223, 31525266111070207, 71776187780694015, 68719476735, 287948969894477823, 576460752303423487, 1152921504606846975, 2305843009213693951]
theorem holdsR.tab6 : rtab .any (opsOf Try.f88 6) = holdsR.T6 := by kernel_rfl
theorem holdsR.bits6 : waitsOk holdsR.T6.2 holdsR.B6 = true := by kernel_rfl
set_option maxHeartbeats 4000000 in
set_option maxRecDepth 100000 in
theorem holds_two (A0 : Option Addr) (c0 : Nat) (l0 : List S31) (x y d : Int) (w : World) (hr0 : Kd.C k31 w A0 l0.length l0) (hl : l0.length = 2) :
  Calls Try.prog 88 #[.slice A0 l0.length c0, .int .i64 x, .int .i64 y, .int .i64 d] w fun e w' => e = .returned (.bool (holdsB l0 x y d)) ∧ Below w.heap.size w w' := by
 have HB := Aside0.mk (lA (lA (lA (Below.refl w.heap.size w) (Obj.cells #[.int .i64 x] 3)) (Obj.cells #[.int .i64 y] 3)) (Obj.cells #[.int .i64 d] 3))
 have HX := Aside0.mk (HBox.start w x y d)
 have HC := Aside0.mk (Kd.C_below hr0 HB.out)
 have HE : Aside0 (holdsB l0 x y d = decide (sideW (pt l0 0) (pt l0 1) x y d = 0 ∧ (wrap64 (mn (pt l0 0).f0 (pt l0 1).f0 * d) ≤ x ∧ x ≤ wrap64 (mx (pt l0 0).f0 (pt l0 1).f0 * d)) ∧ (wrap64 (mn (pt l0 0).f1 (pt l0 1).f1 * d) ≤ y ∧ y ≤ wrap64 (mx (pt l0 0).f1 (pt l0 1).f1 * d)))) := ⟨by unfold holdsB; rw [if_neg (by omega), if_pos hl]⟩
 have h1B : (((l0.length : Nat) : Int) == 1) = false := by rw [beq_eq_false_iff_ne]; omega
 have h2B : (((l0.length : Nat) : Int) == 2) = true := by rw [beq_iff_eq]; omega
 have hlI : (0 : Int) < ((l0.length : Nat) : Int) := by omega
 have hlI1 : (1 : Int) < ((l0.length : Nat) : Int) := by omega
 have hln0 : 0 < l0.length := by omega
 have hln1 : 1 < l0.length := by omega
 obtain ⟨ad, rfl, hx0, hx1⟩ := at_T31 HC.out (0 : Int) (by omega) (by omega)
 obtain ⟨ad', e, hy0, hy1⟩ := at_T31 HC.out (1 : Int) (by omega) (by omega)
 cases e
 rw [show rd_T31 l0 0 = pt l0 0 from rfl] at hx0 hx1
 rw [show rd_T31 l0 1 = pt l0 1 from rfl, show (1 : Int).toNat * 2 = 2 from rfl] at hy0 hy1
 simp only [Addr.add_zero', Int.toNat_zero, Nat.zero_mul] at hx0 hx1
 have hsp := World.cell?_spot hx0
 obtain ⟨g, o, sp⟩ := ad
 simp only at hsp
 subst hsp
 simp only [Addr.add_lit] at hy0 hy1 hx1
 have HW := Aside0.mk within_is
 generalize holdsB l0 x y d = r at *
 generalize pt l0 0 = p at *
 generalize pt l0 1 = q at *
 clear hr0 hl
 go_enter Try.func88, Try.ntmps88
 go_wp2
 generalize ((w.alloc (Obj.cells #[Value.int IntKind.i64 x] 3)).alloc (Obj.cells #[Value.int IntKind.i64 y] 3)).alloc (Obj.cells #[Value.int IntKind.i64 d] 3) = W at *
 have HP := Aside0.mk hx0
 have bx := blk_cell HX.out.bx 0
 have bd := blk_cell HX.out.bd 0
 have hb := blk_cell HX.out.by_ 0
 have eg95 : ∀ args w, (callFunc 95 args).run Try.prog w = .ok (.enter 95 args) w := enters_of Try.func95 (by kernel_rfl) rfl
 have HSD := Aside0.mk ((HX.out.below (below_drew (Below.refl _ _))).side p q)
 have HW0 := Aside0.mk (within_is x (wrap64 ((if q.f0 < p.f0 then q.f0 else p.f0) * d)) (wrap64 ((if p.f0 < q.f0 then q.f0 else p.f0) * d)))
 have HW1 := Aside0.mk (within_is y (wrap64 ((if q.f1 < p.f1 then q.f1 else p.f1) * d)) (wrap64 ((if p.f1 < q.f1 then q.f1 else p.f1) * d)))
 generalize sideW p q x y d = sd at *
 by_cases hs0 : sd = 0
 ·have hsB : (sd == 0) = true := by rw [beq_iff_eq]; exact hs0
  clear hs0
  by_cases hw0 : decide (wrap64 ((if q.f0 < p.f0 then q.f0 else p.f0) * d) ≤ x ∧ x ≤ wrap64 ((if p.f0 < q.f0 then q.f0 else p.f0) * d)) = true
  ·have HR : Aside0 (r = decide (wrap64 ((if q.f1 < p.f1 then q.f1 else p.f1) * d) ≤ y ∧ y ≤ wrap64 ((if p.f1 < q.f1 then q.f1 else p.f1) * d))) := ⟨by rw [HE.out, Bool.eq_iff_iff]; simp only [decide_eq_true_eq] at hw0 ⊢; exact ⟨fun h => h.2.2, fun h => ⟨by simpa using hsB, hw0, h⟩⟩⟩
   rw [hw0] at HW0
   clear hw0
   generalize decide (wrap64 ((if q.f1 < p.f1 then q.f1 else p.f1) * d) ≤ y ∧ y ≤ wrap64 ((if p.f1 < q.f1 then q.f1 else p.f1) * d)) = t at *
   refine start_ (n := 62) (S := fun w' => w'.cell? ⟨g, o, none⟩ = some (.int .i64 p.f0) ∧ w'.cell? ⟨g, o + 1, none⟩ = some (.int .i64 p.f1) ∧ w'.cell? ⟨g, o + 2, none⟩ = some (.int .i64 q.f0) ∧ w'.cell? ⟨g, o + 3, none⟩ = some (.int .i64 q.f1) ∧ w'.cell? ⟨w.heap.size, 0, none⟩ = some (.int .i64 x) ∧ w'.cell? ⟨w.heap.size + 1, 0, none⟩ = some (.int .i64 y) ∧ w'.cell? ⟨w.heap.size + 1 + 1, 0, none⟩ = some (.int .i64 d)) (ds := []) (Bs 0 62) (by kernel_rfl) rfl rfl ⟨hx0, hx1, hy0, hy1, bx, hb, bd⟩ (fun hHeld => ?_)
   refine with_tabW holdsR.tab6 holdsR.bits6 (fun HT_ HW_ => ?_)
   refine pu 0 37 (Bs 1 62) HT_ ?_
   refine pu 1 38 (Bs 2 62) HT_ ?_
   refine pu 2 39 (Bs 3 62) HT_ ?_
   refine pu 4 41 (Br [3,1,1,57]) HT_ ?_
   refine pu 5 42 (Br [3,1,2,56]) HT_ ?_
   refine ta 3 40 (Bs 6 62) HT_ HW_ hHeld ?_
   refine ta 6 43 (Bs 7 62) HT_ HW_ hHeld ?_
   refine one_ (i := 7) (N := some 44) (Bs 8 62) rfl rfl (one_of HT_.out (by kernel_rfl)) (by decide) (fun K hK => ?_)
   refine call_ 95 #[.agg #[.int .i64 p.f0, .int .i64 p.f1], .agg #[.int .i64 q.f0, .int .i64 q.f1], .pointer (some ⟨w.heap.size + 1, 0, none⟩), .pointer (some ⟨w.heap.size + 1 + 1, 0, none⟩), .pointer (some ⟨w.heap.size, 0, none⟩)] (by rfl) rfl (by first | (go_simp; done) | (go_simp; exact eg95 _ _)) ?_
   with_reducible refine HSD.out.mono ?_
   rintro e w1 ⟨rfl, hb1⟩
   refine ⟨_, rfl, ?_⟩
   have HB1 := Aside0.mk (below_step (below_drew HB.out) hb1)
   refine hK.out _ _ ⟨(hb1.cell (World.block_lt_of_cell? _ _ hx0)).trans hx0, (hb1.cell (World.block_lt_of_cell? _ _ hx1)).trans hx1, (hb1.cell (World.block_lt_of_cell? _ _ hy0)).trans hy0, (hb1.cell (World.block_lt_of_cell? _ _ hy1)).trans hy1, (hb1.cell (World.block_lt_of_cell? _ _ bx)).trans bx, (hb1.cell (World.block_lt_of_cell? _ _ hb)).trans hb, (hb1.cell (World.block_lt_of_cell? _ _ bd)).trans bd⟩ (fun hHeld => ?_)
   clear hK K
   refine nm 44 ?_
   refine pu 8 45 (Bs 9 62) HT_ ?_
   refine pu 9 46 (Bs 10 62) HT_ ?_
   refine pu 11 48 (Br [10,1,1,50]) HT_ ?_
   refine pu 12 49 (Br [10,1,2,49]) HT_ ?_
   refine pu 13 50 (Br [10,1,3,48]) HT_ ?_
   refine pu 15 52 (Br [10,1,3,1,1,46]) HT_ ?_
   refine pu 16 53 (Br [10,1,3,1,2,45]) HT_ ?_
   refine pu 17 54 (Br [10,1,3,1,3,44]) HT_ ?_
   refine pu 22 59 (Br [10,1,3,1,3,4,1,39]) HT_ ?_
   refine pu 23 60 (Br [10,1,3,1,3,4,2,38]) HT_ ?_
   refine pu 24 61 (Br [10,1,3,1,3,4,3,37]) HT_ ?_
   refine pu 26 63 (Br [10,1,3,1,3,4,3,1,1,35]) HT_ ?_
   refine pu 27 64 (Br [10,1,3,1,3,4,3,1,2,34]) HT_ ?_
   refine pu 28 65 (Br [10,1,3,1,3,4,3,1,3,33]) HT_ ?_
   refine ta 10 47 (Br [14,1,3,4,3,1,3,33]) HT_ HW_ hHeld ?_
   refine ta 14 51 (Br [18,4,3,1,3,33]) HT_ HW_ hHeld ?_
   refine ta 18 55 (Br [19,3,3,1,3,33]) HT_ HW_ hHeld ?_
   refine pu 19 56 (Br [20,2,3,1,3,33]) HT_ ?_
   refine ta 20 57 (Br [21,1,3,1,3,33]) HT_ HW_ hHeld ?_
   refine pu 21 58 (Br [25,1,3,33]) HT_ ?_
   refine ta 25 62 (Bs 29 62) HT_ HW_ hHeld ?_
   refine ta 29 66 (Bs 30 62) HT_ HW_ hHeld ?_
   refine pu 30 67 (Bs 31 62) HT_ ?_
   refine ta 31 68 (Bs 32 62) HT_ HW_ hHeld ?_
   refine pu 32 69 (Bs 33 62) HT_ ?_
   refine one_ (i := 33) (N := some 70) (Bs 34 62) rfl rfl (one_of HT_.out (by kernel_rfl)) (by decide) (fun K hK => ?_)
   refine goes_ Try.func77 (by kernel_rfl) rfl #[.int .i64 x, .int .i64 (wrap64 ((if q.f0 < p.f0 then q.f0 else p.f0) * d)), .int .i64 (wrap64 ((if p.f0 < q.f0 then q.f0 else p.f0) * d))] (by rfl) rfl rfl (by simp only [List.map_toArray, List.map_cons, List.map_nil]; rfl) ?_
   with_reducible refine (plane_within.calls _ _ _ _ _ HW0.out).mono ?_
   rintro e w' ⟨rfl, ⟨nd, rfl⟩⟩
   refine ⟨_, rfl, ?_⟩
   refine hK.out _ _ ⟨hHeld.1, hHeld.2.1, hHeld.2.2.1, hHeld.2.2.2.1, hHeld.2.2.2.2.1, hHeld.2.2.2.2.2.1, hHeld.2.2.2.2.2.2⟩ (fun hHeld => ?_)
   clear hK K
   refine nm 70 ?_
   refine pu 34 71 (Bs 35 62) HT_ ?_
   refine pu 35 72 (Bs 36 62) HT_ ?_
   refine pu 37 74 (Br [36,1,1,24]) HT_ ?_
   refine pu 38 75 (Br [36,1,2,23]) HT_ ?_
   refine pu 39 76 (Br [36,1,3,22]) HT_ ?_
   refine pu 41 78 (Br [36,1,3,1,1,20]) HT_ ?_
   refine pu 42 79 (Br [36,1,3,1,2,19]) HT_ ?_
   refine pu 43 80 (Br [36,1,3,1,3,18]) HT_ ?_
   refine pu 48 85 (Br [36,1,3,1,3,4,1,13]) HT_ ?_
   refine pu 49 86 (Br [36,1,3,1,3,4,2,12]) HT_ ?_
   refine pu 50 87 (Br [36,1,3,1,3,4,3,11]) HT_ ?_
   refine pu 52 89 (Br [36,1,3,1,3,4,3,1,1,9]) HT_ ?_
   refine pu 53 90 (Br [36,1,3,1,3,4,3,1,2,8]) HT_ ?_
   refine pu 54 91 (Br [36,1,3,1,3,4,3,1,3,7]) HT_ ?_
   refine ta 36 73 (Br [40,1,3,4,3,1,3,7]) HT_ HW_ hHeld ?_
   refine ta 40 77 (Br [44,4,3,1,3,7]) HT_ HW_ hHeld ?_
   refine ta 44 81 (Br [45,3,3,1,3,7]) HT_ HW_ hHeld ?_
   refine pu 45 82 (Br [46,2,3,1,3,7]) HT_ ?_
   refine ta 46 83 (Br [47,1,3,1,3,7]) HT_ HW_ hHeld ?_
   refine pu 47 84 (Br [51,1,3,7]) HT_ ?_
   refine ta 51 88 (Bs 55 62) HT_ HW_ hHeld ?_
   refine ta 55 92 (Bs 56 62) HT_ HW_ hHeld ?_
   refine pu 56 93 (Bs 57 62) HT_ ?_
   refine ta 57 94 (Bs 58 62) HT_ HW_ hHeld ?_
   refine pu 58 95 (Bs 59 62) HT_ ?_
   refine one_ (i := 59) (N := some 96) (Bs 60 62) rfl rfl (one_of HT_.out (by kernel_rfl)) (by decide) (fun K hK => ?_)
   refine goes_ Try.func77 (by kernel_rfl) rfl #[.int .i64 y, .int .i64 (wrap64 ((if q.f1 < p.f1 then q.f1 else p.f1) * d)), .int .i64 (wrap64 ((if p.f1 < q.f1 then q.f1 else p.f1) * d))] (by rfl) rfl rfl (by simp only [List.map_toArray, List.map_cons, List.map_nil]; rfl) ?_
   with_reducible refine (plane_within.calls _ _ _ _ _ HW1.out).mono ?_
   rintro e w' ⟨rfl, ⟨nd, rfl⟩⟩
   refine ⟨_, rfl, ?_⟩
   refine hK.out _ _ ⟨hHeld.1, hHeld.2.1, hHeld.2.2.1, hHeld.2.2.2.1, hHeld.2.2.2.2.1, hHeld.2.2.2.2.2.1, hHeld.2.2.2.2.2.2⟩ (fun hHeld => ?_)
   clear hK K
   refine nm 96 ?_
   refine pu 60 97 (Bs 61 62) HT_ ?_
   refine pu 61 8 (Bs 62 62) HT_ ?_
   refine done_ (done_of HT_.out (by kernel_rfl)) ?_
   try go_wp2
   all_goals (go_ret; exact ⟨by rw [HR.out]; rfl, by repeat (first | exact HB1.out | apply lN)⟩)
  ·have HR : Aside0 (r = false) := ⟨by rw [HE.out, decide_eq_false_iff_not]; simp only [decide_eq_true_eq] at hw0; exact fun h => hw0 h.2.1⟩
   rw [Bool.not_eq_true] at hw0
   rw [hw0] at HW0
   clear hw0
   refine start_ (n := 62) (S := fun w' => w'.cell? ⟨g, o, none⟩ = some (.int .i64 p.f0) ∧ w'.cell? ⟨g, o + 1, none⟩ = some (.int .i64 p.f1) ∧ w'.cell? ⟨g, o + 2, none⟩ = some (.int .i64 q.f0) ∧ w'.cell? ⟨g, o + 3, none⟩ = some (.int .i64 q.f1) ∧ w'.cell? ⟨w.heap.size, 0, none⟩ = some (.int .i64 x) ∧ w'.cell? ⟨w.heap.size + 1, 0, none⟩ = some (.int .i64 y) ∧ w'.cell? ⟨w.heap.size + 1 + 1, 0, none⟩ = some (.int .i64 d)) (ds := []) (Bs 0 62) (by kernel_rfl) rfl rfl ⟨hx0, hx1, hy0, hy1, bx, hb, bd⟩ (fun hHeld => ?_)
   refine with_tabW holdsR.tab6 holdsR.bits6 (fun HT_ HW_ => ?_)
   refine pu 0 37 (Bs 1 62) HT_ ?_
   refine pu 1 38 (Bs 2 62) HT_ ?_
   refine pu 2 39 (Bs 3 62) HT_ ?_
   refine pu 4 41 (Br [3,1,1,57]) HT_ ?_
   refine pu 5 42 (Br [3,1,2,56]) HT_ ?_
   refine ta 3 40 (Bs 6 62) HT_ HW_ hHeld ?_
   refine ta 6 43 (Bs 7 62) HT_ HW_ hHeld ?_
   refine one_ (i := 7) (N := some 44) (Bs 8 62) rfl rfl (one_of HT_.out (by kernel_rfl)) (by decide) (fun K hK => ?_)
   refine call_ 95 #[.agg #[.int .i64 p.f0, .int .i64 p.f1], .agg #[.int .i64 q.f0, .int .i64 q.f1], .pointer (some ⟨w.heap.size + 1, 0, none⟩), .pointer (some ⟨w.heap.size + 1 + 1, 0, none⟩), .pointer (some ⟨w.heap.size, 0, none⟩)] (by rfl) rfl (by first | (go_simp; done) | (go_simp; exact eg95 _ _)) ?_
   with_reducible refine HSD.out.mono ?_
   rintro e w1 ⟨rfl, hb1⟩
   refine ⟨_, rfl, ?_⟩
   have HB1 := Aside0.mk (below_step (below_drew HB.out) hb1)
   refine hK.out _ _ ⟨(hb1.cell (World.block_lt_of_cell? _ _ hx0)).trans hx0, (hb1.cell (World.block_lt_of_cell? _ _ hx1)).trans hx1, (hb1.cell (World.block_lt_of_cell? _ _ hy0)).trans hy0, (hb1.cell (World.block_lt_of_cell? _ _ hy1)).trans hy1, (hb1.cell (World.block_lt_of_cell? _ _ bx)).trans bx, (hb1.cell (World.block_lt_of_cell? _ _ hb)).trans hb, (hb1.cell (World.block_lt_of_cell? _ _ bd)).trans bd⟩ (fun hHeld => ?_)
   clear hK K
   refine nm 44 ?_
   refine pu 8 45 (Bs 9 62) HT_ ?_
   refine pu 9 46 (Bs 10 62) HT_ ?_
   refine pu 11 48 (Br [10,1,1,50]) HT_ ?_
   refine pu 12 49 (Br [10,1,2,49]) HT_ ?_
   refine pu 13 50 (Br [10,1,3,48]) HT_ ?_
   refine pu 15 52 (Br [10,1,3,1,1,46]) HT_ ?_
   refine pu 16 53 (Br [10,1,3,1,2,45]) HT_ ?_
   refine pu 17 54 (Br [10,1,3,1,3,44]) HT_ ?_
   refine pu 22 59 (Br [10,1,3,1,3,4,1,39]) HT_ ?_
   refine pu 23 60 (Br [10,1,3,1,3,4,2,38]) HT_ ?_
   refine pu 24 61 (Br [10,1,3,1,3,4,3,37]) HT_ ?_
   refine pu 26 63 (Br [10,1,3,1,3,4,3,1,1,35]) HT_ ?_
   refine pu 27 64 (Br [10,1,3,1,3,4,3,1,2,34]) HT_ ?_
   refine pu 28 65 (Br [10,1,3,1,3,4,3,1,3,33]) HT_ ?_
   refine ta 10 47 (Br [14,1,3,4,3,1,3,33]) HT_ HW_ hHeld ?_
   refine ta 14 51 (Br [18,4,3,1,3,33]) HT_ HW_ hHeld ?_
   refine ta 18 55 (Br [19,3,3,1,3,33]) HT_ HW_ hHeld ?_
   refine pu 19 56 (Br [20,2,3,1,3,33]) HT_ ?_
   refine ta 20 57 (Br [21,1,3,1,3,33]) HT_ HW_ hHeld ?_
   refine pu 21 58 (Br [25,1,3,33]) HT_ ?_
   refine ta 25 62 (Bs 29 62) HT_ HW_ hHeld ?_
   refine ta 29 66 (Bs 30 62) HT_ HW_ hHeld ?_
   refine pu 30 67 (Bs 31 62) HT_ ?_
   refine ta 31 68 (Bs 32 62) HT_ HW_ hHeld ?_
   refine pu 32 69 (Bs 33 62) HT_ ?_
   refine one_ (i := 33) (N := some 70) (Bs 34 62) rfl rfl (one_of HT_.out (by kernel_rfl)) (by decide) (fun K hK => ?_)
   refine goes_ Try.func77 (by kernel_rfl) rfl #[.int .i64 x, .int .i64 (wrap64 ((if q.f0 < p.f0 then q.f0 else p.f0) * d)), .int .i64 (wrap64 ((if p.f0 < q.f0 then q.f0 else p.f0) * d))] (by rfl) rfl rfl (by simp only [List.map_toArray, List.map_cons, List.map_nil]; rfl) ?_
   with_reducible refine (plane_within.calls _ _ _ _ _ HW0.out).mono ?_
   rintro e w' ⟨rfl, ⟨nd, rfl⟩⟩
   refine ⟨_, rfl, ?_⟩
   refine hK.out _ _ ⟨hHeld.1, hHeld.2.1, hHeld.2.2.1, hHeld.2.2.2.1, hHeld.2.2.2.2.1, hHeld.2.2.2.2.2.1, hHeld.2.2.2.2.2.2⟩ (fun hHeld => ?_)
   clear hK K
   refine nm 70 ?_
   refine pu 34 71 (Bs 35 62) HT_ ?_
   refine pu 35 72 (Bs 36 62) HT_ ?_
   refine po 36 73 (Bs 37 62) HT_ ?_
   refine po 37 74 (Bs 38 62) HT_ ?_
   refine po 38 75 (Bs 39 62) HT_ ?_
   refine po 39 76 (Bs 40 62) HT_ ?_
   refine po 40 77 (Bs 41 62) HT_ ?_
   refine po 41 78 (Bs 42 62) HT_ ?_
   refine po 42 79 (Bs 43 62) HT_ ?_
   refine po 43 80 (Bs 44 62) HT_ ?_
   refine po 44 81 (Bs 45 62) HT_ ?_
   refine po 45 82 (Bs 46 62) HT_ ?_
   refine po 46 83 (Bs 47 62) HT_ ?_
   refine po 47 84 (Bs 48 62) HT_ ?_
   refine po 48 85 (Bs 49 62) HT_ ?_
   refine po 49 86 (Bs 50 62) HT_ ?_
   refine po 50 87 (Bs 51 62) HT_ ?_
   refine po 51 88 (Bs 52 62) HT_ ?_
   refine po 52 89 (Bs 53 62) HT_ ?_
   refine po 53 90 (Bs 54 62) HT_ ?_
   refine po 54 91 (Bs 55 62) HT_ ?_
   refine po 55 92 (Bs 56 62) HT_ ?_
   refine po 56 93 (Bs 57 62) HT_ ?_
   refine po 57 94 (Bs 58 62) HT_ ?_
   refine po 58 95 (Bs 59 62) HT_ ?_
   refine po 59 96 (Bs 60 62) HT_ ?_
   refine pu 60 97 (Bs 61 62) HT_ ?_
   refine pu 61 8 (Bs 62 62) HT_ ?_
   refine done_ (done_of HT_.out (by kernel_rfl)) ?_
   try go_wp2
   all_goals (go_ret; exact ⟨by rw [HR.out]; rfl, by repeat (first | exact HB1.out | apply lN)⟩)
 ·have hsB : (sd == 0) = false := by rw [beq_eq_false_iff_ne]; exact hs0
  have HR : Aside0 (r = false) := ⟨by rw [HE.out, decide_eq_false_iff_not]; exact fun h => hs0 h.1⟩
  clear hs0
  refine start_ (n := 62) (S := fun w' => w'.cell? ⟨g, o, none⟩ = some (.int .i64 p.f0) ∧ w'.cell? ⟨g, o + 1, none⟩ = some (.int .i64 p.f1) ∧ w'.cell? ⟨g, o + 2, none⟩ = some (.int .i64 q.f0) ∧ w'.cell? ⟨g, o + 3, none⟩ = some (.int .i64 q.f1) ∧ w'.cell? ⟨w.heap.size, 0, none⟩ = some (.int .i64 x) ∧ w'.cell? ⟨w.heap.size + 1, 0, none⟩ = some (.int .i64 y) ∧ w'.cell? ⟨w.heap.size + 1 + 1, 0, none⟩ = some (.int .i64 d)) (ds := []) (Bs 0 62) (by kernel_rfl) rfl rfl ⟨hx0, hx1, hy0, hy1, bx, hb, bd⟩ (fun hHeld => ?_)
  refine with_tabW holdsR.tab6 holdsR.bits6 (fun HT_ HW_ => ?_)
  refine pu 0 37 (Bs 1 62) HT_ ?_
  refine pu 1 38 (Bs 2 62) HT_ ?_
  refine pu 2 39 (Bs 3 62) HT_ ?_
  refine pu 4 41 (Br [3,1,1,57]) HT_ ?_
  refine pu 5 42 (Br [3,1,2,56]) HT_ ?_
  refine ta 3 40 (Bs 6 62) HT_ HW_ hHeld ?_
  refine ta 6 43 (Bs 7 62) HT_ HW_ hHeld ?_
  refine one_ (i := 7) (N := some 44) (Bs 8 62) rfl rfl (one_of HT_.out (by kernel_rfl)) (by decide) (fun K hK => ?_)
  refine call_ 95 #[.agg #[.int .i64 p.f0, .int .i64 p.f1], .agg #[.int .i64 q.f0, .int .i64 q.f1], .pointer (some ⟨w.heap.size + 1, 0, none⟩), .pointer (some ⟨w.heap.size + 1 + 1, 0, none⟩), .pointer (some ⟨w.heap.size, 0, none⟩)] (by rfl) rfl (by first | (go_simp; done) | (go_simp; exact eg95 _ _)) ?_
  with_reducible refine HSD.out.mono ?_
  rintro e w1 ⟨rfl, hb1⟩
  refine ⟨_, rfl, ?_⟩
  have HB1 := Aside0.mk (below_step (below_drew HB.out) hb1)
  refine hK.out _ _ ⟨(hb1.cell (World.block_lt_of_cell? _ _ hx0)).trans hx0, (hb1.cell (World.block_lt_of_cell? _ _ hx1)).trans hx1, (hb1.cell (World.block_lt_of_cell? _ _ hy0)).trans hy0, (hb1.cell (World.block_lt_of_cell? _ _ hy1)).trans hy1, (hb1.cell (World.block_lt_of_cell? _ _ bx)).trans bx, (hb1.cell (World.block_lt_of_cell? _ _ hb)).trans hb, (hb1.cell (World.block_lt_of_cell? _ _ bd)).trans bd⟩ (fun hHeld => ?_)
  clear hK K
  refine nm 44 ?_
  refine pu 8 45 (Bs 9 62) HT_ ?_
  refine pu 9 46 (Bs 10 62) HT_ ?_
  refine po 10 47 (Bs 11 62) HT_ ?_
  refine po 11 48 (Bs 12 62) HT_ ?_
  refine po 12 49 (Bs 13 62) HT_ ?_
  refine po 13 50 (Bs 14 62) HT_ ?_
  refine po 14 51 (Bs 15 62) HT_ ?_
  refine po 15 52 (Bs 16 62) HT_ ?_
  refine po 16 53 (Bs 17 62) HT_ ?_
  refine po 17 54 (Bs 18 62) HT_ ?_
  refine po 18 55 (Bs 19 62) HT_ ?_
  refine po 19 56 (Bs 20 62) HT_ ?_
  refine po 20 57 (Bs 21 62) HT_ ?_
  refine po 21 58 (Bs 22 62) HT_ ?_
  refine po 22 59 (Bs 23 62) HT_ ?_
  refine po 23 60 (Bs 24 62) HT_ ?_
  refine po 24 61 (Bs 25 62) HT_ ?_
  refine po 25 62 (Bs 26 62) HT_ ?_
  refine po 26 63 (Bs 27 62) HT_ ?_
  refine po 27 64 (Bs 28 62) HT_ ?_
  refine po 28 65 (Bs 29 62) HT_ ?_
  refine po 29 66 (Bs 30 62) HT_ ?_
  refine po 30 67 (Bs 31 62) HT_ ?_
  refine po 31 68 (Bs 32 62) HT_ ?_
  refine po 32 69 (Bs 33 62) HT_ ?_
  refine po 33 70 (Bs 34 62) HT_ ?_
  refine pu 34 71 (Bs 35 62) HT_ ?_
  refine pu 35 72 (Bs 36 62) HT_ ?_
  refine po 36 73 (Bs 37 62) HT_ ?_
  refine po 37 74 (Bs 38 62) HT_ ?_
  refine po 38 75 (Bs 39 62) HT_ ?_
  refine po 39 76 (Bs 40 62) HT_ ?_
  refine po 40 77 (Bs 41 62) HT_ ?_
  refine po 41 78 (Bs 42 62) HT_ ?_
  refine po 42 79 (Bs 43 62) HT_ ?_
  refine po 43 80 (Bs 44 62) HT_ ?_
  refine po 44 81 (Bs 45 62) HT_ ?_
  refine po 45 82 (Bs 46 62) HT_ ?_
  refine po 46 83 (Bs 47 62) HT_ ?_
  refine po 47 84 (Bs 48 62) HT_ ?_
  refine po 48 85 (Bs 49 62) HT_ ?_
  refine po 49 86 (Bs 50 62) HT_ ?_
  refine po 50 87 (Bs 51 62) HT_ ?_
  refine po 51 88 (Bs 52 62) HT_ ?_
  refine po 52 89 (Bs 53 62) HT_ ?_
  refine po 53 90 (Bs 54 62) HT_ ?_
  refine po 54 91 (Bs 55 62) HT_ ?_
  refine po 55 92 (Bs 56 62) HT_ ?_
  refine po 56 93 (Bs 57 62) HT_ ?_
  refine po 57 94 (Bs 58 62) HT_ ?_
  refine po 58 95 (Bs 59 62) HT_ ?_
  refine po 59 96 (Bs 60 62) HT_ ?_
  refine pu 60 97 (Bs 61 62) HT_ ?_
  refine pu 61 8 (Bs 62 62) HT_ ?_
  refine done_ (done_of HT_.out (by kernel_rfl)) ?_
  try go_wp2
  all_goals (go_ret; exact ⟨by rw [HR.out]; rfl, by repeat (first | exact HB1.out | apply lN)⟩)
end Go.Proofs.Ythaklbjcjoolcaa.P
namespace Go.Proofs.Ythaklbjcjoolcaa.P
open Go.RowKit YthaklbjcjoolcaaW.PrintWords YthaklbjcjoolcaaW.PrintLast YthaklbjcjoolcaaW.PrintMore
set_option maxHeartbeats 4000000 in
set_option maxRecDepth 100000 in
theorem holds_more (A0 : Option Addr) (c0 : Nat) (l0 : List S31) (x y d : Int) (w : World) (hr0 : Kd.C k31 w A0 l0.length l0) (hc0 : l0.length ≤ c0) (hl1 : l0.length ≠ 1) (hl2 : l0.length ≠ 2) (hsz : l0.length ≤ 4096) :
  Calls Try.prog 88 #[.slice A0 l0.length c0, .int .i64 x, .int .i64 y, .int .i64 d] w fun e w' => e = .returned (.bool (holdsB l0 x y d)) ∧ Below w.heap.size w w' := by
 have HB := Aside0.mk (below_alloc (below_alloc (below_alloc (Below.refl w.heap.size w) (Obj.cells #[.int .i64 x] 3)) (Obj.cells #[.int .i64 y] 3)) (Obj.cells #[.int .i64 d] 3))
 have HX := Aside0.mk (HBox.start w x y d)
 have HC := Aside0.mk hr0
 have HE : Aside0 (holdsB l0 x y d = (List.range l0.length).all fun i => decide (0 ≤ sideW (pt l0 i) (pt l0 ((i + 1) % l0.length)) x y d)) := ⟨by unfold holdsB; rw [if_neg hl1, if_neg hl2]⟩
 have h1B : (((l0.length : Nat) : Int) == 1) = false := by rw [beq_eq_false_iff_ne]; omega
 have h2B : (((l0.length : Nat) : Int) == 2) = false := by rw [beq_eq_false_iff_ne]; omega
 have hszI : ((l0.length : Nat) : Int) ≤ 4096 := by omega
 have eg95 : ∀ args w, (callFunc 95 args).run Try.prog w = .ok (.enter 95 args) w := enters_of Try.func95 (by kernel_rfl) rfl
 generalize holdsB l0 x y d = r at *
 clear hr0 hl1 hl2
 go_enter Try.func88, Try.ntmps88
 go_wp2
 generalize ((w.alloc (Obj.cells #[Value.int IntKind.i64 x] 3)).alloc (Obj.cells #[Value.int IntKind.i64 y] 3)).alloc (Obj.cells #[Value.int IntKind.i64 d] 3) = W at *
 go_loopw [8, 100] (fun v8 v100 wr => ∃ k : Nat, k ≤ l0.length ∧ v8 = .bool false ∧ v100 = .int .i64 k ∧ Aside0 (∀ i, i < k → 0 ≤ sideW (pt l0 i) (pt l0 ((i + 1) % l0.length)) x y d) ∧ Aside0 (HBox wr w.heap.size x y d) ∧ Aside0 (Below w.heap.size w wr)) (fun _ v100 _ => l0.length - (intOf v100).toNat)
 case atStart => exact ⟨0, by omega, rfl, rfl, ⟨fun i hi => by omega⟩, HX, HB⟩
 case round =>
  obtain ⟨k, hk, rfl, rfl, HS, HX1, HB1⟩ := hrel
  clear HX HB
  by_cases hlt : k < l0.length
  ·have hltI : ((k : Nat) : Int) < ((l0.length : Nat) : Int) := by omega
   have HED := Aside0.mk (plane_edge.calls A0 c0 l0 (k : Int) _ _ _ _ wr (Kd.C_below HC.out HB1.out) hc0 (edge_is l0 k hlt hsz))
   obtain ⟨sd, hsd⟩ : ∃ sd, sideW (pt l0 k) (pt l0 ((k + 1) % l0.length)) x y d = sd := ⟨_, rfl⟩
   have HSA := Aside0.mk (fun (h : 0 ≤ sd) => (fun i (hi : i < k + 1) => (by
    by_cases e : i = k
    ·subst e; rw [hsd]; exact h
    ·exact HS.out i (by omega)) : ∀ i, i < k + 1 → 0 ≤ sideW (pt l0 i) (pt l0 ((i + 1) % l0.length)) x y d))
   have HSN := Aside0.mk (fun (h : ¬ 0 ≤ sd) => (show r = false by
    rw [HE.out, List.all_eq_false]
    exact ⟨k, List.mem_range.2 hlt, by rw [hsd]; simpa using h⟩))
   have HSD := Aside0.mk hsd
   clear hsd HS
   generalize pt l0 k = p at *
   generalize pt l0 ((k + 1) % l0.length) = q at *
   by_cases hs : 0 ≤ sd
   ·have hsI : ¬ sd < 0 := by omega
    have HS' := Aside0.mk (HSA.out hs)
    clear HSA HSN hs
    go_wp2_with (first | (go_at_call 56; go_must (refine HED.out.mono ?_); rintro e w2 ⟨rfl, hb2⟩; have HX3 := Aside0.mk ((HX1.out.below hb2).below (below_alloc (Below.refl _ _) (Obj.cells #[.int .i64 p.f0, .int .i64 p.f1, .int .i64 q.f0, .int .i64 q.f1] 61))); have HB3 := Aside0.mk (below_alloc (below_step HB1.out hb2) (Obj.cells #[.int .i64 p.f0, .int .i64 p.f1, .int .i64 q.f0, .int .i64 q.f1] 61)); clear hb2) | (go_at_call 95; go_must (refine (HX3.out.side p q).mono ?_); rintro e w4 ⟨rfl, hb4⟩; have HB4 := Aside0.mk (below_step HB3.out hb4); have HX4 := Aside0.mk (HX3.out.below hb4); clear hb4; rw [HSD.out]))
    go_roundw
    case rel => exact ⟨k + 1, by omega, rfl, by go_num, HS', HX4, HB4⟩
    case measure => simp [intOf]; omega
   ·have hsI : sd < 0 := by omega
    have HR := Aside0.mk (HSN.out hs)
    clear HSA HSN hs
    go_wp2_with (first | (go_at_call 56; go_must (refine HED.out.mono ?_); rintro e w2 ⟨rfl, hb2⟩; have HX3 := Aside0.mk ((HX1.out.below hb2).below (below_alloc (Below.refl _ _) (Obj.cells #[.int .i64 p.f0, .int .i64 p.f1, .int .i64 q.f0, .int .i64 q.f1] 61))); have HB3 := Aside0.mk (below_alloc (below_step HB1.out hb2) (Obj.cells #[.int .i64 p.f0, .int .i64 p.f1, .int .i64 q.f0, .int .i64 q.f1] 61)); clear hb2) | (go_at_call 95; go_must (refine (HX3.out.side p q).mono ?_); rintro e w4 ⟨rfl, hb4⟩; have HB4 := Aside0.mk (below_step HB3.out hb4); have HX4 := Aside0.mk (HX3.out.below hb4); clear hb4; rw [HSD.out]))
    go_ret
    exact ⟨by rw [HR.out]; rfl, HB4.out⟩
  ·obtain rfl : k = l0.length := by omega
   have HR : Aside0 (r = true) := ⟨by rw [HE.out, List.all_eq_true]; exact fun i hi => by simpa using HS.out i (List.mem_range.1 hi)⟩
   go_wp2
   go_ret
   exact ⟨by rw [HR.out]; rfl, HB1.out⟩
theorem plane_holds.calls (A0 : Option Addr) (c0 : Nat) (l0 : List S31) (a1 a2 a3 : Int) (r : Bool) (w : World) (hr0 : Kd.C k31 w A0 l0.length l0) (hc0 : l0.length ≤ c0) (h : plane_holds.f l0 a1 a2 a3 = some r) :
  Calls Try.prog 88 #[.slice A0 l0.length c0, .int .i64 a1, .int .i64 a2, .int .i64 a3] w fun e w' => e = .returned (.bool r) ∧ Below w.heap.size w w' := by
 unfold plane_holds.f at h
 by_cases hs : l0.length ≤ 4096
 ·rw [if_pos hs] at h
  injection h with h
  subst h
  by_cases h1 : l0.length = 1
  ·exact holds_one A0 c0 l0 a1 a2 a3 w hr0 h1
  ·by_cases h2 : l0.length = 2
   ·exact holds_two A0 c0 l0 a1 a2 a3 w hr0 h2
   ·exact holds_more A0 c0 l0 a1 a2 a3 w hr0 hc0 h1 h2 hs
 ·rw [if_neg hs] at h
  exact absurd h (by simp)
theorem info49 : (Try.prog.info? 49).map (fun i => (i.zero, i.size, i.bytes)) = some (some (.agg #[.int .i64 0, .int .i64 0]), 2, 16) := by kernel_rfl
theorem own_of_R2 {e : TypeId} {w : World} {base : Nat} {ok : Nat → Prop} {v : Value} {xs : List S31} (h : Kd.R k31 e w base ok v xs) : w.ownsRow base e 2 v xs.length (fl xs) := by
 obtain ⟨_, inner, ho, hr⟩ := h
 rw [reps_fl (fun p cs hp => k31_openM hp) hr] at ho
 exact ho
theorem R2_of_own {e : TypeId} {w : World} {base : Nat} {ok : Nat → Prop} {v : Value} {xs : List S31} (ho : w.ownsRow base e 2 v xs.length (fl xs)) (hok : ∀ k, v.ownBlock = some k → ok k) : Kd.R k31 e w base ok v xs :=
 ⟨hok, fl xs, ho, fl_reps (fun p => k31_mkM _ _ _ p) xs⟩
def edgeD (l : List S31) (i : Nat) : S31 := ⟨(pt l ((i + 1) % l.length)).f0 - (pt l i).f0, (pt l ((i + 1) % l.length)).f1 - (pt l i).f1⟩
def four (d : S31) : List S31 := [⟨d.f0, d.f1⟩, ⟨-d.f0, -d.f1⟩, ⟨d.f1, -d.f0⟩, ⟨-d.f1, d.f0⟩]
def dirE (l : List S31) (k : Nat) : List S31 := (List.range k).flatMap fun i => four (edgeD l i)
theorem dirE_succ (l : List S31) (k : Nat) : dirE l (k + 1) = dirE l k ++ four (edgeD l k) := by simp [dirE, List.range_succ]
theorem dirE_len (l : List S31) (k : Nat) : (dirE l k).length = k * 4 := by
 induction k with
 | zero => rfl
 | succ k ih => rw [dirE_succ, List.length_append, ih]; simp [four]; omega
def dirM (a b : List S31) (m : Nat) : List S31 := [⟨(pt b 0).f0 - (pt a 0).f0, (pt b 0).f1 - (pt a 0).f1⟩] ++ (if 0 < m then dirE a a.length else []) ++ (if 1 < m then dirE b b.length else [])
theorem four_cells (W : World) (dx dy : Int) (j : Nat) (u : Value) (hu : (fl (four ⟨dx, dy⟩))[j]? = some u) : (W.alloc (Obj.cells #[.int .i64 dx, .int .i64 dy, .int .i64 (-dx), .int .i64 (-dy), .int .i64 dy, .int .i64 (-dx), .int .i64 (-dy), .int .i64 dx] 49)).cell? ((⟨W.heap.size, 0, none⟩ : Addr).add j) = some u := by
 have h := heap_alloc_new W (Obj.cells #[.int .i64 dx, .int .i64 dy, .int .i64 (-dx), .int .i64 (-dy), .int .i64 dy, .int .i64 (-dx), .int .i64 (-dy), .int .i64 dx] 49)
 rw [Addr.add_lit, Nat.zero_add, blk_cell (g := W.heap.size) (t := 49) (cs := #[.int .i64 dx, .int .i64 dy, .int .i64 (-dx), .int .i64 (-dy), .int .i64 dy, .int .i64 (-dx), .int .i64 (-dy), .int .i64 dx]) h]
 rw [← hu]
 simp [fl, four, encP]
theorem dirs_row {w W w4 : World} {o : Obj} {v v4 : Value} {xs : List S31} {dx dy : Int} (hown : w4.ownsRow w.heap.size 49 2 v4 (xs.length + 4) (fl xs ++ fl (four ⟨dx, dy⟩))) (hgrow : (W.alloc o).grownBy w4 v.ownBlock) (hR : Kd.R k31 49 W w.heap.size (fun _ => True) v xs) (hb : Below w.heap.size w W) :
  Kd.R k31 49 w4 w.heap.size (fun _ => True) v4 (xs ++ four ⟨dx, dy⟩) ∧ Below w.heap.size w w4 := by
 refine ⟨R2_of_own (by rw [List.length_append, fl_append]; exact hown) (fun _ _ => trivial), ?_⟩
 exact (below_alloc hb o).grown hgrow (by have := hb.size; simp; omega) (fun k e => Kd.R_base hR k e)
theorem dirs_block {W w4 : World} {o : Obj} {v : Value} {xs : List S31} {g : Nat} {cs : Array Value} {base : Nat} (hgrow : (W.alloc o).grownBy w4 v.ownBlock) (hR : Kd.R k31 49 W base (fun _ => True) v xs) (hb : W.heap[g]? = some (.cells cs 22 (0, 0))) : w4.heap[g]? = some (.cells cs 22 (0, 0)) :=
 (hgrow.block g (by have := blk_lt hb; simp; omega) (Kd.R_ne hR hb (by decide))).trans (blk_alloc hb o)
set_option maxHeartbeats 4000000 in
set_option maxRecDepth 100000 in
theorem dirs_calls (A0 : Option Addr) (c0 : Nat) (a : List S31) (A1 : Option Addr) (c1 : Nat) (b : List S31) (w : World) (hr0 : Kd.C k31 w A0 a.length a) (hc0 : a.length ≤ c0) (hr1 : Kd.C k31 w A1 b.length b) (hc1 : b.length ≤ c1)
  (hoa : allOk a = true) (hob : allOk b = true) (ha1 : 1 ≤ a.length) (hb1 : 1 ≤ b.length) (ha : a.length ≤ 1024) (hb : b.length ≤ 1024) :
  Calls Try.prog 66 #[.slice A0 a.length c0, .slice A1 b.length c1] w fun e w' => ∃ v, e = .returned v ∧ Kd.R k31 49 w' w.heap.size (fun _ => True) v (dirM a b 2) ∧ Below w.heap.size w w' := by
 obtain ⟨i0, hi, hz0, hz1, hz2⟩ := info_parts info49
 have HI0 := Aside0.mk (show Try.prog.info? 49 = some i0 ∧ i0.zero = some (.agg #[.int .i64 0, .int .i64 0]) ∧ i0.size = 2 ∧ i0.bytes = 16 from ⟨hi, hz0, hz1, hz2⟩)
 clear hi hz0 hz1 hz2
 obtain ⟨ad0, rfl, x0, x1⟩ := at_T31 hr0 (0 : Int) (by omega) (by omega)
 obtain ⟨ad1, rfl, y0, y1⟩ := at_T31 hr1 (0 : Int) (by omega) (by omega)
 rw [show rd_T31 a 0 = pt a 0 from rfl] at x0 x1
 rw [show rd_T31 b 0 = pt b 0 from rfl] at y0 y1
 simp only [Addr.add_zero', Int.toNat_zero, Nat.zero_mul] at x0 x1 y0 y1
 have HA := Aside0.mk hr0
 have HBB := Aside0.mk hr1
 have HB0 := Aside0.mk (Below.refl w.heap.size w)
 have HOA := Aside0.mk hoa
 have HOB := Aside0.mk hob
 have pa := (okPt_iff _).1 (allOk_pt hoa 0 (by omega))
 have pb := (okPt_iff _).1 (allOk_pt hob 0 (by omega))
 have HD0 : Aside0 (dirM a b 0 = [⟨(pt b 0).f0 - (pt a 0).f0, (pt b 0).f1 - (pt a 0).f1⟩]) := ⟨by simp [dirM]⟩
 have hla : (0 : Int) < ((a.length : Nat) : Int) := by omega
 have hlb : (0 : Int) < ((b.length : Nat) : Int) := by omega
 have hla' : 0 < a.length := by omega
 have hlb' : 0 < b.length := by omega
 clear hr0 hr1 hoa hob
 generalize pt a 0 = p at *
 generalize pt b 0 = q at *
 obtain ⟨pa1, pa2, pa3, pa4⟩ : -4096 ≤ p.f0 ∧ p.f0 ≤ 4096 ∧ -4096 ≤ p.f1 ∧ p.f1 ≤ 4096 := by omega
 obtain ⟨pb1, pb2, pb3, pb4⟩ : -4096 ≤ q.f0 ∧ q.f0 ≤ 4096 ∧ -4096 ≤ q.f1 ∧ q.f1 ≤ 4096 := by omega
 clear pa pb
 have hs1 : IntKind.i64.wrap (q.f0 - p.f0) = q.f0 - p.f0 := IntWalk.i64_in _ (by omega)
 have hs2 : IntKind.i64.wrap (q.f1 - p.f1) = q.f1 - p.f1 := IntWalk.i64_in _ (by omega)
 have HP := Aside0.mk (show -4096 ≤ p.f0 ∧ p.f0 ≤ 4096 ∧ -4096 ≤ p.f1 ∧ p.f1 ≤ 4096 ∧ -4096 ≤ q.f0 ∧ q.f0 ≤ 4096 ∧ -4096 ≤ q.f1 ∧ q.f1 ≤ 4096 by omega)
 clear pa1 pa2 pa3 pa4 pb1 pb2 pb3 pb4
 go_enter Try.func66, Try.ntmps66
 go_wp2
 go_still_tail 19, (by kernel_rfl)
 change wpList _ _ _ _ _ w.drew
 have HR0 : Aside0 (Kd.R k31 49 ((w.drew.alloc (Obj.cells #[.int .i64 (q.f0 - p.f0), .int .i64 (q.f1 - p.f1)] 49)).alloc (Obj.cells #[.slice (some ad0) a.length c0, .slice (some ad1) b.length c1] 22)) w.heap.size (fun _ => True) (.slice (some ⟨w.heap.size, 0, none⟩) 1 1) (dirM a b 0)) := ⟨by
  rw [HD0.out]
  refine Kd.R_alloc (R2_of_own ?_ (fun _ _ => trivial)) _
  exact World.ownsRow_lit (base := w.heap.size) (e := 49) (size := 2) w.drew #[.int .i64 (q.f0 - p.f0), .int .i64 (q.f1 - p.f1)] 1 (Nat.le_refl _) (by unfold maxLen; omega) rfl⟩
 have HL0 : Aside0 (((w.drew.alloc (Obj.cells #[.int .i64 (q.f0 - p.f0), .int .i64 (q.f1 - p.f1)] 49)).alloc (Obj.cells #[.slice (some ad0) a.length c0, .slice (some ad1) b.length c1] 22)).heap[w.heap.size + 1]? = some (.cells #[.slice (some ad0) a.length c0, .slice (some ad1) b.length c1] 22 (0, 0))) := ⟨by
  have h := heap_alloc_new (w.drew.alloc (Obj.cells #[.int .i64 (q.f0 - p.f0), .int .i64 (q.f1 - p.f1)] 49)) (Obj.cells #[.slice (some ad0) a.length c0, .slice (some ad1) b.length c1] 22)
  simpa using h⟩
 have HB1 := Aside0.mk (below_alloc (below_alloc (below_drew (Below.refl w.heap.size w)) (Obj.cells #[.int .i64 (q.f0 - p.f0), .int .i64 (q.f1 - p.f1)] 49)) (Obj.cells #[.slice (some ad0) a.length c0, .slice (some ad1) b.length c1] 22))
 clear x0 x1 y0 y1 hs1 hs2
 go_wp2
 go_loopw [5, 36] (fun v5 v36 wr => ∃ m : Nat, m ≤ 2 ∧ v36 = .int .i64 m ∧ Aside0 (Kd.R k31 49 wr w.heap.size (fun _ => True) v5 (dirM a b m)) ∧ Aside0 (wr.heap[w.heap.size + 1]? = some (.cells #[.slice (some ad0) a.length c0, .slice (some ad1) b.length c1] 22 (0, 0))) ∧ Aside0 (Below w.heap.size w wr)) (fun _ v36 _ => 2 - (intOf v36).toNat)
 case atStart => exact ⟨0, by omega, rfl, HR0, HL0, HB1⟩
 case round =>
  obtain ⟨m, hm, rfl, HR, HL, HB⟩ := hrel
  clear HR0 HL0 HB0 HB1
  by_cases hlt : m < 2
  ·have hl : ∃ (l : List S31) (A : Addr) (c : Nat), wr.cell? ⟨w.heap.size + 1, m, none⟩ = some (.slice (some A) l.length c) ∧ Kd.C k31 w (some A) l.length l ∧ l.length ≤ c ∧ allOk l = true ∧ l.length ≤ 1024 ∧ dirM a b (m + 1) = dirM a b m ++ dirE l l.length := by
    rcases (by omega : m = 0 ∨ m = 1) with e | e
    ·subst e
     exact ⟨a, ad0, c0, blk_cell HL.out 0, HA.out, hc0, HOA.out, ha, by simp [dirM]⟩
    ·subst e
     exact ⟨b, ad1, c1, blk_cell HL.out 1, HBB.out, hc1, HOB.out, hb, by simp [dirM]⟩
   obtain ⟨l, A, c, hcell, hlC, hlc, hlo, hl4, hdir⟩ := hl
   have HLC := Aside0.mk hlC
   have HLO := Aside0.mk hlo
   have HDR := Aside0.mk hdir
   have hmI : ((m : Nat) : Int) < 2 := by omega
   have hl4I : ((l.length : Nat) : Int) ≤ 1024 := by omega
   clear hlC hlo hdir HA HBB HOA HOB HD0 HP
   obtain ⟨pre, hpre⟩ : ∃ pre, dirM a b m = pre := ⟨_, rfl⟩
   rw [hpre] at HR HDR
   have HPL : Aside0 (pre.length ≤ 8192) := ⟨by rw [← hpre]; unfold dirM; simp only [List.length_append]; split <;> split <;> simp [dirE_len] <;> omega⟩
   clear hpre
   obtain ⟨wo, hwo⟩ : ∃ wo : World, wo = wr := ⟨_, rfl⟩
   subst hwo
   go_wp2
   have HR0 : Aside0 (Kd.R k31 49 wo w.heap.size (fun _ => True) u5 (pre ++ dirE l 0)) := ⟨by rw [show dirE l 0 = [] from rfl, List.append_nil]; exact HR.out⟩
   go_loopw [5, 42] (fun v5 v42 wx => ∃ k : Nat, k ≤ l.length ∧ v42 = .int .i64 k ∧ Aside0 (Kd.R k31 49 wx w.heap.size (fun _ => True) v5 (pre ++ dirE l k)) ∧ Aside0 (wx.heap[w.heap.size + 1]? = some (.cells #[.slice (some ad0) a.length c0, .slice (some ad1) b.length c1] 22 (0, 0))) ∧ Aside0 (Below w.heap.size w wx)) (fun _ v42 _ => l.length - (intOf v42).toNat)
   case atStart => exact ⟨0, by omega, rfl, HR0, HL, HB⟩
   case round =>
    obtain ⟨k, hk, rfl, HR', HL', HB'⟩ := hrel
    clear HR0 HR HL HB
    by_cases hlt2 : k < l.length
    ·have hltI : ((k : Nat) : Int) < ((l.length : Nat) : Int) := by omega
     have hm := Nat.mod_lt (k + 1) (show 0 < l.length by omega)
     have HED := Aside0.mk (plane_edge.calls (some A) c l (k : Int) _ _ _ _ wr (Kd.C_below HLC.out HB'.out) hlc (edge_is l k hlt2 (by omega)))
     have o1 := (okPt_iff _).1 (allOk_pt HLO.out k hlt2)
     have o2 := (okPt_iff _).1 (allOk_pt HLO.out ((k + 1) % l.length) hm)
     have HDE : Aside0 (dirE l (k + 1) = dirE l k ++ four ⟨(pt l ((k + 1) % l.length)).f0 - (pt l k).f0, (pt l ((k + 1) % l.length)).f1 - (pt l k).f1⟩) := ⟨dirE_succ l k⟩
     have HEL := Aside0.mk (show (pre ++ dirE l k).length ≤ 16384 by rw [List.length_append, dirE_len]; have := HPL.out; omega)
     clear hm
     generalize pt l k = s1 at *
     generalize pt l ((k + 1) % l.length) = s2 at *
     obtain ⟨dx, hdx⟩ : ∃ dx, s2.f0 - s1.f0 = dx := ⟨_, rfl⟩
     obtain ⟨dy, hdy⟩ : ∃ dy, s2.f1 - s1.f1 = dy := ⟨_, rfl⟩
     have hs1 : IntKind.i64.wrap (s2.f0 - s1.f0) = dx := by rw [IntWalk.i64_in _ (by omega)]; exact hdx
     have hs2 : IntKind.i64.wrap (s2.f1 - s1.f1) = dy := by rw [IntWalk.i64_in _ (by omega)]; exact hdy
     rw [hdx, hdy] at HDE
     obtain ⟨dx1, dx2, dy1, dy2⟩ : -8192 ≤ dx ∧ dx ≤ 8192 ∧ -8192 ≤ dy ∧ dy ≤ 8192 := by omega
     clear hdx hdy o1 o2
     generalize hxs : pre ++ dirE l k = xs at *
     have HXS := Aside0.mk hxs
     clear hxs
     go_wp2_with (first | (go_at_call 56; go_must (refine HED.out.mono ?_); rintro e w2 ⟨rfl, hb2⟩; have HR2 := Aside0.mk (Kd.R_alloc (Kd.R_below HR'.out hb2) (Obj.cells #[.int .i64 s1.f0, .int .i64 s1.f1, .int .i64 s2.f0, .int .i64 s2.f1] 61)); have HL2 := Aside0.mk (blk_alloc (blk_below HL'.out hb2) (Obj.cells #[.int .i64 s1.f0, .int .i64 s1.f1, .int .i64 s2.f0, .int .i64 s2.f1] 61)); have HB2 := Aside0.mk (below_alloc (below_step HB'.out hb2) (Obj.cells #[.int .i64 s1.f0, .int .i64 s1.f1, .int .i64 s2.f0, .int .i64 s2.f1] 61)); clear hb2))
     go_quiet (fail)
     clear hs1 hs2
     have HR3 := Aside0.mk (Kd.R_drewN HR2.out nq)
     have HL3 := Aside0.mk (blk_drewN HL2.out nq)
     have HB3 := Aside0.mk (pw_below_drewN HB2.out nq)
     generalize ((w2.alloc (Obj.cells #[Value.int IntKind.i64 s1.f0, Value.int IntKind.i64 s1.f1, Value.int IntKind.i64 s2.f0, Value.int IntKind.i64 s2.f1] 61)).drewN nq) = w3 at *
     go_wp2_with (at_builtin; go_must (refine wpList_append_own _ rfl (.tmp 62) (.tmp 79) 67 rfl w.heap.size 49 i0 (.agg #[.int .i64 0, .int .i64 0]) 2 16 Try.underlying67 HI0.out.1 HI0.out.2.1 HI0.out.2.2.1 HI0.out.2.2.2 rfl (by decide) u5 xs.length (fl xs) rfl ((own_of_R2 HR3.out).alloc _) ⟨w3.heap.size, 0, none⟩ 4 4 (fl (four ⟨dx, dy⟩)) rfl rfl (four_cells w3 dx dy) (fl_one _) (by unfold maxLen; have := HEL.out; omega) (by have := HEL.out; omega) (by have := HB3.out.size; simp; omega) ?_); intro v4 w4 hown hgrow _)
     have HR4 := Aside0.mk (dirs_row hown hgrow HR3.out HB3.out)
     have HL4 := Aside0.mk (dirs_block hgrow HR3.out HL3.out)
     clear hown hgrow
     have HR5 : Aside0 (Kd.R k31 49 w4 w.heap.size (fun _ => True) v4 (pre ++ dirE l (k + 1))) := ⟨by rw [HDE.out, ← List.append_assoc, HXS.out]; exact HR4.out.1⟩
     go_roundw
     case rel => exact ⟨k + 1, by omega, by go_num, HR5, HL4, ⟨HR4.out.2⟩⟩
     case measure => simp [intOf]; omega
    ·obtain rfl : k = l.length := by omega
     rw [← HDR.out] at HR'
     go_wp2
     go_roundw
     case rel => exact ⟨m + 1, by omega, by go_num, HR', HL', HB'⟩
     case measure => simp [intOf]; omega
  ·obtain rfl : m = 2 := by omega
   go_wp2
   go_ret
   exact ⟨_, rfl, HR.out, HB.out⟩
end Go.Proofs.Ythaklbjcjoolcaa.P
namespace Go.Proofs.Ythaklbjcjoolcaa.P
open Go.RowKit YthaklbjcjoolcaaW.PrintWords YthaklbjcjoolcaaW.PrintLast YthaklbjcjoolcaaW.PrintMore
attribute [local go_sem] max2_int min2_int max_two min_two max_three min_three max_four min_four

def plane_value.f (a0 : Int) (a1 : Int) (a2_0 : Int) (a2_1 : Int) : Option (Int) := some (wrap64 ((wrap64 (a0 * a2_0)) + (wrap64 (a1 * a2_1))))
set_option maxHeartbeats 8000000 in
set_option maxRecDepth 100000 in
theorem plane_value.calls (a0 : Int) (a1 : Int) (a2_0 : Int) (a2_1 : Int) (r : Int) (w : World) (h : plane_value.f a0 a1 a2_0 a2_1 = some r) :
  Calls Try.prog 94 #[.int .i64 a0, .int .i64 a1, .agg #[.int .i64 a2_0, .int .i64 a2_1]] w fun e w' => e = .returned (.int .i64 r) ∧ Below w.heap.size w w' := by
 have hu31 := Try.underlying31
 have HB := Aside0.mk (Below.refl w.heap.size w)
 have H : (some (wrap64 ((wrap64 (a0 * a2_0)) + (wrap64 (a1 * a2_1))))) = some r := h
 clear h
 obtain rfl := Option.some.inj H
 go_enter Try.func94, Try.ntmps94
 go_wp2_with (first | ((with_reducible refine gate_dst (N := 5) rfl ?_); refine bxe 5 #[.int .i64 a2_0, .int .i64 a2_1] 31 ?_; intro gb703 hg w4 hbox hb; have n0_ := Aside0.mk (below_step lB hb); have n1_ := Aside0.mk (hbox); have n2_ := Aside0.mk (lG (w := w) hg); have n3_ := Aside0.mk (lG (w := w) hg); clear HB; have HB := n0_; have BK703 := n1_; have GW703 := n2_; have GE703 := n3_; clear n0_ n1_ n2_ n3_; clear hb hbox hg; have hcz5_0 : w4.cell? ⟨gb703, 0, none⟩ = some (.int .i64 a2_0) := (blk_cell BK703.out 0).trans rfl; have hcz5_1 : w4.cell? ⟨gb703, 1, none⟩ = some (.int .i64 a2_1) := (blk_cell BK703.out 1).trans rfl; have hfz5_0 := blk_frozen BK703.out 0; have hfz5_1 := blk_frozen BK703.out 1))
 go_ret
 exact en


def plane_extremes.l0 : Nat → Int → Int → Int → Int → List (S31) → Int → Int → Option (Int × Int)
 | 0, _, _, _, _, _, _, _ => none
 | k + 1, x0, x1, x8, x9, x19, x20, x21 => if x21 < x20 then (if 0 ≤ x21 then (if x21 < (x19.length : Int) then ((plane_value.f x0 x1 ((rd_T31 x19 x21).f0) ((rd_T31 x19 x21).f1)).bind fun t708 => ((plane_value.f x0 x1 ((rd_T31 x19 x21).f0) ((rd_T31 x19 x21).f1)).bind fun t709 => (plane_extremes.l0 k x0 x1 (mn x8 t708) (mx x9 t709) x19 x20 (wrap64 (x21 + 1))))) else (none)) else (none)) else (some (x8, x9))
def plane_extremes.f (k : Nat) (a0 : Int) (a1 : Int) (l2 : List (S31)) : Option (Int × Int) := if 0 < (l2.length : Int) then ((plane_value.f a0 a1 ((rd_T31 l2 0).f0) ((rd_T31 l2 0).f1)).bind fun t705 => (plane_extremes.l0 k a0 a1 t705 t705 l2 (l2.length : Int) 0)) else (none)
theorem plane_extremes.mono_l : ∀ k, (∀ y0 y1 y2 y3 y4 y5 y6, LeO (plane_extremes.l0 k y0 y1 y2 y3 y4 y5 y6) (plane_extremes.l0 (k + 1) y0 y1 y2 y3 y4 y5 y6))
 | 0 => fun _ _ _ _ _ _ _ r h => by simp [plane_extremes.l0] at h
 | k + 1 => by
  have ih0 := plane_extremes.mono_l k
  ·intro y0 y1 y2 y3 y4 y5 y6
   unfold plane_extremes.l0
   repeat' first
   | (with_reducible exact ih0 _ _ _ _ _ _ _)
   | (with_reducible first | exact LeO.refl _ | exact LeO.none _ | refine LeO.ite ?_ ?_ | refine LeO.bind ?_ (fun _ => ?_))
   | exact ih0 _ _ _ _ _ _ _
   | exact LeO.none _ | refine LeO.ite ?_ ?_ | refine LeO.bind ?_ (fun _ => ?_)
theorem plane_extremes.mono : ∀ a0 a1 a2 k, LeO (plane_extremes.f k a0 a1 a2) (plane_extremes.f (k + 1) a0 a1 a2) := by
 intro a0 a1 a2 k
 have ih0 := plane_extremes.mono_l k
 unfold plane_extremes.f
 repeat' first
   | (with_reducible exact ih0 _ _ _ _ _ _ _)
   | (with_reducible first | exact LeO.refl _ | exact LeO.none _ | refine LeO.ite ?_ ?_ | refine LeO.bind ?_ (fun _ => ?_))
   | exact ih0 _ _ _ _ _ _ _
   | exact LeO.none _ | refine LeO.ite ?_ ?_ | refine LeO.bind ?_ (fun _ => ?_)
def plane_extremes.T6 : Bool × List (List Nat × List Nat) := (true, [([], []), ([], []), ([], []), ([], []), ([1, 2, 3], [1, 2, 3]), ([0, 4], [0, 4]), ([], []), ([], []), ([], []), ([], []), ([7, 8, 9, 4], [7, 8, 9]), ([6, 10], [6, 10]), ([5, 10, 0, 1, 2, 3, 4, 5], [0, 5]), ([11, 12, 0, 1, 2, 3, 4, 5, 6, 7, 8, 9, 10, 11, 12], [6, 11])])
def plane_extremes.B6 : List Nat := [0, 0, 0, 0, 14, 31, 0, 0, 0, 0, 926, 2014, 1983, 8191]
theorem plane_extremes.tab6 : rtab .any (opsOf Try.f87 6) = plane_extremes.T6 := by kernel_rfl
theorem plane_extremes.bits6 : waitsOk plane_extremes.T6.2 plane_extremes.B6 = true := by kernel_rfl
set_option maxHeartbeats 8000000 in
set_option maxRecDepth 100000 in
theorem plane_extremes.calls (k : Nat) (a0 : Int) (a1 : Int) (A2 : Option Addr) (c2 : Nat) (l2 : List (S31)) (r1 : Int) (r2 : Int) (w : World) (hr2 : Kd.C k31 w A2 l2.length l2) (hc2 : l2.length ≤ c2) (h : plane_extremes.f k a0 a1 l2 = some (r1, r2)) :
  Calls Try.prog 87 #[.int .i64 a0, .int .i64 a1, .slice A2 l2.length c2] w fun e w' => e = .returned (.tuple #[.int .i64 r1, .int .i64 r2]) ∧ Below w.heap.size w w' := by
 have hu31 := Try.underlying31
 have HR2 := Aside0.mk hr2
 have HC2 := Aside0.mk hc2
 clear hr2 hc2
 have HB := Aside0.mk (Below.refl w.heap.size w)
 have H : (if 0 < (l2.length : Int) then ((plane_value.f a0 a1 ((rd_T31 l2 0).f0) ((rd_T31 l2 0).f1)).bind fun t705 => (plane_extremes.l0 k a0 a1 t705 t705 l2 (l2.length : Int) 0)) else (none)) = some (r1, r2) := h
 clear h
 by_cases c4 : 0 < (l2.length : Int)
 ·rw [if_pos c4] at H
  have c4b0 : decide (0 < (l2.length : Int)) = true := decide_eq_true c4
  have c4b1 : decide (0 < l2.length) = true := decide_eq_true (by omega)
  clear c4
  replace H := Option.bind_eq_some_iff.mp H
  obtain ⟨t705, A50, H⟩ := H
  replace H : (plane_extremes.l0 k a0 a1 t705 t705 l2 (l2.length : Int) 0) = some (r1, r2) := H
  have A5 := Aside0.mk A50
  clear A50
  have H' := Aside0.mk H
  clear H
  have p704 : 0 ≤ (0 : Int) := (by omega)
  have q704 : 0 < (l2.length : Int) := of_decide_eq_true (by first | (with_reducible assumption) | assumption)
  obtain ⟨ad704, e704, hx704_0, hx704_1⟩ := at_T31 HR2.out 0 p704 q704
  cases e704
  have qi704 : (0 < l2.length) = True := eq_true (by omega)
  (try rw [show ((0 : Int)).toNat = 0 from rfl] at hx704_0)
  (try rw [show 0 * 2 = 0 from rfl] at hx704_0)
  (try rw [Addr.add_zero'] at hx704_0)
  (try rw [show ((0 : Int)).toNat = 0 from rfl] at hx704_1)
  (try rw [show 0 * 2 = 0 from rfl] at hx704_1)
  (try rw [Addr.add_zero'] at hx704_1)
  replace p704 := eq_true p704
  replace q704 := eq_true q704
  go_enter Try.func87, Try.ntmps87
  go_wp2_with (first | ((with_reducible refine gate_callee (f := 94) rfl ?_); refine goesL_ (some 17) rfl rfl Try.func94 (by kernel_rfl) rfl #[.int .i64 a0, .int .i64 a1, .agg #[.int .i64 ((rd_T31 l2 0).f0), .int .i64 ((rd_T31 l2 0).f1)]] rfl (by (try simp only [List.map_toArray, List.map_cons, List.map_nil]); first | done | rfl | (simp only [List.length_drop, List.length_take]; rfl)) ?_; (with_reducible refine (plane_value.calls a0 a1 ((rd_T31 l2 0).f0) ((rd_T31 l2 0).f1) t705 _ A5.out).mono ?_); rintro e w6 ⟨rfl, hb⟩; refine ⟨_, rfl, ?_⟩; have n0_ := Aside0.mk (below_step lB hb); clear HB; have HB := n0_; clear n0_; (try clear hb); (try clear hb2); (try clear hk); (try clear hi)))
  go_loopg [8, 9, 21] k (fun kq v8 v9 v21 w' => ∃ (x8_1 : Int) (x9_1 : Int) (x21_1 : Int), v8 = .int .i64 x8_1 ∧ v9 = .int .i64 x9_1 ∧ v21 = .int .i64 x21_1 ∧ Aside0 (plane_extremes.l0 kq a0 a1 x8_1 x9_1 l2 (l2.length : Int) x21_1 = some (r1, r2)) ∧ Aside0 (kq ≤ k) ∧ Aside0 (Below w.heap.size w w'))
  case atStart => exact ⟨(t705), (t705), (0), (by first | rfl | (simp; done) | (simp [*]; done)), (by first | rfl | (simp; done) | (simp [*]; done)), (by first | rfl | (simp; done) | (simp [*]; done)), H', ⟨Nat.le_refl _⟩, ⟨by repeat (first | (with_reducible first | exact HB.out | apply lA | apply lN | apply lD) | exact HB.out)⟩⟩
  case round =>
   clear H'
   try clear c2
   try clear p2
   try clear c4
   try clear c4b0
   try clear c4b1
   try clear hx704_0
   try clear hx704_1
   try clear p704
   try clear q704
   obtain ⟨x8_1, x9_1, x21_1, rfl, rfl, rfl, HA, HK1, HB⟩ := hrel
   cases gk with
   | zero => exact absurd HA.out (by simp [plane_extremes.l0])
   | succ k1 =>
    have H := HA.out
    clear HA
    simp only [plane_extremes.l0] at H
    by_cases c7 : x21_1 < (l2.length : Int)
    ·rw [if_pos c7] at H
     have c7b0 : decide (x21_1 < (l2.length : Int)) = true := decide_eq_true c7
     clear c7
     by_cases c8 : 0 ≤ x21_1
     ·rw [if_pos c8] at H
      have c8b0 : decide (0 ≤ x21_1) = true := decide_eq_true c8
      clear c8
      by_cases c9 : x21_1 < (l2.length : Int)
      ·rw [if_pos c9] at H
       have c9b0 : decide (x21_1 < (l2.length : Int)) = true := decide_eq_true c9
       clear c9
       replace H := Option.bind_eq_some_iff.mp H
       obtain ⟨t708, A100, H⟩ := H
       replace H : ((plane_value.f a0 a1 ((rd_T31 l2 x21_1).f0) ((rd_T31 l2 x21_1).f1)).bind fun t709 => (plane_extremes.l0 k1 a0 a1 (mn x8_1 t708) (mx x9_1 t709) l2 (l2.length : Int) (wrap64 (x21_1 + 1)))) = some (r1, r2) := H
       have A10 := Aside0.mk A100
       clear A100
       obtain ⟨ji11, hji11⟩ : ∃ j_ : Int, (mn x8_1 t708) = j_ := ⟨_, rfl⟩
       replace H : ((plane_value.f a0 a1 ((rd_T31 l2 x21_1).f0) ((rd_T31 l2 x21_1).f1)).bind fun t709 => (plane_extremes.l0 k1 a0 a1 ji11 (mx x9_1 t709) l2 (l2.length : Int) (wrap64 (x21_1 + 1)))) = some (r1, r2) := by first | (rw [hji11] at H; exact H) | (simp only [hji11] at H ⊢; exact H)
       (try rw [hji11] at A10)
       have hji11_ : (if t708 < x8_1 then t708 else x8_1) = ji11 := hji11
       replace H := Option.bind_eq_some_iff.mp H
       obtain ⟨t709, A120, H⟩ := H
       replace H : (plane_extremes.l0 k1 a0 a1 ji11 (mx x9_1 t709) l2 (l2.length : Int) (wrap64 (x21_1 + 1))) = some (r1, r2) := H
       have A12 := Aside0.mk A120
       clear A120
       obtain ⟨ji13, hji13⟩ : ∃ j_ : Int, (mx x9_1 t709) = j_ := ⟨_, rfl⟩
       replace H : (plane_extremes.l0 k1 a0 a1 ji11 ji13 l2 (l2.length : Int) (wrap64 (x21_1 + 1))) = some (r1, r2) := by first | (rw [hji13] at H; exact H) | (simp only [hji13] at H ⊢; exact H)
       (try rw [hji13] at A10)
       (try rw [hji13] at A12)
       have hji13_ : (if x9_1 < t709 then t709 else x9_1) = ji13 := hji13
       have H' := Aside0.mk H
       clear H
       have p706 : 0 ≤ (x21_1 : Int) := of_decide_eq_true (by first | (with_reducible assumption) | assumption)
       have q706 : x21_1 < (l2.length : Int) := of_decide_eq_true (by first | (with_reducible assumption) | assumption)
       obtain ⟨ad706, e706, hx706_0, hx706_1⟩ := at_T31 HR2.out x21_1 p706 q706
       obtain rfl : ad704 = ad706 := (by injection e706)
       replace hx706_0 := cB HB.out hx706_0
       replace hx706_1 := cB HB.out hx706_1
       replace p706 := eq_true p706
       replace q706 := eq_true q706
       try go_wp2_with (first | ((with_reducible refine gate_dst (N := 11) rfl ?_); refine bxe 11 #[.int .i64 0, .int .i64 0] 31 ?_; intro gb707 hg w14 hbox hb; have n0_ := Aside0.mk (below_step lB hb); have n1_ := Aside0.mk (hbox); have n2_ := Aside0.mk (lG (w := w) hg); have n3_ := Aside0.mk (lG (w := w) hg); clear HB; have HB := n0_; have BK707 := n1_; have GW707 := n2_; have GE707 := n3_; clear n0_ n1_ n2_ n3_; clear hb hbox hg; have hcz15_0 : w14.cell? ⟨gb707, 0, none⟩ = some (.int .i64 0) := (blk_cell BK707.out 0).trans rfl; have hcz15_1 : w14.cell? ⟨gb707, 1, none⟩ = some (.int .i64 0) := (blk_cell BK707.out 1).trans rfl; have hfz15_0 := blk_frozen BK707.out 0; have hfz15_1 := blk_frozen BK707.out 1))
       have n0_ : Aside0 (((w14.setCell ⟨gb707, 0, none⟩ (.int .i64 ((rd_T31 l2 x21_1).f0))).setCell ⟨gb707, 1, none⟩ (.int .i64 ((rd_T31 l2 x21_1).f1))).heap[gb707]? = some (.cells #[.int .i64 ((rd_T31 l2 x21_1).f0), .int .i64 ((rd_T31 l2 x21_1).f1)] 31 (0, 0))) := ⟨by (with_reducible repeat (first | refine kN ?_ _ | refine kD ?_ | refine kA ?_ _)); refine blk_put (cs := #[.int .i64 ((rd_T31 l2 x21_1).f0), .int .i64 0]) ?_ 1 _ rfl; (with_reducible repeat (first | refine kN ?_ _ | refine kD ?_ | refine kA ?_ _)); refine blk_put (cs := #[.int .i64 0, .int .i64 0]) ?_ 0 _ rfl; (with_reducible repeat (first | refine kN ?_ _ | refine kD ?_ | refine kA ?_ _)); exact BK707.out⟩
       have n1_ : Aside0 (Below w.heap.size w ((w14.setCell ⟨gb707, 0, none⟩ (.int .i64 ((rd_T31 l2 x21_1).f0))).setCell ⟨gb707, 1, none⟩ (.int .i64 ((rd_T31 l2 x21_1).f1)))) := ⟨by repeat (first | (with_reducible first | exact HB.out | apply lA | apply lN | apply lD | refine lS ?_ GE707.out) | exact HB.out)⟩
       (try clear BK707)
       (try clear HB)
       generalize ((w14.setCell ⟨gb707, 0, none⟩ (.int .i64 ((rd_T31 l2 x21_1).f0))).setCell ⟨gb707, 1, none⟩ (.int .i64 ((rd_T31 l2 x21_1).f1))) = w16 at n0_ n1_ ⊢
       have BK707 := n0_
       have HB := n1_
       clear n0_ n1_
       replace BK707 := Aside0.mk (kD BK707.out)
       replace HB := Aside0.mk (lD HB.out)
       refine start_ (n := 14) (S := fun w' => w'.cell? ⟨gb707, 0, none⟩ = some (.int .i64 ((rd_T31 l2 x21_1).f0)) ∧ w'.cell? ⟨gb707, 1, none⟩ = some (.int .i64 ((rd_T31 l2 x21_1).f1))) (ds := []) (Bs 0 14) (by kernel_rfl) rfl rfl ⟨(blk_cell BK707.out 0).trans rfl, (blk_cell BK707.out 1).trans rfl⟩ (fun hHeld => ?_); refine with_tabW plane_extremes.tab6 plane_extremes.bits6 (fun HT_ HW_ => ?_)
       generalize w16.drew = w17 at BK707 HB hHeld ⊢
       refine pu 0 25 (Bs 1 14) HT_ ?_
       refine pu 1 26 (Bs 2 14) HT_ ?_
       refine pu 2 27 (Bs 3 14) HT_ ?_
       refine pu 6 31 (Br [3,3,1,7]) HT_ ?_
       refine pu 7 32 (Br [3,3,2,6]) HT_ ?_
       refine pu 8 33 (Br [3,3,3,5]) HT_ ?_
       refine ta 3 28 (Br [4,2,3,5]) HT_ HW_ hHeld ?_
       refine ta 9 34 (Br [4,2,4,4]) HT_ HW_ hHeld ?_
       refine one_ (i := 4) (N := some 29) (Br [5,1,4,4]) rfl rfl (one_of HT_.out (by kernel_rfl)) (by decide) (fun K hK => ?_)
       refine goes_ Try.func94 (by kernel_rfl) rfl #[.int .i64 a0, .int .i64 a1, .agg #[.int .i64 ((rd_T31 l2 x21_1).f0), .int .i64 ((rd_T31 l2 x21_1).f1)]] (by rfl) rfl rfl (by (try simp only [List.map_toArray, List.map_cons, List.map_nil]); first | done | rfl | (simp only [List.length_drop, List.length_take]; rfl)) ?_
       with_reducible refine (plane_value.calls a0 a1 ((rd_T31 l2 x21_1).f0) ((rd_T31 l2 x21_1).f1) t708 _ A10.out).mono ?_
       rintro e w18 ⟨rfl, hb⟩
       refine ⟨_, rfl, ?_⟩
       have n1_ := Aside0.mk (below_step lB hb)
       clear HB
       have HB := n1_
       clear n1_
       replace BK707 := Aside0.mk (blk_below (g := gb707) (o := .cells #[.int .i64 ((rd_T31 l2 x21_1).f0), .int .i64 ((rd_T31 l2 x21_1).f1)] 31 (0, 0)) (kX BK707.out) hb)
       (try clear hb)
       (try clear hb2)
       (try clear hk)
       (try clear hi)
       refine hK.out _ _ ⟨(blk_cell BK707.out 0).trans rfl, (blk_cell BK707.out 1).trans rfl⟩ (fun hHeld => ?_)
       clear hK K
       refine nm 29 ?_
       refine pu 5 30 (Bs 10 14) HT_ ?_
       refine one_ (i := 10) (N := some 35) (Bs 11 14) rfl rfl (one_of HT_.out (by kernel_rfl)) (by decide) (fun K hK => ?_)
       refine goes_ Try.func94 (by kernel_rfl) rfl #[.int .i64 a0, .int .i64 a1, .agg #[.int .i64 ((rd_T31 l2 x21_1).f0), .int .i64 ((rd_T31 l2 x21_1).f1)]] (by rfl) rfl rfl (by (try simp only [List.map_toArray, List.map_cons, List.map_nil]); first | done | rfl | (simp only [List.length_drop, List.length_take]; rfl)) ?_
       with_reducible refine (plane_value.calls a0 a1 ((rd_T31 l2 x21_1).f0) ((rd_T31 l2 x21_1).f1) t709 _ A12.out).mono ?_
       rintro e w19 ⟨rfl, hb⟩
       refine ⟨_, rfl, ?_⟩
       have n1_ := Aside0.mk (below_step lB hb)
       clear HB
       have HB := n1_
       clear n1_
       replace BK707 := Aside0.mk (blk_below (g := gb707) (o := .cells #[.int .i64 ((rd_T31 l2 x21_1).f0), .int .i64 ((rd_T31 l2 x21_1).f1)] 31 (0, 0)) (kX BK707.out) hb)
       (try clear hb)
       (try clear hb2)
       (try clear hk)
       (try clear hi)
       refine hK.out _ _ ⟨(blk_cell BK707.out 0).trans rfl, (blk_cell BK707.out 1).trans rfl⟩ (fun hHeld => ?_)
       clear hK K
       refine nm 35 ?_
       refine pu 11 36 (Bs 12 14) HT_ ?_
       refine pu 12 8 (Bs 13 14) HT_ ?_
       refine pu 13 9 (Bs 14 14) HT_ ?_
       refine done_ (done_of HT_.out (by kernel_rfl)) ?_
       try go_wp2
       go_roundg k1
       case measure => have := HK1.out; omega
       case rel => exact ⟨(ji11), (ji13), (wrap64 (x21_1 + 1)), (by first | rfl | (simp; done) | (simp only [← hji11] <;> (first | rfl | simp)) | (simp [*]; done)), (by first | rfl | (simp; done) | (simp only [← hji13] <;> (first | rfl | simp)) | (simp [*]; done)), (by first | rfl | (simp; done) | (simp [*]; done)), H', ⟨by have := HK1.out; omega⟩, ⟨by repeat (first | (with_reducible first | exact HB.out | apply lA | apply lN | apply lD | refine lS ?_ GE707.out) | exact HB.out)⟩⟩
      ·rw [if_neg c9] at H
       exact absurd H (by simp)
     ·rw [if_neg c8] at H
      exact absurd H (by simp)
    ·rw [if_neg c7] at H
     have c7b0 : decide (x21_1 < (l2.length : Int)) = false := decide_eq_false c7
     clear c7
     simp only [Option.some.injEq, Prod.mk.injEq] at H
     obtain ⟨rfl, rfl⟩ := H
     go_wp2
     go_ret2
     exact en
 rw [if_neg c4] at H
 exact absurd H (by simp)


def plane_line.f (k : Nat) (a0 : Int) (a1 : Int) (l2 : List (S31)) (l3 : List (S31)) : Option (Bool × Int × Int × Int × Int × Int × Int × Bool) := (plane_extremes.f k a0 a1 l2).bind fun bt711 => ((plane_extremes.f k a0 a1 l3).bind fun bt713 => (if bt711.2 ≥ bt713.1 then (some (false, 0, 0, 0, 0, 0, 0, false)) else (some (false, 0, 0, 0, wrap64 (2 * a0), wrap64 (2 * a1), wrap64 (bt711.2 + bt713.1), true))))
theorem plane_line.mono : ∀ a0 a1 a2 a3 k, LeO (plane_line.f k a0 a1 a2 a3) (plane_line.f (k + 1) a0 a1 a2 a3) := by
 intro a0 a1 a2 a3 k
 unfold plane_line.f
 repeat' first
   | (with_reducible exact plane_extremes.mono _ _ _ _)
   | (with_reducible first | exact LeO.refl _ | exact LeO.none _ | refine LeO.ite ?_ ?_ | refine LeO.bind ?_ (fun _ => ?_))
   | exact plane_extremes.mono _ _ _ _
   | exact LeO.none _ | refine LeO.ite ?_ ?_ | refine LeO.bind ?_ (fun _ => ?_)
set_option maxHeartbeats 8000000 in
set_option maxRecDepth 100000 in
theorem plane_line.calls (k : Nat) (a0 : Int) (a1 : Int) (A2 : Option Addr) (c2 : Nat) (l2 : List (S31)) (A3 : Option Addr) (c3 : Nat) (l3 : List (S31)) (r1 : Bool) (r2 : Int) (r3 : Int) (r4 : Int) (r5 : Int) (r6 : Int) (r7 : Int) (r8 : Bool) (w : World) (hr2 : Kd.C k31 w A2 l2.length l2) (hc2 : l2.length ≤ c2) (hr3 : Kd.C k31 w A3 l3.length l3) (hc3 : l3.length ≤ c3) (h : plane_line.f k a0 a1 l2 l3 = some (r1, r2, r3, r4, r5, r6, r7, r8)) :
  Calls Try.prog 67 #[.int .i64 a0, .int .i64 a1, .slice A2 l2.length c2, .slice A3 l3.length c3] w fun e w' => e = .returned (.tuple #[.agg #[.bool r1, .int .i64 r2, .int .i64 r3, .int .i64 r4, .int .i64 r5, .int .i64 r6, .int .i64 r7], .bool r8]) ∧ Below w.heap.size w w' := by
 have hu44 := Try.underlying44
 have HR2 := Aside0.mk hr2
 have HC2 := Aside0.mk hc2
 clear hr2 hc2
 have HR3 := Aside0.mk hr3
 have HC3 := Aside0.mk hc3
 clear hr3 hc3
 have HB := Aside0.mk (Below.refl w.heap.size w)
 have H : ((plane_extremes.f k a0 a1 l2).bind fun bt711 => ((plane_extremes.f k a0 a1 l3).bind fun bt713 => (if bt711.2 ≥ bt713.1 then (some (false, 0, 0, 0, 0, 0, 0, false)) else (some (false, 0, 0, 0, wrap64 (2 * a0), wrap64 (2 * a1), wrap64 (bt711.2 + bt713.1), true))))) = some (r1, r2, r3, r4, r5, r6, r7, r8) := h
 clear h
 replace H := Option.bind_eq_some_iff.mp H
 obtain ⟨⟨t711, t712⟩, A50, H⟩ := H
 replace H : ((plane_extremes.f k a0 a1 l3).bind fun bt713 => (if t712 ≥ bt713.1 then (some (false, 0, 0, 0, 0, 0, 0, false)) else (some (false, 0, 0, 0, wrap64 (2 * a0), wrap64 (2 * a1), wrap64 (t712 + bt713.1), true)))) = some (r1, r2, r3, r4, r5, r6, r7, r8) := H
 have A5 := Aside0.mk A50
 clear A50
 replace H := Option.bind_eq_some_iff.mp H
 obtain ⟨⟨t713, t714⟩, A60, H⟩ := H
 replace H : (if t712 ≥ t713 then (some (false, 0, 0, 0, 0, 0, 0, false)) else (some (false, 0, 0, 0, wrap64 (2 * a0), wrap64 (2 * a1), wrap64 (t712 + t713), true))) = some (r1, r2, r3, r4, r5, r6, r7, r8) := H
 have A6 := Aside0.mk A60
 clear A60
 by_cases c7 : t712 ≥ t713
 ·rw [if_pos c7] at H
  have c7b0 : decide (t713 ≤ t712) = true := decide_eq_true c7
  clear c7
  simp only [Option.some.injEq, Prod.mk.injEq] at H
  obtain ⟨rfl, rfl, rfl, rfl, rfl, rfl, rfl, rfl⟩ := H
  go_enter Try.func67, Try.ntmps67
  go_wp2_with (first | ((with_reducible refine gate_dst (N := 8) rfl ?_); refine bxe 8 #[.bool false, .int .i64 0, .int .i64 0, .int .i64 0, .int .i64 0, .int .i64 0, .int .i64 0] 44 ?_; intro gb710 hg w8 hbox hb; have n0_ := Aside0.mk (below_step lB hb); have n1_ := Aside0.mk (hbox); have n2_ := Aside0.mk (lG (w := w) hg); have n3_ := Aside0.mk (lG (w := w) hg); clear HB; have HB := n0_; have BK710 := n1_; have GW710 := n2_; have GE710 := n3_; clear n0_ n1_ n2_ n3_; clear hb hbox hg) | ((with_reducible refine gate_callee (f := 87) rfl ?_); refine goesL_ (some 18) rfl rfl Try.func87 (by kernel_rfl) rfl #[.int .i64 a0, .int .i64 a1, .slice A2 l2.length c2] rfl (by (try simp only [List.map_toArray, List.map_cons, List.map_nil]); first | done | rfl | (simp only [List.length_drop, List.length_take]; rfl)) ?_; (with_reducible refine (plane_extremes.calls k a0 a1 _ _ l2 t711 t712 _ ?side1 ?side2 A5.out).mono ?_); (case side1 => repeat (first | exact (Kd.C_below HR2.out HB.out) | (with_reducible refine Kd.C_alloc ?_ _) | (with_reducible refine Kd.C_drewN ?_ _) | (with_reducible refine Kd.C_drew ?_))); (case side2 => exact HC2.out); rintro e w9 ⟨rfl, hb⟩; refine ⟨_, rfl, ?_⟩; have n0_ := Aside0.mk (blk_below (g := gb710) (o := .cells #[.bool false, .int .i64 0, .int .i64 0, .int .i64 0, .int .i64 0, .int .i64 0, .int .i64 0] 44 (0, 0)) (kX BK710.out) hb); have n1_ := Aside0.mk (below_step lB hb); clear BK710; clear HB; have BK710 := n0_; have HB := n1_; clear n0_ n1_; (try clear hb); (try clear hb2); (try clear hk); (try clear hi)) | ((with_reducible refine gate_callee (f := 87) rfl ?_); refine goesL_ (some 25) rfl rfl Try.func87 (by kernel_rfl) rfl #[.int .i64 a0, .int .i64 a1, .slice A3 l3.length c3] rfl (by (try simp only [List.map_toArray, List.map_cons, List.map_nil]); first | done | rfl | (simp only [List.length_drop, List.length_take]; rfl)) ?_; (with_reducible refine (plane_extremes.calls k a0 a1 _ _ l3 t713 t714 _ ?side1 ?side2 A6.out).mono ?_); (case side1 => repeat (first | exact (Kd.C_below HR3.out HB.out) | (with_reducible refine Kd.C_alloc ?_ _) | (with_reducible refine Kd.C_drewN ?_ _) | (with_reducible refine Kd.C_drew ?_))); (case side2 => exact HC3.out); rintro e w10 ⟨rfl, hb⟩; refine ⟨_, rfl, ?_⟩; have n0_ := Aside0.mk (blk_below (g := gb710) (o := .cells #[.bool false, .int .i64 0, .int .i64 0, .int .i64 0, .int .i64 0, .int .i64 0, .int .i64 0] 44 (0, 0)) (kX BK710.out) hb); have n1_ := Aside0.mk (below_step lB hb); clear BK710; clear HB; have BK710 := n0_; have HB := n1_; clear n0_ n1_; (try clear hb); (try clear hb2); (try clear hk); (try clear hi); have hcz11_0 : w10.cell? ⟨gb710, 0, none⟩ = some (.bool false) := (blk_cell BK710.out 0).trans rfl; have hcz11_1 : w10.cell? ⟨gb710, 1, none⟩ = some (.int .i64 0) := (blk_cell BK710.out 1).trans rfl; have hcz11_2 : w10.cell? ⟨gb710, 2, none⟩ = some (.int .i64 0) := (blk_cell BK710.out 2).trans rfl; have hcz11_3 : w10.cell? ⟨gb710, 3, none⟩ = some (.int .i64 0) := (blk_cell BK710.out 3).trans rfl; have hcz11_4 : w10.cell? ⟨gb710, 4, none⟩ = some (.int .i64 0) := (blk_cell BK710.out 4).trans rfl; have hcz11_5 : w10.cell? ⟨gb710, 5, none⟩ = some (.int .i64 0) := (blk_cell BK710.out 5).trans rfl; have hcz11_6 : w10.cell? ⟨gb710, 6, none⟩ = some (.int .i64 0) := (blk_cell BK710.out 6).trans rfl; have hfz11_0 := blk_frozen BK710.out 0; have hfz11_1 := blk_frozen BK710.out 1; have hfz11_2 := blk_frozen BK710.out 2; have hfz11_3 := blk_frozen BK710.out 3; have hfz11_4 := blk_frozen BK710.out 4; have hfz11_5 := blk_frozen BK710.out 5; have hfz11_6 := blk_frozen BK710.out 6))
  refine bodyPost_ret (results_ct rfl _ _ gb710 44 #[.bool false, .int .i64 0, .int .i64 0, .int .i64 0, .int .i64 0, .int .i64 0, .int .i64 0] (0, 0) _ rfl (by (with_reducible repeat (first | refine kN ?_ _ | refine kD ?_ | refine kA ?_ _)); refine blk_put (cs := #[.bool false, .int .i64 0, .int .i64 0, .int .i64 0, .int .i64 0, .int .i64 0, .int .i64 0]) ?_ 6 _ rfl; (with_reducible repeat (first | refine kN ?_ _ | refine kD ?_ | refine kA ?_ _)); refine blk_put (cs := #[.bool false, .int .i64 0, .int .i64 0, .int .i64 0, .int .i64 0, .int .i64 0, .int .i64 0]) ?_ 5 _ rfl; (with_reducible repeat (first | refine kN ?_ _ | refine kD ?_ | refine kA ?_ _)); refine blk_put (cs := #[.bool false, .int .i64 0, .int .i64 0, .int .i64 0, .int .i64 0, .int .i64 0, .int .i64 0]) ?_ 4 _ rfl; (with_reducible repeat (first | refine kN ?_ _ | refine kD ?_ | refine kA ?_ _)); refine blk_put (cs := #[.bool false, .int .i64 0, .int .i64 0, .int .i64 0, .int .i64 0, .int .i64 0, .int .i64 0]) ?_ 3 _ rfl; (with_reducible repeat (first | refine kN ?_ _ | refine kD ?_ | refine kA ?_ _)); refine blk_put (cs := #[.bool false, .int .i64 0, .int .i64 0, .int .i64 0, .int .i64 0, .int .i64 0, .int .i64 0]) ?_ 2 _ rfl; (with_reducible repeat (first | refine kN ?_ _ | refine kD ?_ | refine kA ?_ _)); refine blk_put (cs := #[.bool false, .int .i64 0, .int .i64 0, .int .i64 0, .int .i64 0, .int .i64 0, .int .i64 0]) ?_ 1 _ rfl; (with_reducible repeat (first | refine kN ?_ _ | refine kD ?_ | refine kA ?_ _)); refine blk_put (cs := #[.bool false, .int .i64 0, .int .i64 0, .int .i64 0, .int .i64 0, .int .i64 0, .int .i64 0]) ?_ 0 _ rfl; (with_reducible repeat (first | refine kN ?_ _ | refine kD ?_ | refine kA ?_ _)); exact BK710.out) Try.underlying44 rfl (by kernel_rfl)) rfl ?_
  exact en
 rw [if_neg c7] at H
 have c7b0 : decide (t713 ≤ t712) = false := decide_eq_false c7
 clear c7
 simp only [Option.some.injEq, Prod.mk.injEq] at H
 obtain ⟨rfl, rfl, rfl, rfl, rfl, rfl, rfl, rfl⟩ := H
 go_enter Try.func67, Try.ntmps67
 go_wp2_with (first | ((with_reducible refine gate_dst (N := 8) rfl ?_); refine bxe 8 #[.bool false, .int .i64 0, .int .i64 0, .int .i64 0, .int .i64 0, .int .i64 0, .int .i64 0] 44 ?_; intro gb710 hg w12 hbox hb; have n0_ := Aside0.mk (below_step lB hb); have n1_ := Aside0.mk (hbox); have n2_ := Aside0.mk (lG (w := w) hg); have n3_ := Aside0.mk (lG (w := w) hg); clear HB; have HB := n0_; have BK710 := n1_; have GW710 := n2_; have GE710 := n3_; clear n0_ n1_ n2_ n3_; clear hb hbox hg) | ((with_reducible refine gate_callee (f := 87) rfl ?_); refine goesL_ (some 18) rfl rfl Try.func87 (by kernel_rfl) rfl #[.int .i64 a0, .int .i64 a1, .slice A2 l2.length c2] rfl (by (try simp only [List.map_toArray, List.map_cons, List.map_nil]); first | done | rfl | (simp only [List.length_drop, List.length_take]; rfl)) ?_; (with_reducible refine (plane_extremes.calls k a0 a1 _ _ l2 t711 t712 _ ?side1 ?side2 A5.out).mono ?_); (case side1 => repeat (first | exact (Kd.C_below HR2.out HB.out) | (with_reducible refine Kd.C_alloc ?_ _) | (with_reducible refine Kd.C_drewN ?_ _) | (with_reducible refine Kd.C_drew ?_))); (case side2 => exact HC2.out); rintro e w13 ⟨rfl, hb⟩; refine ⟨_, rfl, ?_⟩; have n0_ := Aside0.mk (blk_below (g := gb710) (o := .cells #[.bool false, .int .i64 0, .int .i64 0, .int .i64 0, .int .i64 0, .int .i64 0, .int .i64 0] 44 (0, 0)) (kX BK710.out) hb); have n1_ := Aside0.mk (below_step lB hb); clear BK710; clear HB; have BK710 := n0_; have HB := n1_; clear n0_ n1_; (try clear hb); (try clear hb2); (try clear hk); (try clear hi)) | ((with_reducible refine gate_callee (f := 87) rfl ?_); refine goesL_ (some 25) rfl rfl Try.func87 (by kernel_rfl) rfl #[.int .i64 a0, .int .i64 a1, .slice A3 l3.length c3] rfl (by (try simp only [List.map_toArray, List.map_cons, List.map_nil]); first | done | rfl | (simp only [List.length_drop, List.length_take]; rfl)) ?_; (with_reducible refine (plane_extremes.calls k a0 a1 _ _ l3 t713 t714 _ ?side1 ?side2 A6.out).mono ?_); (case side1 => repeat (first | exact (Kd.C_below HR3.out HB.out) | (with_reducible refine Kd.C_alloc ?_ _) | (with_reducible refine Kd.C_drewN ?_ _) | (with_reducible refine Kd.C_drew ?_))); (case side2 => exact HC3.out); rintro e w14 ⟨rfl, hb⟩; refine ⟨_, rfl, ?_⟩; have n0_ := Aside0.mk (blk_below (g := gb710) (o := .cells #[.bool false, .int .i64 0, .int .i64 0, .int .i64 0, .int .i64 0, .int .i64 0, .int .i64 0] 44 (0, 0)) (kX BK710.out) hb); have n1_ := Aside0.mk (below_step lB hb); clear BK710; clear HB; have BK710 := n0_; have HB := n1_; clear n0_ n1_; (try clear hb); (try clear hb2); (try clear hk); (try clear hi); have hcz15_0 : w14.cell? ⟨gb710, 0, none⟩ = some (.bool false) := (blk_cell BK710.out 0).trans rfl; have hcz15_1 : w14.cell? ⟨gb710, 1, none⟩ = some (.int .i64 0) := (blk_cell BK710.out 1).trans rfl; have hcz15_2 : w14.cell? ⟨gb710, 2, none⟩ = some (.int .i64 0) := (blk_cell BK710.out 2).trans rfl; have hcz15_3 : w14.cell? ⟨gb710, 3, none⟩ = some (.int .i64 0) := (blk_cell BK710.out 3).trans rfl; have hcz15_4 : w14.cell? ⟨gb710, 4, none⟩ = some (.int .i64 0) := (blk_cell BK710.out 4).trans rfl; have hcz15_5 : w14.cell? ⟨gb710, 5, none⟩ = some (.int .i64 0) := (blk_cell BK710.out 5).trans rfl; have hcz15_6 : w14.cell? ⟨gb710, 6, none⟩ = some (.int .i64 0) := (blk_cell BK710.out 6).trans rfl; have hfz15_0 := blk_frozen BK710.out 0; have hfz15_1 := blk_frozen BK710.out 1; have hfz15_2 := blk_frozen BK710.out 2; have hfz15_3 := blk_frozen BK710.out 3; have hfz15_4 := blk_frozen BK710.out 4; have hfz15_5 := blk_frozen BK710.out 5; have hfz15_6 := blk_frozen BK710.out 6))
 refine bodyPost_ret (results_ct rfl _ _ gb710 44 #[.bool false, .int .i64 0, .int .i64 0, .int .i64 0, .int .i64 (wrap64 (2 * a0)), .int .i64 (wrap64 (2 * a1)), .int .i64 (wrap64 (t712 + t713))] (0, 0) _ rfl (by (with_reducible repeat (first | refine kN ?_ _ | refine kD ?_ | refine kA ?_ _)); refine blk_put (cs := #[.bool false, .int .i64 0, .int .i64 0, .int .i64 0, .int .i64 (wrap64 (2 * a0)), .int .i64 (wrap64 (2 * a1)), .int .i64 0]) ?_ 6 _ rfl; (with_reducible repeat (first | refine kN ?_ _ | refine kD ?_ | refine kA ?_ _)); refine blk_put (cs := #[.bool false, .int .i64 0, .int .i64 0, .int .i64 0, .int .i64 (wrap64 (2 * a0)), .int .i64 0, .int .i64 0]) ?_ 5 _ rfl; (with_reducible repeat (first | refine kN ?_ _ | refine kD ?_ | refine kA ?_ _)); refine blk_put (cs := #[.bool false, .int .i64 0, .int .i64 0, .int .i64 0, .int .i64 0, .int .i64 0, .int .i64 0]) ?_ 4 _ rfl; (with_reducible repeat (first | refine kN ?_ _ | refine kD ?_ | refine kA ?_ _)); refine blk_put (cs := #[.bool false, .int .i64 0, .int .i64 0, .int .i64 0, .int .i64 0, .int .i64 0, .int .i64 0]) ?_ 3 _ rfl; (with_reducible repeat (first | refine kN ?_ _ | refine kD ?_ | refine kA ?_ _)); refine blk_put (cs := #[.bool false, .int .i64 0, .int .i64 0, .int .i64 0, .int .i64 0, .int .i64 0, .int .i64 0]) ?_ 2 _ rfl; (with_reducible repeat (first | refine kN ?_ _ | refine kD ?_ | refine kA ?_ _)); refine blk_put (cs := #[.bool false, .int .i64 0, .int .i64 0, .int .i64 0, .int .i64 0, .int .i64 0, .int .i64 0]) ?_ 1 _ rfl; (with_reducible repeat (first | refine kN ?_ _ | refine kD ?_ | refine kA ?_ _)); refine blk_put (cs := #[.bool false, .int .i64 0, .int .i64 0, .int .i64 0, .int .i64 0, .int .i64 0, .int .i64 0]) ?_ 0 _ rfl; (with_reducible repeat (first | refine kN ?_ _ | refine kD ?_ | refine kA ?_ _)); exact BK710.out) Try.underlying44 rfl (by kernel_rfl)) rfl ?_
 exact en


def plane_crossing.j0 : Nat → Int → Int → Int → Int → Int → Bool → Int → Int → Int → Int → Int → Int → Int → Int → Option (Bool × Int × Int × Int × Int × Int × Int × Bool)
 | 0, _, _, _, _, _, _, _, _, _, _, _, _, _, _ => none
 | k + 1, x6, x7, x8, x9, x10, x54, x716000, x716001, x716002, x716003, x717000, x717001, x717002, x717003 => if x54 = true then (some (false, 0, 0, 0, 0, 0, 0, false)) else (if x10 < 0 then (some (true, wrap64 ((wrap64 (x716000 * (wrap64 (-x10)))) + (wrap64 ((wrap64 (-(wrap64 ((wrap64 ((wrap64 (x717000 - x716000)) * x9)) - (wrap64 ((wrap64 (x717001 - x716001)) * x8)))))) * x6))), wrap64 ((wrap64 (x716001 * (wrap64 (-x10)))) + (wrap64 ((wrap64 (-(wrap64 ((wrap64 ((wrap64 (x717000 - x716000)) * x9)) - (wrap64 ((wrap64 (x717001 - x716001)) * x8)))))) * x7))), wrap64 (-x10), 0, 0, 0, true)) else (some (true, wrap64 ((wrap64 (x716000 * x10)) + (wrap64 ((wrap64 ((wrap64 ((wrap64 (x717000 - x716000)) * x9)) - (wrap64 ((wrap64 (x717001 - x716001)) * x8)))) * x6))), wrap64 ((wrap64 (x716001 * x10)) + (wrap64 ((wrap64 ((wrap64 ((wrap64 (x717000 - x716000)) * x9)) - (wrap64 ((wrap64 (x717001 - x716001)) * x8)))) * x7))), x10, 0, 0, 0, true)))
def plane_crossing.f (k : Nat) (a0_0 : Int) (a0_1 : Int) (a0_2 : Int) (a0_3 : Int) (a1_0 : Int) (a1_1 : Int) (a1_2 : Int) (a1_3 : Int) : Option (Bool × Int × Int × Int × Int × Int × Int × Bool) := if (wrap64 ((wrap64 ((wrap64 (a0_2 - a0_0)) * (wrap64 (a1_3 - a1_1)))) - (wrap64 ((wrap64 (a0_3 - a0_1)) * (wrap64 (a1_2 - a1_0)))))) = 0 then (plane_crossing.j0 k (wrap64 (a0_2 - a0_0)) (wrap64 (a0_3 - a0_1)) (wrap64 (a1_2 - a1_0)) (wrap64 (a1_3 - a1_1)) (wrap64 ((wrap64 ((wrap64 (a0_2 - a0_0)) * (wrap64 (a1_3 - a1_1)))) - (wrap64 ((wrap64 (a0_3 - a0_1)) * (wrap64 (a1_2 - a1_0)))))) true a0_0 a0_1 a0_2 a0_3 a1_0 a1_1 a1_2 a1_3) else ((plane_segment_meets.f k a0_0 a0_1 a0_2 a0_3 a1_0 a1_1 a1_2 a1_3).bind fun t718 => (plane_crossing.j0 k (wrap64 (a0_2 - a0_0)) (wrap64 (a0_3 - a0_1)) (wrap64 (a1_2 - a1_0)) (wrap64 (a1_3 - a1_1)) (wrap64 ((wrap64 ((wrap64 (a0_2 - a0_0)) * (wrap64 (a1_3 - a1_1)))) - (wrap64 ((wrap64 (a0_3 - a0_1)) * (wrap64 (a1_2 - a1_0)))))) (!t718) a0_0 a0_1 a0_2 a0_3 a1_0 a1_1 a1_2 a1_3))
theorem plane_crossing.mono_l : ∀ k, (∀ y0 y1 y2 y3 y4 y5 y6 y7 y8 y9 y10 y11 y12 y13, LeO (plane_crossing.j0 k y0 y1 y2 y3 y4 y5 y6 y7 y8 y9 y10 y11 y12 y13) (plane_crossing.j0 (k + 1) y0 y1 y2 y3 y4 y5 y6 y7 y8 y9 y10 y11 y12 y13))
 | 0 => fun _ _ _ _ _ _ _ _ _ _ _ _ _ _ r h => by simp [plane_crossing.j0] at h
 | k + 1 => by
  have ih0 := plane_crossing.mono_l k
  ·intro y0 y1 y2 y3 y4 y5 y6 y7 y8 y9 y10 y11 y12 y13
   unfold plane_crossing.j0
   repeat' first
   | (with_reducible exact ih0 _ _ _ _ _ _ _ _ _ _ _ _ _ _)
   | (with_reducible exact plane_segment_meets.mono _ _ _ _ _ _ _ _ _)
   | (with_reducible first | exact LeO.refl _ | exact LeO.none _ | refine LeO.ite ?_ ?_ | refine LeO.bind ?_ (fun _ => ?_))
   | exact ih0 _ _ _ _ _ _ _ _ _ _ _ _ _ _
   | exact plane_segment_meets.mono _ _ _ _ _ _ _ _ _
   | exact LeO.none _ | refine LeO.ite ?_ ?_ | refine LeO.bind ?_ (fun _ => ?_)
theorem plane_crossing.mono : ∀ a0 a1 a2 a3 a4 a5 a6 a7 k, LeO (plane_crossing.f k a0 a1 a2 a3 a4 a5 a6 a7) (plane_crossing.f (k + 1) a0 a1 a2 a3 a4 a5 a6 a7) := by
 intro a0 a1 a2 a3 a4 a5 a6 a7 k
 have ih0 := plane_crossing.mono_l k
 unfold plane_crossing.f
 repeat' first
   | (with_reducible exact ih0 _ _ _ _ _ _ _ _ _ _ _ _ _ _)
   | (with_reducible exact plane_segment_meets.mono _ _ _ _ _ _ _ _ _)
   | (with_reducible first | exact LeO.refl _ | exact LeO.none _ | refine LeO.ite ?_ ?_ | refine LeO.bind ?_ (fun _ => ?_))
   | exact ih0 _ _ _ _ _ _ _ _ _ _ _ _ _ _
   | exact plane_segment_meets.mono _ _ _ _ _ _ _ _ _
   | exact LeO.none _ | refine LeO.ite ?_ ?_ | refine LeO.bind ?_ (fun _ => ?_)
set_option maxHeartbeats 8000000 in
set_option maxRecDepth 100000 in
theorem plane_crossing.calls (k : Nat) (a0_0 : Int) (a0_1 : Int) (a0_2 : Int) (a0_3 : Int) (a1_0 : Int) (a1_1 : Int) (a1_2 : Int) (a1_3 : Int) (r1 : Bool) (r2 : Int) (r3 : Int) (r4 : Int) (r5 : Int) (r6 : Int) (r7 : Int) (r8 : Bool) (w : World) (h : plane_crossing.f k a0_0 a0_1 a0_2 a0_3 a1_0 a1_1 a1_2 a1_3 = some (r1, r2, r3, r4, r5, r6, r7, r8)) :
  Calls Try.prog 89 #[.agg #[.int .i64 a0_0, .int .i64 a0_1, .int .i64 a0_2, .int .i64 a0_3], .agg #[.int .i64 a1_0, .int .i64 a1_1, .int .i64 a1_2, .int .i64 a1_3]] w fun e w' => e = .returned (.tuple #[.agg #[.bool r1, .int .i64 r2, .int .i64 r3, .int .i64 r4, .int .i64 r5, .int .i64 r6, .int .i64 r7], .bool r8]) ∧ Below w.heap.size w w' := by
 have hu61 := Try.underlying61
 have hu44 := Try.underlying44
 have HB := Aside0.mk (Below.refl w.heap.size w)
 have H : (if (wrap64 ((wrap64 ((wrap64 (a0_2 - a0_0)) * (wrap64 (a1_3 - a1_1)))) - (wrap64 ((wrap64 (a0_3 - a0_1)) * (wrap64 (a1_2 - a1_0)))))) = 0 then (plane_crossing.j0 k (wrap64 (a0_2 - a0_0)) (wrap64 (a0_3 - a0_1)) (wrap64 (a1_2 - a1_0)) (wrap64 (a1_3 - a1_1)) (wrap64 ((wrap64 ((wrap64 (a0_2 - a0_0)) * (wrap64 (a1_3 - a1_1)))) - (wrap64 ((wrap64 (a0_3 - a0_1)) * (wrap64 (a1_2 - a1_0)))))) true a0_0 a0_1 a0_2 a0_3 a1_0 a1_1 a1_2 a1_3) else ((plane_segment_meets.f k a0_0 a0_1 a0_2 a0_3 a1_0 a1_1 a1_2 a1_3).bind fun t718 => (plane_crossing.j0 k (wrap64 (a0_2 - a0_0)) (wrap64 (a0_3 - a0_1)) (wrap64 (a1_2 - a1_0)) (wrap64 (a1_3 - a1_1)) (wrap64 ((wrap64 ((wrap64 (a0_2 - a0_0)) * (wrap64 (a1_3 - a1_1)))) - (wrap64 ((wrap64 (a0_3 - a0_1)) * (wrap64 (a1_2 - a1_0)))))) (!t718) a0_0 a0_1 a0_2 a0_3 a1_0 a1_1 a1_2 a1_3))) = some (r1, r2, r3, r4, r5, r6, r7, r8) := h
 clear h
 have HC3 := Aside0.mk H
 clear H
 go_enter Try.func89, Try.ntmps89
 go_upto_region 3 with (first | ((with_reducible refine gate_dst (N := 2) rfl ?_); refine bxe 2 #[.int .i64 a0_0, .int .i64 a0_1, .int .i64 a0_2, .int .i64 a0_3] 61 ?_; intro gb715 hg w4 hbox hb; have n0_ := Aside0.mk (below_step lB hb); have n1_ := Aside0.mk (hbox); have n2_ := Aside0.mk (lG (w := w) hg); have n3_ := Aside0.mk (lG (w := w) hg); clear HB; have HB := n0_; have BK715 := n1_; have GW715 := n2_; have GE715 := n3_; clear n0_ n1_ n2_ n3_; clear hb hbox hg) | ((with_reducible refine gate_dst (N := 3) rfl ?_); refine bxe 3 #[.int .i64 a1_0, .int .i64 a1_1, .int .i64 a1_2, .int .i64 a1_3] 61 ?_; intro gb716 hg w5 hbox hb; have n0_ := Aside0.mk (blk_below (g := gb715) (o := .cells #[.int .i64 a0_0, .int .i64 a0_1, .int .i64 a0_2, .int .i64 a0_3] 61 (0, 0)) (kX BK715.out) hb); have n1_ := Aside0.mk (below_step lB hb); have n2_ := Aside0.mk (hbox); have n3_ := Aside0.mk (lG (w := w) hg); have n4_ := Aside0.mk (lG (w := w) hg); have n5_ := Aside0.mk ((by rw [hg]; exact Nat.ne_of_lt (blk_lt (g := gb715) (o := .cells #[.int .i64 a0_0, .int .i64 a0_1, .int .i64 a0_2, .int .i64 a0_3] 61 (0, 0)) (kX BK715.out)) : gb715 ≠ gb716)); have n6_ := Aside0.mk ((by rw [hg]; exact Nat.ne_of_gt (blk_lt (g := gb715) (o := .cells #[.int .i64 a0_0, .int .i64 a0_1, .int .i64 a0_2, .int .i64 a0_3] 61 (0, 0)) (kX BK715.out)) : gb716 ≠ gb715)); clear BK715; clear HB; have BK715 := n0_; have HB := n1_; have BK716 := n2_; have GW716 := n3_; have GE716 := n4_; have NB715_716 := n5_; have NB716_715 := n6_; clear n0_ n1_ n2_ n3_ n4_ n5_ n6_; clear hb hbox hg) | ((with_reducible refine gate_dst (N := 4) rfl ?_); refine bxe 4 #[.bool false, .int .i64 0, .int .i64 0, .int .i64 0, .int .i64 0, .int .i64 0, .int .i64 0] 44 ?_; intro gb717 hg w6 hbox hb; have n0_ := Aside0.mk (blk_below (g := gb715) (o := .cells #[.int .i64 a0_0, .int .i64 a0_1, .int .i64 a0_2, .int .i64 a0_3] 61 (0, 0)) (kX BK715.out) hb); have n1_ := Aside0.mk (blk_below (g := gb716) (o := .cells #[.int .i64 a1_0, .int .i64 a1_1, .int .i64 a1_2, .int .i64 a1_3] 61 (0, 0)) (kX BK716.out) hb); have n2_ := Aside0.mk (below_step lB hb); have n3_ := Aside0.mk (hbox); have n4_ := Aside0.mk (lG (w := w) hg); have n5_ := Aside0.mk (lG (w := w) hg); have n6_ := Aside0.mk ((by rw [hg]; exact Nat.ne_of_lt (blk_lt (g := gb715) (o := .cells #[.int .i64 a0_0, .int .i64 a0_1, .int .i64 a0_2, .int .i64 a0_3] 61 (0, 0)) (kX BK715.out)) : gb715 ≠ gb717)); have n7_ := Aside0.mk ((by rw [hg]; exact Nat.ne_of_gt (blk_lt (g := gb715) (o := .cells #[.int .i64 a0_0, .int .i64 a0_1, .int .i64 a0_2, .int .i64 a0_3] 61 (0, 0)) (kX BK715.out)) : gb717 ≠ gb715)); have n8_ := Aside0.mk ((by rw [hg]; exact Nat.ne_of_lt (blk_lt (g := gb716) (o := .cells #[.int .i64 a1_0, .int .i64 a1_1, .int .i64 a1_2, .int .i64 a1_3] 61 (0, 0)) (kX BK716.out)) : gb716 ≠ gb717)); have n9_ := Aside0.mk ((by rw [hg]; exact Nat.ne_of_gt (blk_lt (g := gb716) (o := .cells #[.int .i64 a1_0, .int .i64 a1_1, .int .i64 a1_2, .int .i64 a1_3] 61 (0, 0)) (kX BK716.out)) : gb717 ≠ gb716)); clear BK715; clear BK716; clear HB; have BK715 := n0_; have BK716 := n1_; have HB := n2_; have BK717 := n3_; have GW717 := n4_; have GE717 := n5_; have NB715_717 := n6_; have NB717_715 := n7_; have NB716_717 := n8_; have NB717_716 := n9_; clear n0_ n1_ n2_ n3_ n4_ n5_ n6_ n7_ n8_ n9_; clear hb hbox hg; have hnb7 := NB715_716.out; have hnc7 := NB716_715.out; have hnb8 := NB715_717.out; have hnc8 := NB717_715.out; have hcz9_0 : w6.cell? ⟨gb715, 0, none⟩ = some (.int .i64 a0_0) := (blk_cell BK715.out 0).trans rfl; have hcz9_1 : w6.cell? ⟨gb715, 1, none⟩ = some (.int .i64 a0_1) := (blk_cell BK715.out 1).trans rfl; have hcz9_2 : w6.cell? ⟨gb715, 2, none⟩ = some (.int .i64 a0_2) := (blk_cell BK715.out 2).trans rfl; have hcz9_3 : w6.cell? ⟨gb715, 3, none⟩ = some (.int .i64 a0_3) := (blk_cell BK715.out 3).trans rfl; have hfz9_0 := blk_frozen BK715.out 0; have hfz9_1 := blk_frozen BK715.out 1; have hfz9_2 := blk_frozen BK715.out 2; have hfz9_3 := blk_frozen BK715.out 3; have hnb10 := NB716_717.out; have hnc10 := NB717_716.out; have hcz11_0 : w6.cell? ⟨gb716, 0, none⟩ = some (.int .i64 a1_0) := (blk_cell BK716.out 0).trans rfl; have hcz11_1 : w6.cell? ⟨gb716, 1, none⟩ = some (.int .i64 a1_1) := (blk_cell BK716.out 1).trans rfl; have hcz11_2 : w6.cell? ⟨gb716, 2, none⟩ = some (.int .i64 a1_2) := (blk_cell BK716.out 2).trans rfl; have hcz11_3 : w6.cell? ⟨gb716, 3, none⟩ = some (.int .i64 a1_3) := (blk_cell BK716.out 3).trans rfl; have hfz11_0 := blk_frozen BK716.out 0; have hfz11_1 := blk_frozen BK716.out 1; have hfz11_2 := blk_frozen BK716.out 2; have hfz11_3 := blk_frozen BK716.out 3))
 repeat (go_quiet (first | ((with_reducible refine gate_dst (N := 2) rfl ?_); refine bxe 2 #[.int .i64 a0_0, .int .i64 a0_1, .int .i64 a0_2, .int .i64 a0_3] 61 ?_; intro gb715 hg w4 hbox hb; have n0_ := Aside0.mk (below_step lB hb); have n1_ := Aside0.mk (hbox); have n2_ := Aside0.mk (lG (w := w) hg); have n3_ := Aside0.mk (lG (w := w) hg); clear HB; have HB := n0_; have BK715 := n1_; have GW715 := n2_; have GE715 := n3_; clear n0_ n1_ n2_ n3_; clear hb hbox hg) | ((with_reducible refine gate_dst (N := 3) rfl ?_); refine bxe 3 #[.int .i64 a1_0, .int .i64 a1_1, .int .i64 a1_2, .int .i64 a1_3] 61 ?_; intro gb716 hg w5 hbox hb; have n0_ := Aside0.mk (blk_below (g := gb715) (o := .cells #[.int .i64 a0_0, .int .i64 a0_1, .int .i64 a0_2, .int .i64 a0_3] 61 (0, 0)) (kX BK715.out) hb); have n1_ := Aside0.mk (below_step lB hb); have n2_ := Aside0.mk (hbox); have n3_ := Aside0.mk (lG (w := w) hg); have n4_ := Aside0.mk (lG (w := w) hg); have n5_ := Aside0.mk ((by rw [hg]; exact Nat.ne_of_lt (blk_lt (g := gb715) (o := .cells #[.int .i64 a0_0, .int .i64 a0_1, .int .i64 a0_2, .int .i64 a0_3] 61 (0, 0)) (kX BK715.out)) : gb715 ≠ gb716)); have n6_ := Aside0.mk ((by rw [hg]; exact Nat.ne_of_gt (blk_lt (g := gb715) (o := .cells #[.int .i64 a0_0, .int .i64 a0_1, .int .i64 a0_2, .int .i64 a0_3] 61 (0, 0)) (kX BK715.out)) : gb716 ≠ gb715)); clear BK715; clear HB; have BK715 := n0_; have HB := n1_; have BK716 := n2_; have GW716 := n3_; have GE716 := n4_; have NB715_716 := n5_; have NB716_715 := n6_; clear n0_ n1_ n2_ n3_ n4_ n5_ n6_; clear hb hbox hg) | ((with_reducible refine gate_dst (N := 4) rfl ?_); refine bxe 4 #[.bool false, .int .i64 0, .int .i64 0, .int .i64 0, .int .i64 0, .int .i64 0, .int .i64 0] 44 ?_; intro gb717 hg w6 hbox hb; have n0_ := Aside0.mk (blk_below (g := gb715) (o := .cells #[.int .i64 a0_0, .int .i64 a0_1, .int .i64 a0_2, .int .i64 a0_3] 61 (0, 0)) (kX BK715.out) hb); have n1_ := Aside0.mk (blk_below (g := gb716) (o := .cells #[.int .i64 a1_0, .int .i64 a1_1, .int .i64 a1_2, .int .i64 a1_3] 61 (0, 0)) (kX BK716.out) hb); have n2_ := Aside0.mk (below_step lB hb); have n3_ := Aside0.mk (hbox); have n4_ := Aside0.mk (lG (w := w) hg); have n5_ := Aside0.mk (lG (w := w) hg); have n6_ := Aside0.mk ((by rw [hg]; exact Nat.ne_of_lt (blk_lt (g := gb715) (o := .cells #[.int .i64 a0_0, .int .i64 a0_1, .int .i64 a0_2, .int .i64 a0_3] 61 (0, 0)) (kX BK715.out)) : gb715 ≠ gb717)); have n7_ := Aside0.mk ((by rw [hg]; exact Nat.ne_of_gt (blk_lt (g := gb715) (o := .cells #[.int .i64 a0_0, .int .i64 a0_1, .int .i64 a0_2, .int .i64 a0_3] 61 (0, 0)) (kX BK715.out)) : gb717 ≠ gb715)); have n8_ := Aside0.mk ((by rw [hg]; exact Nat.ne_of_lt (blk_lt (g := gb716) (o := .cells #[.int .i64 a1_0, .int .i64 a1_1, .int .i64 a1_2, .int .i64 a1_3] 61 (0, 0)) (kX BK716.out)) : gb716 ≠ gb717)); have n9_ := Aside0.mk ((by rw [hg]; exact Nat.ne_of_gt (blk_lt (g := gb716) (o := .cells #[.int .i64 a1_0, .int .i64 a1_1, .int .i64 a1_2, .int .i64 a1_3] 61 (0, 0)) (kX BK716.out)) : gb717 ≠ gb716)); clear BK715; clear BK716; clear HB; have BK715 := n0_; have BK716 := n1_; have HB := n2_; have BK717 := n3_; have GW717 := n4_; have GE717 := n5_; have NB715_717 := n6_; have NB717_715 := n7_; have NB716_717 := n8_; have NB717_716 := n9_; clear n0_ n1_ n2_ n3_ n4_ n5_ n6_ n7_ n8_ n9_; clear hb hbox hg; have hnb7 := NB715_716.out; have hnc7 := NB716_715.out; have hnb8 := NB715_717.out; have hnc8 := NB717_715.out; have hcz9_0 : w6.cell? ⟨gb715, 0, none⟩ = some (.int .i64 a0_0) := (blk_cell BK715.out 0).trans rfl; have hcz9_1 : w6.cell? ⟨gb715, 1, none⟩ = some (.int .i64 a0_1) := (blk_cell BK715.out 1).trans rfl; have hcz9_2 : w6.cell? ⟨gb715, 2, none⟩ = some (.int .i64 a0_2) := (blk_cell BK715.out 2).trans rfl; have hcz9_3 : w6.cell? ⟨gb715, 3, none⟩ = some (.int .i64 a0_3) := (blk_cell BK715.out 3).trans rfl; have hfz9_0 := blk_frozen BK715.out 0; have hfz9_1 := blk_frozen BK715.out 1; have hfz9_2 := blk_frozen BK715.out 2; have hfz9_3 := blk_frozen BK715.out 3; have hnb10 := NB716_717.out; have hnc10 := NB717_716.out; have hcz11_0 : w6.cell? ⟨gb716, 0, none⟩ = some (.int .i64 a1_0) := (blk_cell BK716.out 0).trans rfl; have hcz11_1 : w6.cell? ⟨gb716, 1, none⟩ = some (.int .i64 a1_1) := (blk_cell BK716.out 1).trans rfl; have hcz11_2 : w6.cell? ⟨gb716, 2, none⟩ = some (.int .i64 a1_2) := (blk_cell BK716.out 2).trans rfl; have hcz11_3 : w6.cell? ⟨gb716, 3, none⟩ = some (.int .i64 a1_3) := (blk_cell BK716.out 3).trans rfl; have hfz11_0 := blk_frozen BK716.out 0; have hfz11_1 := blk_frozen BK716.out 1; have hfz11_2 := blk_frozen BK716.out 2; have hfz11_3 := blk_frozen BK716.out 3)); go_upto_region 3 with (first | ((with_reducible refine gate_dst (N := 2) rfl ?_); refine bxe 2 #[.int .i64 a0_0, .int .i64 a0_1, .int .i64 a0_2, .int .i64 a0_3] 61 ?_; intro gb715 hg w4 hbox hb; have n0_ := Aside0.mk (below_step lB hb); have n1_ := Aside0.mk (hbox); have n2_ := Aside0.mk (lG (w := w) hg); have n3_ := Aside0.mk (lG (w := w) hg); clear HB; have HB := n0_; have BK715 := n1_; have GW715 := n2_; have GE715 := n3_; clear n0_ n1_ n2_ n3_; clear hb hbox hg) | ((with_reducible refine gate_dst (N := 3) rfl ?_); refine bxe 3 #[.int .i64 a1_0, .int .i64 a1_1, .int .i64 a1_2, .int .i64 a1_3] 61 ?_; intro gb716 hg w5 hbox hb; have n0_ := Aside0.mk (blk_below (g := gb715) (o := .cells #[.int .i64 a0_0, .int .i64 a0_1, .int .i64 a0_2, .int .i64 a0_3] 61 (0, 0)) (kX BK715.out) hb); have n1_ := Aside0.mk (below_step lB hb); have n2_ := Aside0.mk (hbox); have n3_ := Aside0.mk (lG (w := w) hg); have n4_ := Aside0.mk (lG (w := w) hg); have n5_ := Aside0.mk ((by rw [hg]; exact Nat.ne_of_lt (blk_lt (g := gb715) (o := .cells #[.int .i64 a0_0, .int .i64 a0_1, .int .i64 a0_2, .int .i64 a0_3] 61 (0, 0)) (kX BK715.out)) : gb715 ≠ gb716)); have n6_ := Aside0.mk ((by rw [hg]; exact Nat.ne_of_gt (blk_lt (g := gb715) (o := .cells #[.int .i64 a0_0, .int .i64 a0_1, .int .i64 a0_2, .int .i64 a0_3] 61 (0, 0)) (kX BK715.out)) : gb716 ≠ gb715)); clear BK715; clear HB; have BK715 := n0_; have HB := n1_; have BK716 := n2_; have GW716 := n3_; have GE716 := n4_; have NB715_716 := n5_; have NB716_715 := n6_; clear n0_ n1_ n2_ n3_ n4_ n5_ n6_; clear hb hbox hg) | ((with_reducible refine gate_dst (N := 4) rfl ?_); refine bxe 4 #[.bool false, .int .i64 0, .int .i64 0, .int .i64 0, .int .i64 0, .int .i64 0, .int .i64 0] 44 ?_; intro gb717 hg w6 hbox hb; have n0_ := Aside0.mk (blk_below (g := gb715) (o := .cells #[.int .i64 a0_0, .int .i64 a0_1, .int .i64 a0_2, .int .i64 a0_3] 61 (0, 0)) (kX BK715.out) hb); have n1_ := Aside0.mk (blk_below (g := gb716) (o := .cells #[.int .i64 a1_0, .int .i64 a1_1, .int .i64 a1_2, .int .i64 a1_3] 61 (0, 0)) (kX BK716.out) hb); have n2_ := Aside0.mk (below_step lB hb); have n3_ := Aside0.mk (hbox); have n4_ := Aside0.mk (lG (w := w) hg); have n5_ := Aside0.mk (lG (w := w) hg); have n6_ := Aside0.mk ((by rw [hg]; exact Nat.ne_of_lt (blk_lt (g := gb715) (o := .cells #[.int .i64 a0_0, .int .i64 a0_1, .int .i64 a0_2, .int .i64 a0_3] 61 (0, 0)) (kX BK715.out)) : gb715 ≠ gb717)); have n7_ := Aside0.mk ((by rw [hg]; exact Nat.ne_of_gt (blk_lt (g := gb715) (o := .cells #[.int .i64 a0_0, .int .i64 a0_1, .int .i64 a0_2, .int .i64 a0_3] 61 (0, 0)) (kX BK715.out)) : gb717 ≠ gb715)); have n8_ := Aside0.mk ((by rw [hg]; exact Nat.ne_of_lt (blk_lt (g := gb716) (o := .cells #[.int .i64 a1_0, .int .i64 a1_1, .int .i64 a1_2, .int .i64 a1_3] 61 (0, 0)) (kX BK716.out)) : gb716 ≠ gb717)); have n9_ := Aside0.mk ((by rw [hg]; exact Nat.ne_of_gt (blk_lt (g := gb716) (o := .cells #[.int .i64 a1_0, .int .i64 a1_1, .int .i64 a1_2, .int .i64 a1_3] 61 (0, 0)) (kX BK716.out)) : gb717 ≠ gb716)); clear BK715; clear BK716; clear HB; have BK715 := n0_; have BK716 := n1_; have HB := n2_; have BK717 := n3_; have GW717 := n4_; have GE717 := n5_; have NB715_717 := n6_; have NB717_715 := n7_; have NB716_717 := n8_; have NB717_716 := n9_; clear n0_ n1_ n2_ n3_ n4_ n5_ n6_ n7_ n8_ n9_; clear hb hbox hg; have hnb7 := NB715_716.out; have hnc7 := NB716_715.out; have hnb8 := NB715_717.out; have hnc8 := NB717_715.out; have hcz9_0 : w6.cell? ⟨gb715, 0, none⟩ = some (.int .i64 a0_0) := (blk_cell BK715.out 0).trans rfl; have hcz9_1 : w6.cell? ⟨gb715, 1, none⟩ = some (.int .i64 a0_1) := (blk_cell BK715.out 1).trans rfl; have hcz9_2 : w6.cell? ⟨gb715, 2, none⟩ = some (.int .i64 a0_2) := (blk_cell BK715.out 2).trans rfl; have hcz9_3 : w6.cell? ⟨gb715, 3, none⟩ = some (.int .i64 a0_3) := (blk_cell BK715.out 3).trans rfl; have hfz9_0 := blk_frozen BK715.out 0; have hfz9_1 := blk_frozen BK715.out 1; have hfz9_2 := blk_frozen BK715.out 2; have hfz9_3 := blk_frozen BK715.out 3; have hnb10 := NB716_717.out; have hnc10 := NB717_716.out; have hcz11_0 : w6.cell? ⟨gb716, 0, none⟩ = some (.int .i64 a1_0) := (blk_cell BK716.out 0).trans rfl; have hcz11_1 : w6.cell? ⟨gb716, 1, none⟩ = some (.int .i64 a1_1) := (blk_cell BK716.out 1).trans rfl; have hcz11_2 : w6.cell? ⟨gb716, 2, none⟩ = some (.int .i64 a1_2) := (blk_cell BK716.out 2).trans rfl; have hcz11_3 : w6.cell? ⟨gb716, 3, none⟩ = some (.int .i64 a1_3) := (blk_cell BK716.out 3).trans rfl; have hfz11_0 := blk_frozen BK716.out 0; have hfz11_1 := blk_frozen BK716.out 1; have hfz11_2 := blk_frozen BK716.out 2; have hfz11_3 := blk_frozen BK716.out 3)))
 (try simp only [Act.put, sA, sB, sC])
 go_cut [54] (fun v54 wc => ∃ (kq : Nat) (x54_2 : Bool), v54 = .bool x54_2 ∧ Aside0 (plane_crossing.j0 kq (wrap64 (a0_2 - a0_0)) (wrap64 (a0_3 - a0_1)) (wrap64 (a1_2 - a1_0)) (wrap64 (a1_3 - a1_1)) (wrap64 ((wrap64 ((wrap64 (a0_2 - a0_0)) * (wrap64 (a1_3 - a1_1)))) - (wrap64 ((wrap64 (a0_3 - a0_1)) * (wrap64 (a1_2 - a1_0)))))) x54_2 a0_0 a0_1 a0_2 a0_3 a1_0 a1_1 a1_2 a1_3 = some (r1, r2, r3, r4, r5, r6, r7, r8)) ∧ Aside0 (kq ≤ k) ∧ Aside0 (wc.heap[gb715]? = some (.cells #[.int .i64 a0_0, .int .i64 a0_1, .int .i64 a0_2, .int .i64 a0_3] 61 (0, 0))) ∧ Aside0 (wc.heap[gb716]? = some (.cells #[.int .i64 a1_0, .int .i64 a1_1, .int .i64 a1_2, .int .i64 a1_3] 61 (0, 0))) ∧ Aside0 (wc.heap[gb717]? = some (.cells #[.bool false, .int .i64 0, .int .i64 0, .int .i64 0, .int .i64 0, .int .i64 0, .int .i64 0] 44 (0, 0))) ∧ Aside0 (Below w.heap.size w wc))
 case first =>
  have H := HC3.out
  clear HC3
  by_cases c12 : (wrap64 ((wrap64 ((wrap64 (a0_2 - a0_0)) * (wrap64 (a1_3 - a1_1)))) - (wrap64 ((wrap64 (a0_3 - a0_1)) * (wrap64 (a1_2 - a1_0)))))) = 0
  ·rw [if_pos c12] at H
   have c12b0 : ((wrap64 ((wrap64 ((wrap64 (a0_2 - a0_0)) * (wrap64 (a1_3 - a1_1)))) - (wrap64 ((wrap64 (a0_3 - a0_1)) * (wrap64 (a1_2 - a1_0)))))) == 0) = true := beq_iff_eq.mpr c12
   have c12b1 : ((wrap64 ((wrap64 ((wrap64 (a0_2 - a0_0)) * (wrap64 (a1_3 - a1_1)))) - (wrap64 ((wrap64 (a0_3 - a0_1)) * (wrap64 (a1_2 - a1_0)))))) != 0) = false := bne_eq_false_iff_eq.mpr c12
   clear c12
   (first | rw [c12b0] | (simp only [i64_w, i32_w]; rw [c12b0]) | skip)
   have H' := Aside0.mk H
   clear H
   go_wp2
   repeat (go_quiet (fail); try go_wp2)
   go_meet
   case rel => exact ⟨_, (true), (by first | rfl | (simp; done) | (simp [*]; done)), H', ⟨by first | omega | exact Nat.le_refl _⟩, ⟨by (with_reducible repeat (first | refine kN ?_ _ | refine kD ?_ | refine kA ?_ _)); exact BK715.out⟩, ⟨by (with_reducible repeat (first | refine kN ?_ _ | refine kD ?_ | refine kA ?_ _)); exact BK716.out⟩, ⟨by (with_reducible repeat (first | refine kN ?_ _ | refine kD ?_ | refine kA ?_ _)); exact BK717.out⟩, ⟨by repeat (first | (with_reducible first | exact HB.out | apply lA | apply lN | apply lD | refine lS ?_ GE715.out | refine lS ?_ GE716.out | refine lS ?_ GE717.out) | exact HB.out)⟩⟩
  rw [if_neg c12] at H
  have c12b0 : ((wrap64 ((wrap64 ((wrap64 (a0_2 - a0_0)) * (wrap64 (a1_3 - a1_1)))) - (wrap64 ((wrap64 (a0_3 - a0_1)) * (wrap64 (a1_2 - a1_0)))))) == 0) = false := beq_eq_false_iff_ne.mpr c12
  have c12b1 : ((wrap64 ((wrap64 ((wrap64 (a0_2 - a0_0)) * (wrap64 (a1_3 - a1_1)))) - (wrap64 ((wrap64 (a0_3 - a0_1)) * (wrap64 (a1_2 - a1_0)))))) != 0) = true := bne_iff_ne.mpr c12
  (first | rw [c12b0] | (simp only [i64_w, i32_w]; rw [c12b0]) | skip)
  replace H := Option.bind_eq_some_iff.mp H
  obtain ⟨t718, A130, H⟩ := H
  replace H : (plane_crossing.j0 k (wrap64 (a0_2 - a0_0)) (wrap64 (a0_3 - a0_1)) (wrap64 (a1_2 - a1_0)) (wrap64 (a1_3 - a1_1)) (wrap64 ((wrap64 ((wrap64 (a0_2 - a0_0)) * (wrap64 (a1_3 - a1_1)))) - (wrap64 ((wrap64 (a0_3 - a0_1)) * (wrap64 (a1_2 - a1_0)))))) (!t718) a0_0 a0_1 a0_2 a0_3 a1_0 a1_1 a1_2 a1_3) = some (r1, r2, r3, r4, r5, r6, r7, r8) := H
  have A13 := Aside0.mk A130
  clear A130
  have H' := Aside0.mk H
  clear H
  have hnb14 := NB715_716.out
  have hnc14 := NB716_715.out
  have hnb15 := NB715_717.out
  have hnc15 := NB717_715.out
  have hcz16_0 : w6.cell? ⟨gb715, 0, none⟩ = some (.int .i64 a0_0) := (blk_cell BK715.out 0).trans rfl
  have hcz16_1 : w6.cell? ⟨gb715, 1, none⟩ = some (.int .i64 a0_1) := (blk_cell BK715.out 1).trans rfl
  have hcz16_2 : w6.cell? ⟨gb715, 2, none⟩ = some (.int .i64 a0_2) := (blk_cell BK715.out 2).trans rfl
  have hcz16_3 : w6.cell? ⟨gb715, 3, none⟩ = some (.int .i64 a0_3) := (blk_cell BK715.out 3).trans rfl
  have hfz16_0 := blk_frozen BK715.out 0
  have hfz16_1 := blk_frozen BK715.out 1
  have hfz16_2 := blk_frozen BK715.out 2
  have hfz16_3 := blk_frozen BK715.out 3
  have hnb17 := NB716_717.out
  have hnc17 := NB717_716.out
  have hcz18_0 : w6.cell? ⟨gb716, 0, none⟩ = some (.int .i64 a1_0) := (blk_cell BK716.out 0).trans rfl
  have hcz18_1 : w6.cell? ⟨gb716, 1, none⟩ = some (.int .i64 a1_1) := (blk_cell BK716.out 1).trans rfl
  have hcz18_2 : w6.cell? ⟨gb716, 2, none⟩ = some (.int .i64 a1_2) := (blk_cell BK716.out 2).trans rfl
  have hcz18_3 : w6.cell? ⟨gb716, 3, none⟩ = some (.int .i64 a1_3) := (blk_cell BK716.out 3).trans rfl
  have hfz18_0 := blk_frozen BK716.out 0
  have hfz18_1 := blk_frozen BK716.out 1
  have hfz18_2 := blk_frozen BK716.out 2
  have hfz18_3 := blk_frozen BK716.out 3
  go_wp2_with (first | (go_at_call 58; (with_reducible refine (plane_segment_meets.calls k a0_0 a0_1 a0_2 a0_3 a1_0 a1_1 a1_2 a1_3 t718 _ A13.out).mono ?_); rintro e w19 ⟨rfl, hb⟩; have n0_ := Aside0.mk (blk_below (g := gb715) (o := .cells #[.int .i64 a0_0, .int .i64 a0_1, .int .i64 a0_2, .int .i64 a0_3] 61 (0, 0)) (kX BK715.out) hb); have n1_ := Aside0.mk (blk_below (g := gb716) (o := .cells #[.int .i64 a1_0, .int .i64 a1_1, .int .i64 a1_2, .int .i64 a1_3] 61 (0, 0)) (kX BK716.out) hb); have n2_ := Aside0.mk (blk_below (g := gb717) (o := .cells #[.bool false, .int .i64 0, .int .i64 0, .int .i64 0, .int .i64 0, .int .i64 0, .int .i64 0] 44 (0, 0)) (kX BK717.out) hb); have n3_ := Aside0.mk (below_step lB hb); clear BK715; clear BK716; clear BK717; clear HB; have BK715 := n0_; have BK716 := n1_; have BK717 := n2_; have HB := n3_; clear n0_ n1_ n2_ n3_; (try clear hb); (try clear hb2); (try clear hk); (try clear hi)))
  repeat (go_quiet (first | (go_at_call 58; (with_reducible refine (plane_segment_meets.calls k a0_0 a0_1 a0_2 a0_3 a1_0 a1_1 a1_2 a1_3 t718 _ A13.out).mono ?_); rintro e w19 ⟨rfl, hb⟩; have n0_ := Aside0.mk (blk_below (g := gb715) (o := .cells #[.int .i64 a0_0, .int .i64 a0_1, .int .i64 a0_2, .int .i64 a0_3] 61 (0, 0)) (kX BK715.out) hb); have n1_ := Aside0.mk (blk_below (g := gb716) (o := .cells #[.int .i64 a1_0, .int .i64 a1_1, .int .i64 a1_2, .int .i64 a1_3] 61 (0, 0)) (kX BK716.out) hb); have n2_ := Aside0.mk (blk_below (g := gb717) (o := .cells #[.bool false, .int .i64 0, .int .i64 0, .int .i64 0, .int .i64 0, .int .i64 0, .int .i64 0] 44 (0, 0)) (kX BK717.out) hb); have n3_ := Aside0.mk (below_step lB hb); clear BK715; clear BK716; clear BK717; clear HB; have BK715 := n0_; have BK716 := n1_; have BK717 := n2_; have HB := n3_; clear n0_ n1_ n2_ n3_; (try clear hb); (try clear hb2); (try clear hk); (try clear hi))); try go_wp2_with (first | (go_at_call 58; (with_reducible refine (plane_segment_meets.calls k a0_0 a0_1 a0_2 a0_3 a1_0 a1_1 a1_2 a1_3 t718 _ A13.out).mono ?_); rintro e w19 ⟨rfl, hb⟩; have n0_ := Aside0.mk (blk_below (g := gb715) (o := .cells #[.int .i64 a0_0, .int .i64 a0_1, .int .i64 a0_2, .int .i64 a0_3] 61 (0, 0)) (kX BK715.out) hb); have n1_ := Aside0.mk (blk_below (g := gb716) (o := .cells #[.int .i64 a1_0, .int .i64 a1_1, .int .i64 a1_2, .int .i64 a1_3] 61 (0, 0)) (kX BK716.out) hb); have n2_ := Aside0.mk (blk_below (g := gb717) (o := .cells #[.bool false, .int .i64 0, .int .i64 0, .int .i64 0, .int .i64 0, .int .i64 0, .int .i64 0] 44 (0, 0)) (kX BK717.out) hb); have n3_ := Aside0.mk (below_step lB hb); clear BK715; clear BK716; clear BK717; clear HB; have BK715 := n0_; have BK716 := n1_; have BK717 := n2_; have HB := n3_; clear n0_ n1_ n2_ n3_; (try clear hb); (try clear hb2); (try clear hk); (try clear hi))))
  go_meet
  case rel => exact ⟨_, (!t718), (by first | rfl | (simp; done) | (simp [*]; done)), H', ⟨by first | omega | exact Nat.le_refl _⟩, ⟨by (with_reducible repeat (first | refine kN ?_ _ | refine kD ?_ | refine kA ?_ _)); exact BK715.out⟩, ⟨by (with_reducible repeat (first | refine kN ?_ _ | refine kD ?_ | refine kA ?_ _)); exact BK716.out⟩, ⟨by (with_reducible repeat (first | refine kN ?_ _ | refine kD ?_ | refine kA ?_ _)); exact BK717.out⟩, ⟨by repeat (first | (with_reducible first | exact HB.out | apply lA | apply lN | apply lD | refine lS ?_ GE715.out | refine lS ?_ GE716.out | refine lS ?_ GE717.out) | exact HB.out)⟩⟩
 case rest =>
  clear HC3
  try clear c1
  try clear p2
  try clear p6
  try clear c7
  try clear c8
  try clear c10
  try clear c12
  try clear c12b0
  try clear c12b1
  try clear c14
  try clear c15
  try clear c17
  try clear hcz11_0
  try clear hcz11_1
  try clear hcz11_2
  try clear hcz11_3
  try clear hcz16_0
  try clear hcz16_1
  try clear hcz16_2
  try clear hcz16_3
  try clear hcz18_0
  try clear hcz18_1
  try clear hcz18_2
  try clear hcz18_3
  try clear hcz9_0
  try clear hcz9_1
  try clear hcz9_2
  try clear hcz9_3
  try clear hfz11_0
  try clear hfz11_1
  try clear hfz11_2
  try clear hfz11_3
  try clear hfz16_0
  try clear hfz16_1
  try clear hfz16_2
  try clear hfz16_3
  try clear hfz18_0
  try clear hfz18_1
  try clear hfz18_2
  try clear hfz18_3
  try clear hfz9_0
  try clear hfz9_1
  try clear hfz9_2
  try clear hfz9_3
  obtain ⟨kq, x54_2, rfl, HA, HJ2, BK715, BK716, BK717, HB⟩ := hcut
  cases kq with
  | zero => exact absurd HA.out (by simp [plane_crossing.j0])
  | succ kj2 =>
   have H := HA.out
   clear HA
   simp only [plane_crossing.j0] at H
   by_cases c20 : x54_2 = true
   ·subst c20
    have H1 : (some (false, 0, 0, 0, 0, 0, 0, false)) = some (r1, r2, r3, r4, r5, r6, r7, r8) := by rw [if_pos rfl] at H; exact H
    clear H
    have H := H1
    clear H1
    simp only [Option.some.injEq, Prod.mk.injEq] at H
    obtain ⟨rfl, rfl, rfl, rfl, rfl, rfl, rfl, rfl⟩ := H
    have hnb21 := NB717_715.out
    have hnc21 := NB715_717.out
    have hnb22 := NB717_716.out
    have hnc22 := NB716_717.out
    have hcz23_0 : wc.cell? ⟨gb717, 0, none⟩ = some (.bool false) := (blk_cell BK717.out 0).trans rfl
    have hcz23_1 : wc.cell? ⟨gb717, 1, none⟩ = some (.int .i64 0) := (blk_cell BK717.out 1).trans rfl
    have hcz23_2 : wc.cell? ⟨gb717, 2, none⟩ = some (.int .i64 0) := (blk_cell BK717.out 2).trans rfl
    have hcz23_3 : wc.cell? ⟨gb717, 3, none⟩ = some (.int .i64 0) := (blk_cell BK717.out 3).trans rfl
    have hcz23_4 : wc.cell? ⟨gb717, 4, none⟩ = some (.int .i64 0) := (blk_cell BK717.out 4).trans rfl
    have hcz23_5 : wc.cell? ⟨gb717, 5, none⟩ = some (.int .i64 0) := (blk_cell BK717.out 5).trans rfl
    have hcz23_6 : wc.cell? ⟨gb717, 6, none⟩ = some (.int .i64 0) := (blk_cell BK717.out 6).trans rfl
    have hfz23_0 := blk_frozen BK717.out 0
    have hfz23_1 := blk_frozen BK717.out 1
    have hfz23_2 := blk_frozen BK717.out 2
    have hfz23_3 := blk_frozen BK717.out 3
    have hfz23_4 := blk_frozen BK717.out 4
    have hfz23_5 := blk_frozen BK717.out 5
    have hfz23_6 := blk_frozen BK717.out 6
    go_wp2
    repeat (go_quiet (fail); try go_wp2)
    refine bodyPost_ret (results_ct rfl _ _ gb717 44 #[.bool false, .int .i64 0, .int .i64 0, .int .i64 0, .int .i64 0, .int .i64 0, .int .i64 0] (0, 0) _ rfl (by (with_reducible repeat (first | refine kN ?_ _ | refine kD ?_ | refine kA ?_ _)); refine blk_put (cs := #[.bool false, .int .i64 0, .int .i64 0, .int .i64 0, .int .i64 0, .int .i64 0, .int .i64 0]) ?_ 6 _ rfl; (with_reducible repeat (first | refine kN ?_ _ | refine kD ?_ | refine kA ?_ _)); refine blk_put (cs := #[.bool false, .int .i64 0, .int .i64 0, .int .i64 0, .int .i64 0, .int .i64 0, .int .i64 0]) ?_ 5 _ rfl; (with_reducible repeat (first | refine kN ?_ _ | refine kD ?_ | refine kA ?_ _)); refine blk_put (cs := #[.bool false, .int .i64 0, .int .i64 0, .int .i64 0, .int .i64 0, .int .i64 0, .int .i64 0]) ?_ 4 _ rfl; (with_reducible repeat (first | refine kN ?_ _ | refine kD ?_ | refine kA ?_ _)); refine blk_put (cs := #[.bool false, .int .i64 0, .int .i64 0, .int .i64 0, .int .i64 0, .int .i64 0, .int .i64 0]) ?_ 3 _ rfl; (with_reducible repeat (first | refine kN ?_ _ | refine kD ?_ | refine kA ?_ _)); refine blk_put (cs := #[.bool false, .int .i64 0, .int .i64 0, .int .i64 0, .int .i64 0, .int .i64 0, .int .i64 0]) ?_ 2 _ rfl; (with_reducible repeat (first | refine kN ?_ _ | refine kD ?_ | refine kA ?_ _)); refine blk_put (cs := #[.bool false, .int .i64 0, .int .i64 0, .int .i64 0, .int .i64 0, .int .i64 0, .int .i64 0]) ?_ 1 _ rfl; (with_reducible repeat (first | refine kN ?_ _ | refine kD ?_ | refine kA ?_ _)); refine blk_put (cs := #[.bool false, .int .i64 0, .int .i64 0, .int .i64 0, .int .i64 0, .int .i64 0, .int .i64 0]) ?_ 0 _ rfl; (with_reducible repeat (first | refine kN ?_ _ | refine kD ?_ | refine kA ?_ _)); exact BK717.out) Try.underlying44 rfl (by kernel_rfl)) rfl ?_
    exact en
   ·replace c20 := Bool.eq_false_iff.mpr c20
    subst c20
    have H1 : (if (wrap64 ((wrap64 ((wrap64 (a0_2 - a0_0)) * (wrap64 (a1_3 - a1_1)))) - (wrap64 ((wrap64 (a0_3 - a0_1)) * (wrap64 (a1_2 - a1_0)))))) < 0 then (some (true, wrap64 ((wrap64 (a0_0 * (wrap64 (-(wrap64 ((wrap64 ((wrap64 (a0_2 - a0_0)) * (wrap64 (a1_3 - a1_1)))) - (wrap64 ((wrap64 (a0_3 - a0_1)) * (wrap64 (a1_2 - a1_0)))))))))) + (wrap64 ((wrap64 (-(wrap64 ((wrap64 ((wrap64 (a1_0 - a0_0)) * (wrap64 (a1_3 - a1_1)))) - (wrap64 ((wrap64 (a1_1 - a0_1)) * (wrap64 (a1_2 - a1_0)))))))) * (wrap64 (a0_2 - a0_0))))), wrap64 ((wrap64 (a0_1 * (wrap64 (-(wrap64 ((wrap64 ((wrap64 (a0_2 - a0_0)) * (wrap64 (a1_3 - a1_1)))) - (wrap64 ((wrap64 (a0_3 - a0_1)) * (wrap64 (a1_2 - a1_0)))))))))) + (wrap64 ((wrap64 (-(wrap64 ((wrap64 ((wrap64 (a1_0 - a0_0)) * (wrap64 (a1_3 - a1_1)))) - (wrap64 ((wrap64 (a1_1 - a0_1)) * (wrap64 (a1_2 - a1_0)))))))) * (wrap64 (a0_3 - a0_1))))), wrap64 (-(wrap64 ((wrap64 ((wrap64 (a0_2 - a0_0)) * (wrap64 (a1_3 - a1_1)))) - (wrap64 ((wrap64 (a0_3 - a0_1)) * (wrap64 (a1_2 - a1_0))))))), 0, 0, 0, true)) else (some (true, wrap64 ((wrap64 (a0_0 * (wrap64 ((wrap64 ((wrap64 (a0_2 - a0_0)) * (wrap64 (a1_3 - a1_1)))) - (wrap64 ((wrap64 (a0_3 - a0_1)) * (wrap64 (a1_2 - a1_0)))))))) + (wrap64 ((wrap64 ((wrap64 ((wrap64 (a1_0 - a0_0)) * (wrap64 (a1_3 - a1_1)))) - (wrap64 ((wrap64 (a1_1 - a0_1)) * (wrap64 (a1_2 - a1_0)))))) * (wrap64 (a0_2 - a0_0))))), wrap64 ((wrap64 (a0_1 * (wrap64 ((wrap64 ((wrap64 (a0_2 - a0_0)) * (wrap64 (a1_3 - a1_1)))) - (wrap64 ((wrap64 (a0_3 - a0_1)) * (wrap64 (a1_2 - a1_0)))))))) + (wrap64 ((wrap64 ((wrap64 ((wrap64 (a1_0 - a0_0)) * (wrap64 (a1_3 - a1_1)))) - (wrap64 ((wrap64 (a1_1 - a0_1)) * (wrap64 (a1_2 - a1_0)))))) * (wrap64 (a0_3 - a0_1))))), (wrap64 ((wrap64 ((wrap64 (a0_2 - a0_0)) * (wrap64 (a1_3 - a1_1)))) - (wrap64 ((wrap64 (a0_3 - a0_1)) * (wrap64 (a1_2 - a1_0)))))), 0, 0, 0, true))) = some (r1, r2, r3, r4, r5, r6, r7, r8) := by rw [if_neg (show ¬ (false = true) by decide)] at H; exact H
    clear H
    have H := H1
    clear H1
    by_cases c24 : (wrap64 ((wrap64 ((wrap64 (a0_2 - a0_0)) * (wrap64 (a1_3 - a1_1)))) - (wrap64 ((wrap64 (a0_3 - a0_1)) * (wrap64 (a1_2 - a1_0)))))) < 0
    ·rw [if_pos c24] at H
     have c24b0 : decide ((wrap64 ((wrap64 ((wrap64 (a0_2 - a0_0)) * (wrap64 (a1_3 - a1_1)))) - (wrap64 ((wrap64 (a0_3 - a0_1)) * (wrap64 (a1_2 - a1_0)))))) < 0) = true := decide_eq_true c24
     clear c24
     simp only [Option.some.injEq, Prod.mk.injEq] at H
     obtain ⟨rfl, rfl, rfl, rfl, rfl, rfl, rfl, rfl⟩ := H
     have hnb25 := NB716_715.out
     have hnc25 := NB715_716.out
     have hnb26 := NB716_717.out
     have hnc26 := NB717_716.out
     have hcz27_0 : wc.cell? ⟨gb716, 0, none⟩ = some (.int .i64 a1_0) := (blk_cell BK716.out 0).trans rfl
     have hcz27_1 : wc.cell? ⟨gb716, 1, none⟩ = some (.int .i64 a1_1) := (blk_cell BK716.out 1).trans rfl
     have hcz27_2 : wc.cell? ⟨gb716, 2, none⟩ = some (.int .i64 a1_2) := (blk_cell BK716.out 2).trans rfl
     have hcz27_3 : wc.cell? ⟨gb716, 3, none⟩ = some (.int .i64 a1_3) := (blk_cell BK716.out 3).trans rfl
     have hfz27_0 := blk_frozen BK716.out 0
     have hfz27_1 := blk_frozen BK716.out 1
     have hfz27_2 := blk_frozen BK716.out 2
     have hfz27_3 := blk_frozen BK716.out 3
     have hnb28 := NB715_717.out
     have hnc28 := NB717_715.out
     have hcz29_0 : wc.cell? ⟨gb715, 0, none⟩ = some (.int .i64 a0_0) := (blk_cell BK715.out 0).trans rfl
     have hcz29_1 : wc.cell? ⟨gb715, 1, none⟩ = some (.int .i64 a0_1) := (blk_cell BK715.out 1).trans rfl
     have hcz29_2 : wc.cell? ⟨gb715, 2, none⟩ = some (.int .i64 a0_2) := (blk_cell BK715.out 2).trans rfl
     have hcz29_3 : wc.cell? ⟨gb715, 3, none⟩ = some (.int .i64 a0_3) := (blk_cell BK715.out 3).trans rfl
     have hfz29_0 := blk_frozen BK715.out 0
     have hfz29_1 := blk_frozen BK715.out 1
     have hfz29_2 := blk_frozen BK715.out 2
     have hfz29_3 := blk_frozen BK715.out 3
     have hcz30_0 : wc.cell? ⟨gb717, 0, none⟩ = some (.bool false) := (blk_cell BK717.out 0).trans rfl
     have hcz30_1 : wc.cell? ⟨gb717, 1, none⟩ = some (.int .i64 0) := (blk_cell BK717.out 1).trans rfl
     have hcz30_2 : wc.cell? ⟨gb717, 2, none⟩ = some (.int .i64 0) := (blk_cell BK717.out 2).trans rfl
     have hcz30_3 : wc.cell? ⟨gb717, 3, none⟩ = some (.int .i64 0) := (blk_cell BK717.out 3).trans rfl
     have hcz30_4 : wc.cell? ⟨gb717, 4, none⟩ = some (.int .i64 0) := (blk_cell BK717.out 4).trans rfl
     have hcz30_5 : wc.cell? ⟨gb717, 5, none⟩ = some (.int .i64 0) := (blk_cell BK717.out 5).trans rfl
     have hcz30_6 : wc.cell? ⟨gb717, 6, none⟩ = some (.int .i64 0) := (blk_cell BK717.out 6).trans rfl
     have hfz30_0 := blk_frozen BK717.out 0
     have hfz30_1 := blk_frozen BK717.out 1
     have hfz30_2 := blk_frozen BK717.out 2
     have hfz30_3 := blk_frozen BK717.out 3
     have hfz30_4 := blk_frozen BK717.out 4
     have hfz30_5 := blk_frozen BK717.out 5
     have hfz30_6 := blk_frozen BK717.out 6
     go_wp2
     repeat (go_quiet (fail); try go_wp2)
     refine bodyPost_ret (results_ct rfl _ _ gb717 44 #[.bool true, .int .i64 (wrap64 ((wrap64 (a0_0 * (wrap64 (-(wrap64 ((wrap64 ((wrap64 (a0_2 - a0_0)) * (wrap64 (a1_3 - a1_1)))) - (wrap64 ((wrap64 (a0_3 - a0_1)) * (wrap64 (a1_2 - a1_0)))))))))) + (wrap64 ((wrap64 (-(wrap64 ((wrap64 ((wrap64 (a1_0 - a0_0)) * (wrap64 (a1_3 - a1_1)))) - (wrap64 ((wrap64 (a1_1 - a0_1)) * (wrap64 (a1_2 - a1_0)))))))) * (wrap64 (a0_2 - a0_0)))))), .int .i64 (wrap64 ((wrap64 (a0_1 * (wrap64 (-(wrap64 ((wrap64 ((wrap64 (a0_2 - a0_0)) * (wrap64 (a1_3 - a1_1)))) - (wrap64 ((wrap64 (a0_3 - a0_1)) * (wrap64 (a1_2 - a1_0)))))))))) + (wrap64 ((wrap64 (-(wrap64 ((wrap64 ((wrap64 (a1_0 - a0_0)) * (wrap64 (a1_3 - a1_1)))) - (wrap64 ((wrap64 (a1_1 - a0_1)) * (wrap64 (a1_2 - a1_0)))))))) * (wrap64 (a0_3 - a0_1)))))), .int .i64 (wrap64 (-(wrap64 ((wrap64 ((wrap64 (a0_2 - a0_0)) * (wrap64 (a1_3 - a1_1)))) - (wrap64 ((wrap64 (a0_3 - a0_1)) * (wrap64 (a1_2 - a1_0)))))))), .int .i64 0, .int .i64 0, .int .i64 0] (0, 0) _ rfl (by (with_reducible repeat (first | refine kN ?_ _ | refine kD ?_ | refine kA ?_ _)); refine blk_put (cs := #[.bool true, .int .i64 (wrap64 ((wrap64 (a0_0 * (wrap64 (-(wrap64 ((wrap64 ((wrap64 (a0_2 - a0_0)) * (wrap64 (a1_3 - a1_1)))) - (wrap64 ((wrap64 (a0_3 - a0_1)) * (wrap64 (a1_2 - a1_0)))))))))) + (wrap64 ((wrap64 (-(wrap64 ((wrap64 ((wrap64 (a1_0 - a0_0)) * (wrap64 (a1_3 - a1_1)))) - (wrap64 ((wrap64 (a1_1 - a0_1)) * (wrap64 (a1_2 - a1_0)))))))) * (wrap64 (a0_2 - a0_0)))))), .int .i64 (wrap64 ((wrap64 (a0_1 * (wrap64 (-(wrap64 ((wrap64 ((wrap64 (a0_2 - a0_0)) * (wrap64 (a1_3 - a1_1)))) - (wrap64 ((wrap64 (a0_3 - a0_1)) * (wrap64 (a1_2 - a1_0)))))))))) + (wrap64 ((wrap64 (-(wrap64 ((wrap64 ((wrap64 (a1_0 - a0_0)) * (wrap64 (a1_3 - a1_1)))) - (wrap64 ((wrap64 (a1_1 - a0_1)) * (wrap64 (a1_2 - a1_0)))))))) * (wrap64 (a0_3 - a0_1)))))), .int .i64 (wrap64 (-(wrap64 ((wrap64 ((wrap64 (a0_2 - a0_0)) * (wrap64 (a1_3 - a1_1)))) - (wrap64 ((wrap64 (a0_3 - a0_1)) * (wrap64 (a1_2 - a1_0)))))))), .int .i64 0, .int .i64 0, .int .i64 0]) ?_ 6 _ rfl; (with_reducible repeat (first | refine kN ?_ _ | refine kD ?_ | refine kA ?_ _)); refine blk_put (cs := #[.bool true, .int .i64 (wrap64 ((wrap64 (a0_0 * (wrap64 (-(wrap64 ((wrap64 ((wrap64 (a0_2 - a0_0)) * (wrap64 (a1_3 - a1_1)))) - (wrap64 ((wrap64 (a0_3 - a0_1)) * (wrap64 (a1_2 - a1_0)))))))))) + (wrap64 ((wrap64 (-(wrap64 ((wrap64 ((wrap64 (a1_0 - a0_0)) * (wrap64 (a1_3 - a1_1)))) - (wrap64 ((wrap64 (a1_1 - a0_1)) * (wrap64 (a1_2 - a1_0)))))))) * (wrap64 (a0_2 - a0_0)))))), .int .i64 (wrap64 ((wrap64 (a0_1 * (wrap64 (-(wrap64 ((wrap64 ((wrap64 (a0_2 - a0_0)) * (wrap64 (a1_3 - a1_1)))) - (wrap64 ((wrap64 (a0_3 - a0_1)) * (wrap64 (a1_2 - a1_0)))))))))) + (wrap64 ((wrap64 (-(wrap64 ((wrap64 ((wrap64 (a1_0 - a0_0)) * (wrap64 (a1_3 - a1_1)))) - (wrap64 ((wrap64 (a1_1 - a0_1)) * (wrap64 (a1_2 - a1_0)))))))) * (wrap64 (a0_3 - a0_1)))))), .int .i64 (wrap64 (-(wrap64 ((wrap64 ((wrap64 (a0_2 - a0_0)) * (wrap64 (a1_3 - a1_1)))) - (wrap64 ((wrap64 (a0_3 - a0_1)) * (wrap64 (a1_2 - a1_0)))))))), .int .i64 0, .int .i64 0, .int .i64 0]) ?_ 5 _ rfl; (with_reducible repeat (first | refine kN ?_ _ | refine kD ?_ | refine kA ?_ _)); refine blk_put (cs := #[.bool true, .int .i64 (wrap64 ((wrap64 (a0_0 * (wrap64 (-(wrap64 ((wrap64 ((wrap64 (a0_2 - a0_0)) * (wrap64 (a1_3 - a1_1)))) - (wrap64 ((wrap64 (a0_3 - a0_1)) * (wrap64 (a1_2 - a1_0)))))))))) + (wrap64 ((wrap64 (-(wrap64 ((wrap64 ((wrap64 (a1_0 - a0_0)) * (wrap64 (a1_3 - a1_1)))) - (wrap64 ((wrap64 (a1_1 - a0_1)) * (wrap64 (a1_2 - a1_0)))))))) * (wrap64 (a0_2 - a0_0)))))), .int .i64 (wrap64 ((wrap64 (a0_1 * (wrap64 (-(wrap64 ((wrap64 ((wrap64 (a0_2 - a0_0)) * (wrap64 (a1_3 - a1_1)))) - (wrap64 ((wrap64 (a0_3 - a0_1)) * (wrap64 (a1_2 - a1_0)))))))))) + (wrap64 ((wrap64 (-(wrap64 ((wrap64 ((wrap64 (a1_0 - a0_0)) * (wrap64 (a1_3 - a1_1)))) - (wrap64 ((wrap64 (a1_1 - a0_1)) * (wrap64 (a1_2 - a1_0)))))))) * (wrap64 (a0_3 - a0_1)))))), .int .i64 (wrap64 (-(wrap64 ((wrap64 ((wrap64 (a0_2 - a0_0)) * (wrap64 (a1_3 - a1_1)))) - (wrap64 ((wrap64 (a0_3 - a0_1)) * (wrap64 (a1_2 - a1_0)))))))), .int .i64 0, .int .i64 0, .int .i64 0]) ?_ 4 _ rfl; (with_reducible repeat (first | refine kN ?_ _ | refine kD ?_ | refine kA ?_ _)); refine blk_put (cs := #[.bool true, .int .i64 (wrap64 ((wrap64 (a0_0 * (wrap64 (-(wrap64 ((wrap64 ((wrap64 (a0_2 - a0_0)) * (wrap64 (a1_3 - a1_1)))) - (wrap64 ((wrap64 (a0_3 - a0_1)) * (wrap64 (a1_2 - a1_0)))))))))) + (wrap64 ((wrap64 (-(wrap64 ((wrap64 ((wrap64 (a1_0 - a0_0)) * (wrap64 (a1_3 - a1_1)))) - (wrap64 ((wrap64 (a1_1 - a0_1)) * (wrap64 (a1_2 - a1_0)))))))) * (wrap64 (a0_2 - a0_0)))))), .int .i64 (wrap64 ((wrap64 (a0_1 * (wrap64 (-(wrap64 ((wrap64 ((wrap64 (a0_2 - a0_0)) * (wrap64 (a1_3 - a1_1)))) - (wrap64 ((wrap64 (a0_3 - a0_1)) * (wrap64 (a1_2 - a1_0)))))))))) + (wrap64 ((wrap64 (-(wrap64 ((wrap64 ((wrap64 (a1_0 - a0_0)) * (wrap64 (a1_3 - a1_1)))) - (wrap64 ((wrap64 (a1_1 - a0_1)) * (wrap64 (a1_2 - a1_0)))))))) * (wrap64 (a0_3 - a0_1)))))), .int .i64 0, .int .i64 0, .int .i64 0, .int .i64 0]) ?_ 3 _ rfl; (with_reducible repeat (first | refine kN ?_ _ | refine kD ?_ | refine kA ?_ _)); refine blk_put (cs := #[.bool true, .int .i64 (wrap64 ((wrap64 (a0_0 * (wrap64 (-(wrap64 ((wrap64 ((wrap64 (a0_2 - a0_0)) * (wrap64 (a1_3 - a1_1)))) - (wrap64 ((wrap64 (a0_3 - a0_1)) * (wrap64 (a1_2 - a1_0)))))))))) + (wrap64 ((wrap64 (-(wrap64 ((wrap64 ((wrap64 (a1_0 - a0_0)) * (wrap64 (a1_3 - a1_1)))) - (wrap64 ((wrap64 (a1_1 - a0_1)) * (wrap64 (a1_2 - a1_0)))))))) * (wrap64 (a0_2 - a0_0)))))), .int .i64 0, .int .i64 0, .int .i64 0, .int .i64 0, .int .i64 0]) ?_ 2 _ rfl; (with_reducible repeat (first | refine kN ?_ _ | refine kD ?_ | refine kA ?_ _)); refine blk_put (cs := #[.bool true, .int .i64 0, .int .i64 0, .int .i64 0, .int .i64 0, .int .i64 0, .int .i64 0]) ?_ 1 _ rfl; (with_reducible repeat (first | refine kN ?_ _ | refine kD ?_ | refine kA ?_ _)); refine blk_put (cs := #[.bool false, .int .i64 0, .int .i64 0, .int .i64 0, .int .i64 0, .int .i64 0, .int .i64 0]) ?_ 0 _ rfl; (with_reducible repeat (first | refine kN ?_ _ | refine kD ?_ | refine kA ?_ _)); exact BK717.out) Try.underlying44 rfl (by kernel_rfl)) rfl ?_
     exact en
    ·rw [if_neg c24] at H
     have c24b0 : decide ((wrap64 ((wrap64 ((wrap64 (a0_2 - a0_0)) * (wrap64 (a1_3 - a1_1)))) - (wrap64 ((wrap64 (a0_3 - a0_1)) * (wrap64 (a1_2 - a1_0)))))) < 0) = false := decide_eq_false c24
     clear c24
     simp only [Option.some.injEq, Prod.mk.injEq] at H
     obtain ⟨rfl, rfl, rfl, rfl, rfl, rfl, rfl, rfl⟩ := H
     have hnb31 := NB716_715.out
     have hnc31 := NB715_716.out
     have hnb32 := NB716_717.out
     have hnc32 := NB717_716.out
     have hcz33_0 : wc.cell? ⟨gb716, 0, none⟩ = some (.int .i64 a1_0) := (blk_cell BK716.out 0).trans rfl
     have hcz33_1 : wc.cell? ⟨gb716, 1, none⟩ = some (.int .i64 a1_1) := (blk_cell BK716.out 1).trans rfl
     have hcz33_2 : wc.cell? ⟨gb716, 2, none⟩ = some (.int .i64 a1_2) := (blk_cell BK716.out 2).trans rfl
     have hcz33_3 : wc.cell? ⟨gb716, 3, none⟩ = some (.int .i64 a1_3) := (blk_cell BK716.out 3).trans rfl
     have hfz33_0 := blk_frozen BK716.out 0
     have hfz33_1 := blk_frozen BK716.out 1
     have hfz33_2 := blk_frozen BK716.out 2
     have hfz33_3 := blk_frozen BK716.out 3
     have hnb34 := NB715_717.out
     have hnc34 := NB717_715.out
     have hcz35_0 : wc.cell? ⟨gb715, 0, none⟩ = some (.int .i64 a0_0) := (blk_cell BK715.out 0).trans rfl
     have hcz35_1 : wc.cell? ⟨gb715, 1, none⟩ = some (.int .i64 a0_1) := (blk_cell BK715.out 1).trans rfl
     have hcz35_2 : wc.cell? ⟨gb715, 2, none⟩ = some (.int .i64 a0_2) := (blk_cell BK715.out 2).trans rfl
     have hcz35_3 : wc.cell? ⟨gb715, 3, none⟩ = some (.int .i64 a0_3) := (blk_cell BK715.out 3).trans rfl
     have hfz35_0 := blk_frozen BK715.out 0
     have hfz35_1 := blk_frozen BK715.out 1
     have hfz35_2 := blk_frozen BK715.out 2
     have hfz35_3 := blk_frozen BK715.out 3
     have hcz36_0 : wc.cell? ⟨gb717, 0, none⟩ = some (.bool false) := (blk_cell BK717.out 0).trans rfl
     have hcz36_1 : wc.cell? ⟨gb717, 1, none⟩ = some (.int .i64 0) := (blk_cell BK717.out 1).trans rfl
     have hcz36_2 : wc.cell? ⟨gb717, 2, none⟩ = some (.int .i64 0) := (blk_cell BK717.out 2).trans rfl
     have hcz36_3 : wc.cell? ⟨gb717, 3, none⟩ = some (.int .i64 0) := (blk_cell BK717.out 3).trans rfl
     have hcz36_4 : wc.cell? ⟨gb717, 4, none⟩ = some (.int .i64 0) := (blk_cell BK717.out 4).trans rfl
     have hcz36_5 : wc.cell? ⟨gb717, 5, none⟩ = some (.int .i64 0) := (blk_cell BK717.out 5).trans rfl
     have hcz36_6 : wc.cell? ⟨gb717, 6, none⟩ = some (.int .i64 0) := (blk_cell BK717.out 6).trans rfl
     have hfz36_0 := blk_frozen BK717.out 0
     have hfz36_1 := blk_frozen BK717.out 1
     have hfz36_2 := blk_frozen BK717.out 2
     have hfz36_3 := blk_frozen BK717.out 3
     have hfz36_4 := blk_frozen BK717.out 4
     have hfz36_5 := blk_frozen BK717.out 5
     have hfz36_6 := blk_frozen BK717.out 6
     go_wp2
     repeat (go_quiet (fail); try go_wp2)
     refine bodyPost_ret (results_ct rfl _ _ gb717 44 #[.bool true, .int .i64 (wrap64 ((wrap64 (a0_0 * (wrap64 ((wrap64 ((wrap64 (a0_2 - a0_0)) * (wrap64 (a1_3 - a1_1)))) - (wrap64 ((wrap64 (a0_3 - a0_1)) * (wrap64 (a1_2 - a1_0)))))))) + (wrap64 ((wrap64 ((wrap64 ((wrap64 (a1_0 - a0_0)) * (wrap64 (a1_3 - a1_1)))) - (wrap64 ((wrap64 (a1_1 - a0_1)) * (wrap64 (a1_2 - a1_0)))))) * (wrap64 (a0_2 - a0_0)))))), .int .i64 (wrap64 ((wrap64 (a0_1 * (wrap64 ((wrap64 ((wrap64 (a0_2 - a0_0)) * (wrap64 (a1_3 - a1_1)))) - (wrap64 ((wrap64 (a0_3 - a0_1)) * (wrap64 (a1_2 - a1_0)))))))) + (wrap64 ((wrap64 ((wrap64 ((wrap64 (a1_0 - a0_0)) * (wrap64 (a1_3 - a1_1)))) - (wrap64 ((wrap64 (a1_1 - a0_1)) * (wrap64 (a1_2 - a1_0)))))) * (wrap64 (a0_3 - a0_1)))))), .int .i64 (wrap64 ((wrap64 ((wrap64 (a0_2 - a0_0)) * (wrap64 (a1_3 - a1_1)))) - (wrap64 ((wrap64 (a0_3 - a0_1)) * (wrap64 (a1_2 - a1_0)))))), .int .i64 0, .int .i64 0, .int .i64 0] (0, 0) _ rfl (by (with_reducible repeat (first | refine kN ?_ _ | refine kD ?_ | refine kA ?_ _)); refine blk_put (cs := #[.bool true, .int .i64 (wrap64 ((wrap64 (a0_0 * (wrap64 ((wrap64 ((wrap64 (a0_2 - a0_0)) * (wrap64 (a1_3 - a1_1)))) - (wrap64 ((wrap64 (a0_3 - a0_1)) * (wrap64 (a1_2 - a1_0)))))))) + (wrap64 ((wrap64 ((wrap64 ((wrap64 (a1_0 - a0_0)) * (wrap64 (a1_3 - a1_1)))) - (wrap64 ((wrap64 (a1_1 - a0_1)) * (wrap64 (a1_2 - a1_0)))))) * (wrap64 (a0_2 - a0_0)))))), .int .i64 (wrap64 ((wrap64 (a0_1 * (wrap64 ((wrap64 ((wrap64 (a0_2 - a0_0)) * (wrap64 (a1_3 - a1_1)))) - (wrap64 ((wrap64 (a0_3 - a0_1)) * (wrap64 (a1_2 - a1_0)))))))) + (wrap64 ((wrap64 ((wrap64 ((wrap64 (a1_0 - a0_0)) * (wrap64 (a1_3 - a1_1)))) - (wrap64 ((wrap64 (a1_1 - a0_1)) * (wrap64 (a1_2 - a1_0)))))) * (wrap64 (a0_3 - a0_1)))))), .int .i64 (wrap64 ((wrap64 ((wrap64 (a0_2 - a0_0)) * (wrap64 (a1_3 - a1_1)))) - (wrap64 ((wrap64 (a0_3 - a0_1)) * (wrap64 (a1_2 - a1_0)))))), .int .i64 0, .int .i64 0, .int .i64 0]) ?_ 6 _ rfl; (with_reducible repeat (first | refine kN ?_ _ | refine kD ?_ | refine kA ?_ _)); refine blk_put (cs := #[.bool true, .int .i64 (wrap64 ((wrap64 (a0_0 * (wrap64 ((wrap64 ((wrap64 (a0_2 - a0_0)) * (wrap64 (a1_3 - a1_1)))) - (wrap64 ((wrap64 (a0_3 - a0_1)) * (wrap64 (a1_2 - a1_0)))))))) + (wrap64 ((wrap64 ((wrap64 ((wrap64 (a1_0 - a0_0)) * (wrap64 (a1_3 - a1_1)))) - (wrap64 ((wrap64 (a1_1 - a0_1)) * (wrap64 (a1_2 - a1_0)))))) * (wrap64 (a0_2 - a0_0)))))), .int .i64 (wrap64 ((wrap64 (a0_1 * (wrap64 ((wrap64 ((wrap64 (a0_2 - a0_0)) * (wrap64 (a1_3 - a1_1)))) - (wrap64 ((wrap64 (a0_3 - a0_1)) * (wrap64 (a1_2 - a1_0)))))))) + (wrap64 ((wrap64 ((wrap64 ((wrap64 (a1_0 - a0_0)) * (wrap64 (a1_3 - a1_1)))) - (wrap64 ((wrap64 (a1_1 - a0_1)) * (wrap64 (a1_2 - a1_0)))))) * (wrap64 (a0_3 - a0_1)))))), .int .i64 (wrap64 ((wrap64 ((wrap64 (a0_2 - a0_0)) * (wrap64 (a1_3 - a1_1)))) - (wrap64 ((wrap64 (a0_3 - a0_1)) * (wrap64 (a1_2 - a1_0)))))), .int .i64 0, .int .i64 0, .int .i64 0]) ?_ 5 _ rfl; (with_reducible repeat (first | refine kN ?_ _ | refine kD ?_ | refine kA ?_ _)); refine blk_put (cs := #[.bool true, .int .i64 (wrap64 ((wrap64 (a0_0 * (wrap64 ((wrap64 ((wrap64 (a0_2 - a0_0)) * (wrap64 (a1_3 - a1_1)))) - (wrap64 ((wrap64 (a0_3 - a0_1)) * (wrap64 (a1_2 - a1_0)))))))) + (wrap64 ((wrap64 ((wrap64 ((wrap64 (a1_0 - a0_0)) * (wrap64 (a1_3 - a1_1)))) - (wrap64 ((wrap64 (a1_1 - a0_1)) * (wrap64 (a1_2 - a1_0)))))) * (wrap64 (a0_2 - a0_0)))))), .int .i64 (wrap64 ((wrap64 (a0_1 * (wrap64 ((wrap64 ((wrap64 (a0_2 - a0_0)) * (wrap64 (a1_3 - a1_1)))) - (wrap64 ((wrap64 (a0_3 - a0_1)) * (wrap64 (a1_2 - a1_0)))))))) + (wrap64 ((wrap64 ((wrap64 ((wrap64 (a1_0 - a0_0)) * (wrap64 (a1_3 - a1_1)))) - (wrap64 ((wrap64 (a1_1 - a0_1)) * (wrap64 (a1_2 - a1_0)))))) * (wrap64 (a0_3 - a0_1)))))), .int .i64 (wrap64 ((wrap64 ((wrap64 (a0_2 - a0_0)) * (wrap64 (a1_3 - a1_1)))) - (wrap64 ((wrap64 (a0_3 - a0_1)) * (wrap64 (a1_2 - a1_0)))))), .int .i64 0, .int .i64 0, .int .i64 0]) ?_ 4 _ rfl; (with_reducible repeat (first | refine kN ?_ _ | refine kD ?_ | refine kA ?_ _)); refine blk_put (cs := #[.bool true, .int .i64 (wrap64 ((wrap64 (a0_0 * (wrap64 ((wrap64 ((wrap64 (a0_2 - a0_0)) * (wrap64 (a1_3 - a1_1)))) - (wrap64 ((wrap64 (a0_3 - a0_1)) * (wrap64 (a1_2 - a1_0)))))))) + (wrap64 ((wrap64 ((wrap64 ((wrap64 (a1_0 - a0_0)) * (wrap64 (a1_3 - a1_1)))) - (wrap64 ((wrap64 (a1_1 - a0_1)) * (wrap64 (a1_2 - a1_0)))))) * (wrap64 (a0_2 - a0_0)))))), .int .i64 (wrap64 ((wrap64 (a0_1 * (wrap64 ((wrap64 ((wrap64 (a0_2 - a0_0)) * (wrap64 (a1_3 - a1_1)))) - (wrap64 ((wrap64 (a0_3 - a0_1)) * (wrap64 (a1_2 - a1_0)))))))) + (wrap64 ((wrap64 ((wrap64 ((wrap64 (a1_0 - a0_0)) * (wrap64 (a1_3 - a1_1)))) - (wrap64 ((wrap64 (a1_1 - a0_1)) * (wrap64 (a1_2 - a1_0)))))) * (wrap64 (a0_3 - a0_1)))))), .int .i64 0, .int .i64 0, .int .i64 0, .int .i64 0]) ?_ 3 _ rfl; (with_reducible repeat (first | refine kN ?_ _ | refine kD ?_ | refine kA ?_ _)); refine blk_put (cs := #[.bool true, .int .i64 (wrap64 ((wrap64 (a0_0 * (wrap64 ((wrap64 ((wrap64 (a0_2 - a0_0)) * (wrap64 (a1_3 - a1_1)))) - (wrap64 ((wrap64 (a0_3 - a0_1)) * (wrap64 (a1_2 - a1_0)))))))) + (wrap64 ((wrap64 ((wrap64 ((wrap64 (a1_0 - a0_0)) * (wrap64 (a1_3 - a1_1)))) - (wrap64 ((wrap64 (a1_1 - a0_1)) * (wrap64 (a1_2 - a1_0)))))) * (wrap64 (a0_2 - a0_0)))))), .int .i64 0, .int .i64 0, .int .i64 0, .int .i64 0, .int .i64 0]) ?_ 2 _ rfl; (with_reducible repeat (first | refine kN ?_ _ | refine kD ?_ | refine kA ?_ _)); refine blk_put (cs := #[.bool true, .int .i64 0, .int .i64 0, .int .i64 0, .int .i64 0, .int .i64 0, .int .i64 0]) ?_ 1 _ rfl; (with_reducible repeat (first | refine kN ?_ _ | refine kD ?_ | refine kA ?_ _)); refine blk_put (cs := #[.bool false, .int .i64 0, .int .i64 0, .int .i64 0, .int .i64 0, .int .i64 0, .int .i64 0]) ?_ 0 _ rfl; (with_reducible repeat (first | refine kN ?_ _ | refine kD ?_ | refine kA ?_ _)); exact BK717.out) Try.underlying44 rfl (by kernel_rfl)) rfl ?_
     exact en

end Go.Proofs.Ythaklbjcjoolcaa.P
