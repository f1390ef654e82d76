/- Proved here: what functions that the law reaches compute, and plain laws of that. No conditions but those that the theorems state. -/
import Derived.Test.YtppelnlocfcgfaaCFindOnce2
import Derived.Test.YtppelnlocfcgfaaCFindOnce1
set_option linter.unusedVariables false
set_option linter.unusedSimpArgs false
namespace Go.Proofs.Ytppelnlocfcgfaa.P
open Go.RowKit Go.Proofs.YtppelnlocfcgfaaW.PrintWords Go.Proofs.YtppelnlocfcgfaaW.PrintLast Go.Proofs.YtppelnlocfcgfaaW.PrintMore
open Go.Proofs.Fnd
set_option linter.unusedVariables false
set_option linter.unusedSimpArgs false
theorem txt_asymm {x y : List UInt8} (h : x < y) (h' : y < x) : False := by
  obtain ⟨m, h1, h2⟩ := (lt_iff x y).1 h
  obtain ⟨k, h3, h4⟩ := (lt_iff y x).1 h'
  rcases Nat.lt_trichotomy m k with c | c | c
  · have := h3 m c; omega
  · subst c; omega
  · have := h1 k c; omega
theorem txt_tri (x y : List UInt8) : x < y ∨ x = y ∨ y < x := by
  rcases tri (x.length + y.length + 1) (ch x) (ch y) with ⟨m, _, h2, h3⟩ | h | ⟨m, _, h2, h3⟩
  · exact .inl ((lt_iff x y).2 ⟨m, h2, h3⟩)
  · refine .inr (.inl ((eq_iff_ch x y).2 fun t => ?_))
    by_cases ht : t < x.length + y.length + 1
    · exact h t ht
    · rw [ch_ge x t (by omega), ch_ge y t (by omega)]
  · exact .inr (.inr ((lt_iff y x).2 ⟨m, h2, h3⟩))
theorem txt_irrefl (x : List UInt8) : ¬ x < x := fun h => txt_asymm h h
theorem countP_add {α : Type} (l : List α) (a b c : α → Bool) (h : ∀ i, i ∈ l → (c i = true ↔ (a i = true ∨ b i = true)) ∧ ¬ (a i = true ∧ b i = true)) : l.countP c = l.countP a + l.countP b := by
  induction l with
  | nil => rfl
  | cons x l ih =>
    have := ih (fun i hi => h i (List.mem_cons_of_mem _ hi))
    have hx := h x (List.mem_cons_self ..)
    rw [List.countP_cons, List.countP_cons, List.countP_cons, this]
    cases ha : a x <;> cases hb : b x <;> cases hc : c x <;> simp [ha, hb, hc] at hx ⊢ <;> omega
/-- how often a pattern occurs -/
def occN (s p : List UInt8) : Nat := (List.range s.length).countP fun i => decide (beginning s p.length i = p)
theorem upto_below (s p : List UInt8) : upto s p = below s p + occN s p := by
  unfold upto below occN
  refine countP_add _ _ _ _ fun i _ => ?_
  simp only [Bool.not_eq_true', decide_eq_false_iff_not, decide_eq_true_eq]
  constructor
  · constructor
    · intro h
      rcases txt_tri (beginning s p.length i) p with q | q | q
      · exact .inl q
      · exact .inr q
      · exact absurd q h
    · rintro (h | h)
      · exact fun q => txt_asymm h q
      · rw [h]; exact txt_irrefl p
  · rintro ⟨h1, h2⟩
    rw [h2] at h1
    exact txt_irrefl p h1
theorem count_occ (t p : ByteArray) (ht : t.size ≤ 4096) (hp : p.size ≤ 140737488351232) : find_Index_Count.f t (ordI t) (overI t) p = some (occN t.data.toList p.data.toList : Int) := by
  rw [count_is t p ht hp, upto_below]
  congr 1
  push_cast
  omega
theorem cnt0 (P : Nat → Bool) : ∀ n, (∀ i, i < n → P i = false) → (List.range n).countP P = 0
  | 0, _ => rfl
  | n + 1, h => by rw [List.range_succ, List.countP_append, cnt0 P n (fun i hi => h i (by omega))]; simp [h n (by omega)]
theorem cnt_pos (P : Nat → Bool) : ∀ n, (∃ i, i < n ∧ P i = true) → 1 ≤ (List.range n).countP P
  | 0, ⟨i, h, _⟩ => by omega
  | n + 1, ⟨i, h, hp⟩ => by
    rw [List.range_succ, List.countP_append]
    by_cases e : i = n
    · subst e; simp [hp]
    · have := cnt_pos P n ⟨i, by omega, hp⟩; omega
theorem cnt1 (P : Nat → Bool) : ∀ n a, a < n → P a = true → (∀ i, i < n → i ≠ a → P i = false) → (List.range n).countP P = 1
  | 0, a, h, _, _ => by omega
  | n + 1, a, h, hp, hn => by
    rw [List.range_succ, List.countP_append]
    by_cases e : a = n
    · subst e; rw [cnt0 P a (fun i hi => hn i (by omega) (by omega))]; simp [hp]
    · rw [cnt1 P n a (by omega) hp (fun i hi hne => hn i (by omega) hne)]; simp [hn n (by omega) (fun q => e q.symm)]
theorem cnt2 (P : Nat → Bool) : ∀ n a b, a < b → b < n → P a = true → P b = true → 2 ≤ (List.range n).countP P
  | 0, a, b, _, h, _, _ => by omega
  | n + 1, a, b, hab, h, hp, hq => by
    rw [List.range_succ, List.countP_append]
    by_cases e : b = n
    · subst e; have := cnt_pos P b ⟨a, hab, hp⟩; have e1 : List.countP P [b] = 1 := by simp [hq]
      omega
    · have := cnt2 P n a b hab (by omega) hp hq; omega
theorem extract_list (t : ByteArray) (a b : Nat) : (t.extract a b).data.toList = (t.data.toList.drop a).take (b - a) := by
  rw [ByteArray.data_extract, Array.toList_extract, List.extract_eq_take_drop]
theorem begin_len (s : List UInt8) (a L : Nat) (h : a + L ≤ s.length) : ((s.drop a).take L).length = L := by
  rw [List.length_take, List.length_drop]; omega
theorem ch_begin (s : List UInt8) (L i t : Nat) : ch ((s.drop i).take L) t = if t < L then sq s i t else 0 := by rw [ch_take, ch_drop]
/-- where a piece occurs -/
theorem begin_eq (s : List UInt8) {a i L : Nat} (ha : a < s.length) (hi : i < s.length) (hL : a + L ≤ s.length) : beginning s L i = (s.drop a).take L ↔ i = a ∨ L ≤ lcp s a i := by
  unfold beginning
  constructor
  · intro h
    by_cases e : i = a
    · exact .inl e
    · refine .inr ?_
      apply Decidable.byContradiction
      intro q
      have hl := lcp_is s a i (by omega) (by omega) (fun q => e q.symm)
      have h1 := (eq_iff_ch _ _).1 h (lcp s a i)
      rw [ch_begin, ch_begin, if_pos (by omega), if_pos (by omega)] at h1
      exact hl.diff h1.symm
  · rintro (h | h)
    · rw [h]
    · by_cases e : i = a
      · rw [e]
      · have hl := lcp_is s a i (by omega) (by omega) (fun q => e q.symm)
        refine (eq_iff_ch _ _).2 fun t => ?_
        rw [ch_begin, ch_begin]
        split
        · exact (hl.same t (by omega)).symm
        · rfl
theorem occ_one (s : List UInt8) {a L : Nat} (ha : a < s.length) (hL : a + L ≤ s.length) (h : mxO s a < L) : occN s ((s.drop a).take L) = 1 := by
  unfold occN
  rw [begin_len s a L hL]
  refine cnt1 _ _ a ha ?_ fun i hi hne => ?_
  · rw [decide_eq_true_eq, begin_eq s ha ha hL]; exact .inl rfl
  · rw [decide_eq_false_iff_not, begin_eq s ha hi hL]
    have := mxO_most s ha hi (fun e => hne e.symm)
    omega
theorem occ_two (s : List UInt8) {a L : Nat} (ha : a < s.length) (hL : a + L ≤ s.length) (h0 : 0 < L) (h : L ≤ mxO s a) : 2 ≤ occN s ((s.drop a).take L) := by
  unfold occN
  rw [begin_len s a L hL]
  rcases mxO_some s ha with h1 | ⟨j, hj, hne, h1⟩
  · omega
  · have pa : decide (beginning s L a = (s.drop a).take L) = true := by rw [decide_eq_true_eq, begin_eq s ha ha hL]; exact .inl rfl
    have pj : decide (beginning s L j = (s.drop a).take L) = true := by rw [decide_eq_true_eq, begin_eq s ha hj hL]; exact .inr (by omega)
    rcases Nat.lt_or_gt_of_ne hne with c | c
    · exact cnt2 _ _ j a c ha pj pa
    · exact cnt2 _ _ a j c hj pa pj
theorem mod_is (a : Int) (n : Nat) (h0 : 0 < n) (hn : n ≤ 1000000) : ∃ r : Nat, r < n ∧ silversidelaw07_mod.f a (n : Int) = some (r : Int) := by
  unfold silversidelaw07_mod.f
  have e1 : IntKind.u64.wrap (n : Int) = (n : Int) := by
    unfold IntKind.wrap
    simp [IntKind.bits, IntKind.signed]
    omega
  rw [e1, if_neg (by omega)]
  have h1 : 0 ≤ IntKind.u64.wrap a := by
    unfold IntKind.wrap
    simp [IntKind.bits, IntKind.signed]
    omega
  rw [Int.tmod_eq_emod_of_nonneg h1]
  generalize IntKind.u64.wrap a = x at *
  have h2 := Int.emod_nonneg x (show (n : Int) ≠ 0 by omega)
  have h3 := Int.emod_lt_of_pos x (show (0 : Int) < (n : Int) by omega)
  refine ⟨(x % (n : Int)).toNat, by omega, ?_⟩
  rw [w64 (by omega) (by omega)]
  congr 1
  omega
end Go.Proofs.Ytppelnlocfcgfaa.P
namespace Go.Proofs.Ytppelnlocfcgfaa.Pure
open Go.RowKit Go.Proofs.Ytppelnlocfcgfaa.P Go.Proofs.YtppelnlocfcgfaaW.PrintWords Go.Proofs.YtppelnlocfcgfaaW.PrintLast
open Go.Proofs.Fnd
theorem once_j0 (t : ByteArray) (ht : t.size ≤ 4096) (i : Nat) (hi : i < t.size) (hm : i + mxO t.data.toList i < t.size) :
    Ev (fun K => silversidelaw07_FindOnce.j0 K t (i : Int) ((mxO t.data.toList i : Int) + 1) false t (ordI t) (overI t)) true := by
  have hl := data_length t
  have h1 := occ_one t.data.toList (a := i) (L := mxO t.data.toList i + 1) (by omega) (by omega) (by omega)
  have h2 := occ_two t.data.toList (a := i) (L := mxO t.data.toList i) (by omega) (by omega)
  have h3 : mxO t.data.toList i ≠ 0 → 2 ≤ occN t.data.toList ((t.data.toList.drop i).take (mxO t.data.toList i)) := fun h => h2 (by omega) (Nat.le_refl _)
  clear h2
  generalize mxO t.data.toList i = m at *
  refine Ev.step (fun K => by rw [silversidelaw07_FindOnce.j0, if_neg (by simp)]) ?_
  have e1 : wrap64 ((i : Int) + ((m : Int) + 1)) = ((i + (m + 1) : Nat) : Int) := by rw [w64 (by omega) (by omega)]; omega
  have e2 : wrap64 (((i + (m + 1) : Nat) : Int) - 1) = ((i + m : Nat) : Int) := by rw [w64 (by omega) (by omega)]; omega
  rw [e1, e2]
  refine ev_pos (by omega) (ev_pos (by omega) (ev_pos (by omega) ?_))
  rw [Int.toNat_natCast, Int.toNat_natCast, Int.toNat_natCast]
  have c1 := count_occ t (t.extract i (i + (m + 1))) ht (by rw [ByteArray.size_extract]; omega)
  rw [extract_list, show i + (m + 1) - i = m + 1 by omega, h1] at c1
  rw [c1]
  simp only [Option.bind_some]
  refine ev_pos rfl ?_
  by_cases h0 : m = 0
  · exact ev_pos (by omega) (Ev.bind awake_ev (Ev.now _))
  · refine ev_neg (by omega) (ev_pos (by omega) (ev_pos (by omega) ?_))
    have c2 := count_occ t (t.extract i (i + m)) ht (by rw [ByteArray.size_extract]; omega)
    rw [extract_list, show i + m - i = m by omega] at c2
    rw [c2]
    simp only [Option.bind_some]
    have := h3 h0
    exact ev_pos (by omega) (Ev.bind awake_ev (Ev.now _))
theorem FindOnce : silversidelaw07_FindOnce.Pure := by
  intro a0 a1 _ _
  refine Ev.rounds ?_
  unfold silversidelaw07_FindOnce.f
  have hm := mn_nat a0.size 500
  rw [show ((500 : Nat) : Int) = 500 from rfl] at hm
  rw [hm]
  refine ev_pos (by omega) (ev_pos (by omega) ?_)
  rw [Int.toNat_natCast]
  have ht : (a0.extract 0 (min a0.size 500)).size ≤ 4096 := by rw [ByteArray.size_extract]; omega
  generalize a0.extract 0 (min a0.size 500) = t at *
  have hl := data_length t
  by_cases h0 : t.size = 0
  · refine ev_pos ?_ (Ev.bind awake_ev (Ev.now _))
    rw [ByteArray.toList_eq]
    exact List.eq_nil_of_length_eq_zero (by omega)
  · refine ev_neg ?_ ?_
    · rw [ByteArray.toList_eq]
      intro e
      rw [e] at hl
      simp at hl; omega
    · obtain ⟨i, hi, hmd⟩ := mod_is a1 t.size (by omega) (by omega)
      rw [hmd]
      simp only [Option.bind_some]
      refine Ev.bind (find_New_ev t ht) (Ev.bind (shortest_ev t ht i) (ev_pos (by trivial) ?_))
      have hin := mxO_in t.data.toList (i := i) (by omega)
      unfold shortA
      rw [if_neg (by omega), Int.toNat_natCast]
      by_cases h1 : t.size ≤ i + mxO t.data.toList i
      · rw [if_pos h1]
        refine ev_neg (by simp) (ev_pos rfl (ev_pos rfl (ev_pos (by omega) (ev_pos (by omega) ?_))))
        have c1 := count_occ t (t.extract i t.size) ht (by rw [ByteArray.size_extract]; omega)
        rw [extract_list] at c1
        simp only [Int.toNat_natCast, c1, Option.bind_some]
        have := occ_two t.data.toList (a := i) (L := t.size - i) (by omega) (by omega) (by omega) (by omega)
        exact ev_pos (by omega) (Ev.bind awake_ev (Ev.now _))
      · rw [if_neg h1]
        refine ev_pos rfl (ev_neg (by simp; omega) ?_)
        have hj := once_j0 t ht i hi (by omega)
        have e1 : decide (wrap64 ((i : Int) + ((mxO t.data.toList i : Int) + 1)) > (t.size : Int)) = false := by
          rw [decide_eq_false_iff_not, w64 (by omega) (by omega)]; omega
        simp only [e1]
        exact hj
end Go.Proofs.Ytppelnlocfcgfaa.Pure
