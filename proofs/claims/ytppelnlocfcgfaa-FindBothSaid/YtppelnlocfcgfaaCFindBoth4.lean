/- Proved here: what functions that the law reaches compute, and plain laws of that. No conditions but those that the theorems state. -/
import Derived.Test.YtppelnlocfcgfaaCFindBoth3
import Derived.Test.YtppelnlocfcgfaaCFindBoth1
import Derived.Test.YtppelnlocfcgfaaB2
import Derived.Test.YtppelnlocfcgfaaCFindBoth2
import Derived.Test.YtppelnlocfcgfaaB4
set_option linter.unusedVariables false
set_option linter.unusedSimpArgs false
namespace Go.Proofs.Ytppelnlocfcgfaa.P
open Go.RowKit Go.Proofs.YtppelnlocfcgfaaW.PrintWords Go.Proofs.YtppelnlocfcgfaaW.PrintLast Go.Proofs.YtppelnlocfcgfaaW.PrintMore
open Go.Proofs.Fnd
theorem txt_trans {x y z : List UInt8} (h : x < y) (h' : y < z) : x < z := by
  obtain ⟨m, h1, h2⟩ := (lt_iff x y).1 h
  obtain ⟨k, h3, h4⟩ := (lt_iff y z).1 h'
  refine (lt_iff x z).2 ?_
  rcases Nat.lt_trichotomy m k with c | c | c
  · exact ⟨m, fun t ht => (h1 t ht).trans (h3 t (by omega)), by rw [← h3 m c]; exact h2⟩
  · subst c; exact ⟨m, fun t ht => (h1 t ht).trans (h3 t ht), by omega⟩
  · exact ⟨k, fun t ht => (h1 t (by omega)).trans (h3 t ht), by rw [h1 k c]; exact h4⟩
/-- where a pattern occurs -/
def occL (s p : List UInt8) (k : Nat) : List Nat := (List.range k).filter fun i => decide (beginning s p.length i = p)
theorem occL_succ (s p : List UInt8) (k : Nat) : occL s p (k + 1) = occL s p k ++ (if beginning s p.length k = p then [k] else []) := by
  unfold occL
  rw [List.range_succ, List.filter_append]
  congr 1
  by_cases h : beginning s p.length k = p
  · rw [if_pos h]; simp [h]
  · rw [if_neg h]; simp [h]
theorem occL_len (s p : List UInt8) : (occL s p s.length).length = occN s p := by rw [occL, occN, List.countP_eq_length_filter]
theorem occL_le (s p : List UInt8) (k : Nat) : (occL s p k).length ≤ k := by
  unfold occL
  have := List.length_filter_le (fun i => decide (beginning s p.length i = p)) (List.range k)
  rwa [List.length_range] at this
theorem piece_list (t p : ByteArray) (k : Nat) (h : k + p.size ≤ t.size) : (t.extract k (k + p.size)).toList = beginning t.data.toList p.data.toList.length k := by
  rw [ByteArray.toList_eq, extract_list, data_length p, beginning, show k + p.size - k = p.size by omega]
theorem occL_rest (s p : List UInt8) (k : Nat) (hk : k ≤ s.length) (h : s.length < k + p.length) : ∀ d, k + d ≤ s.length → occL s p (k + d) = occL s p k
  | 0, _ => rfl
  | d + 1, hd => by
    rw [show k + (d + 1) = k + d + 1 by omega, occL_succ, occL_rest s p k hk h d (by omega), if_neg, List.append_nil]
    intro e
    have := congrArg List.length e
    unfold beginning at this
    rw [List.length_take, List.length_drop] at this
    omega
theorem reffind_l0 (t p : ByteArray) (ht : t.size ≤ 1000000) (hp : p.size ≤ 140737488351232) : ∀ (d k : Nat), k + d = t.size → Ev (fun K => silversideref07_Find.l0 K t p (nI (occL t.data.toList p.data.toList k)) (k : Int)) (nI (occL t.data.toList p.data.toList t.data.toList.length)) := by
  have hl := data_length t
  have hlp := data_length p
  intro d
  induction d with
  | zero =>
    intro k hk
    obtain rfl : k = t.size := by omega
    refine Ev.step (fun K => by rw [silversideref07_Find.l0, if_neg (by omega)]) ?_
    refine Ev.step (f := fun _ => some _) (fun K => by rw [silversideref07_Find.j1, if_neg (by simp)]) ?_
    rw [hl]; exact Ev.now _
  | succ d ih =>
    intro k hk
    have hlen := occL_le t.data.toList p.data.toList k
    have e1 : wrap64 ((k : Int) + (p.size : Int)) = ((k + p.size : Nat) : Int) := by rw [w64 (by omega) (by omega)]; omega
    refine Ev.step (fun K => by rw [silversideref07_Find.l0, if_pos (by omega)]) ?_
    rw [e1]
    by_cases hin : k + p.size ≤ t.size
    · have h := ih (k + 1) (by omega)
      rw [decide_eq_true (by omega)]
      refine Ev.step (fun K => by rw [silversideref07_Find.j1, if_pos rfl]) ?_
      rw [e1]
      refine ev_pos (by omega) (ev_pos (by omega) (ev_pos (by omega) ?_))
      rw [Int.toNat_natCast, Int.toNat_natCast, piece_list t p k hin, ByteArray.toList_eq p, w64 (x := (k : Int) + 1) (by omega) (by omega)]
      rw [occL_succ] at h
      by_cases c : beginning t.data.toList p.data.toList.length k = p.data.toList
      · rw [if_pos c] at h
        refine ev_pos c (ev_pos (by rw [nI_length]; omega) ?_)
        have e2 : nI (occL t.data.toList p.data.toList k ++ [k]) = nI (occL t.data.toList p.data.toList k) ++ [(k : Int)] := by simp [nI]
        rw [e2] at h
        exact h
      · rw [if_neg c, List.append_nil] at h
        exact ev_neg c h
    · rw [decide_eq_false (by omega)]
      refine Ev.step (f := fun _ => some _) (fun K => by rw [silversideref07_Find.j1, if_neg (by simp)]) ?_
      have := occL_rest t.data.toList p.data.toList k (by omega) (by omega) (d + 1) (by omega)
      rw [show t.data.toList.length = k + (d + 1) by omega, this]
      exact Ev.now _
theorem reffind_ev (t p : ByteArray) (ht : t.size ≤ 1000000) (hp : p.size ≤ 140737488351232) : Ev (fun K => silversideref07_Find.f K t p) (nI (occL t.data.toList p.data.toList t.data.toList.length)) := by
  have := reffind_l0 t p ht hp t.size 0 (by omega)
  simpa [silversideref07_Find.f, occL, nI] using this
/-- a piece of a text -/
def piece (s : List UInt8) (a m : Nat) : List UInt8 := (s.drop a).take m
/-- the best of the pairs so far: those with first place below i, and (i, b) for b below k -/
def MetP (i k a b : Nat) : Prop := b < a ∧ (a < i ∨ a = i ∧ b < k)
structure Best (s : List UInt8) (i k : Nat) (L : List UInt8) : Prop where
  all : ∀ a b, MetP i k a b → lcp s a b ≤ L.length ∧ (lcp s a b = L.length → ¬ piece s a (lcp s a b) < L)
  is : L = [] ∨ ∃ a b, MetP i k a b ∧ lcp s a b = L.length ∧ L = piece s a L.length
theorem piece_len (s : List UInt8) {a b : Nat} (ha : a < s.length) (hb : b < s.length) (h : a ≠ b) : (piece s a (lcp s a b)).length = lcp s a b := by
  have := (lcp_is s a b (by omega) (by omega) h).inside (by omega) (by omega) h
  unfold piece
  rw [List.length_take, List.length_drop]; omega
theorem Best.next {s : List UInt8} {i k : Nat} {L : List UInt8} (h : Best s i k L) (hi : i < s.length) (hk : k < i) : Best s i (k + 1) (if L.length < lcp s i k then piece s i (lcp s i k) else if lcp s i k = L.length ∧ piece s i (lcp s i k) < L then piece s i (lcp s i k) else L) := by
  have hpl := piece_len s (a := i) (b := k) hi (by omega) (by omega)
  have split_met : ∀ a b, MetP i (k + 1) a b → MetP i k a b ∨ a = i ∧ b = k := fun a b hm => by
    unfold MetP at hm ⊢; omega
  have met_new : MetP i (k + 1) i k := by unfold MetP; omega
  have met_up : ∀ a b, MetP i k a b → MetP i (k + 1) a b := fun a b hm => by unfold MetP at hm ⊢; omega
  by_cases c1 : L.length < lcp s i k
  · rw [if_pos c1]
    refine ⟨fun a b hm => ?_, .inr ⟨i, k, met_new, by rw [hpl], by rw [hpl]⟩⟩
    rw [hpl]
    rcases split_met a b hm with q | ⟨rfl, rfl⟩
    · have := (h.all a b q).1
      exact ⟨by omega, fun e => by omega⟩
    · exact ⟨Nat.le_refl _, fun _ => txt_irrefl _⟩
  · rw [if_neg c1]
    by_cases c2 : lcp s i k = L.length ∧ piece s i (lcp s i k) < L
    · rw [if_pos c2]
      refine ⟨fun a b hm => ?_, .inr ⟨i, k, met_new, by rw [hpl], by rw [hpl]⟩⟩
      rw [hpl]
      rcases split_met a b hm with q | ⟨rfl, rfl⟩
      · have h1 := h.all a b q
        refine ⟨by omega, fun e h2 => ?_⟩
        have h3 := h1.2 (by omega)
        rcases txt_tri (piece s a (lcp s a b)) L with q1 | q1 | q1
        · exact h3 q1
        · rw [q1] at h2; exact txt_asymm h2 c2.2
        · have t1 := c2.2
          -- piece a < piece i < L < piece a
          exact txt_asymm (x := piece s a (lcp s a b)) (y := L) (txt_trans h2 t1) q1
      · exact ⟨Nat.le_refl _, fun _ => txt_irrefl _⟩
    · rw [if_neg c2]
      refine ⟨fun a b hm => ?_, ?_⟩
      · rcases split_met a b hm with q | ⟨rfl, rfl⟩
        · exact h.all a b q
        · exact ⟨by omega, fun e h2 => c2 ⟨e, h2⟩⟩
      · rcases h.is with q | ⟨a, b, hm, q⟩
        · exact .inl q
        · exact .inr ⟨a, b, met_up a b hm, q⟩
theorem Best.row {s : List UInt8} {i : Nat} {L : List UInt8} (h : Best s i i L) : Best s (i + 1) 0 L := by
  have e : ∀ a b, MetP (i + 1) 0 a b ↔ MetP i i a b := fun a b => by unfold MetP; omega
  exact ⟨fun a b hm => h.all a b ((e a b).1 hm), h.is.imp id fun ⟨a, b, hm, q⟩ => ⟨a, b, (e a b).2 hm, q⟩⟩
theorem over_best (s : List UInt8) (k : Nat) (hk : k ≤ s.length) : (∀ j, j < k → (overL s).getD j 0 ≤ (bestOf (sufOrd s) (overL s) k).1) ∧ ((bestOf (sufOrd s) (overL s) k).1 = 0 ∨ ∃ j, j < k ∧ bestOf (sufOrd s) (overL s) k = ((overL s).getD j 0, (sufOrd s).getD j 0) ∧ ∀ q, q < j → (overL s).getD q 0 < (overL s).getD j 0) := by
  induction k with
  | zero => exact ⟨fun j hj => by omega, .inl rfl⟩
  | succ k ih =>
    obtain ⟨h1, h2⟩ := ih (by omega)
    unfold bestOf
    by_cases c : (bestOf (sufOrd s) (overL s) k).1 < (overL s).getD k 0
    · rw [if_pos c]
      refine ⟨fun j hj => ?_, .inr ⟨k, by omega, rfl, fun q hq => ?_⟩⟩
      · by_cases e : j = k
        · subst e; exact Nat.le_refl _
        · have := h1 j (by omega); show _ ≤ (overL s).getD k 0; omega
      · have := h1 q hq; omega
    · rw [if_neg c]
      refine ⟨fun j hj => ?_, ?_⟩
      · by_cases e : j = k
        · subst e; omega
        · exact h1 j (by omega)
      · rcases h2 with h | ⟨j, hj, h, h'⟩
        · exact .inl h
        · exact .inr ⟨j, by omega, h, h'⟩
/-- two pieces that run alike -/
theorem piece_eq {s : List UInt8} {a b : Nat} (ha : a < s.length) (hb : b < s.length) (h : a ≠ b) : piece s a (lcp s a b) = piece s b (lcp s a b) := by
  have hl := lcp_is s a b (by omega) (by omega) h
  refine (eq_iff_ch _ _).2 fun t => ?_
  unfold piece
  rw [ch_begin, ch_begin]
  split
  · exact hl.same t (by assumption)
  · rfl
/-- the two ways to the longest that occurs twice -/
theorem Best.done {s : List UInt8} {L : List UInt8} (h : Best s s.length 0 L) : L = piece s (bestOf (sufOrd s) (overL s) s.length).2 (bestOf (sufOrd s) (overL s) s.length).1 := by
  obtain ⟨h1, h2⟩ := over_best s s.length (Nat.le_refl _)
  -- any pair's overlap, by ranks
  have pair : ∀ a b, a < s.length → b < s.length → a ≠ b → ∃ c, c < s.length ∧ lcp s a b ≤ (overL s).getD c 0 ∧ ((sufOrd s).getD c 0 = a ∨ (sufOrd s).getD c 0 = b) := fun a b ha hb hne => by
    have ra := rank_lt s a ha
    have rb := rank_lt s b hb
    have ea := ord_rank s a ha
    have eb := ord_rank s b hb
    rcases Nat.lt_trichotomy (rank s a) (rank s b) with c | c | c
    · have := lcp_up s c rb
      rw [ea, eb] at this
      exact ⟨rank s b, rb, this, .inr eb⟩
    · rw [c, eb] at ea; exact absurd ea.symm hne
    · have := lcp_up s c ra
      rw [ea, eb, lcp_symm s b a (by omega) (by omega) (fun e => hne e.symm)] at this
      exact ⟨rank s a, ra, this, .inl ea⟩
  have small : ∀ a b, a < s.length → b < s.length → a ≠ b → lcp s a b ≤ (bestOf (sufOrd s) (overL s) s.length).1 := fun a b ha hb hne => by
    obtain ⟨c, hc, hle, _⟩ := pair a b ha hb hne
    have := h1 c hc; omega
  rcases h2 with h0 | ⟨j, hj, hbe, hfirst⟩
  · rw [h0]
    show L = List.take 0 _
    rw [List.take_zero]
    rcases h.is with q | ⟨a, b, hm, q1, q2⟩
    · exact q
    · unfold MetP at hm
      have := small a b (by omega) (by omega) (by omega)
      exact List.eq_nil_of_length_eq_zero (by omega)
  · rw [hbe] at small ⊢
    show L = piece s ((sufOrd s).getD j 0) ((overL s).getD j 0)
    have small' : ∀ a b, a < s.length → b < s.length → a ≠ b → lcp s a b ≤ (overL s).getD j 0 := small
    by_cases hz : (overL s).getD j 0 = 0
    · rw [hz]
      show L = List.take 0 _
      rw [List.take_zero]
      rcases h.is with q | ⟨a, b, hm, q1, q2⟩
      · exact q
      · unfold MetP at hm
        have := small' a b (by omega) (by omega) (by omega)
        exact List.eq_nil_of_length_eq_zero (by omega)
    · have hj0 : j ≠ 0 := fun e => by
        rw [e, overL_at s 0 (by omega), if_pos rfl] at hz; omega
      have lx := ord_lt s (j - 1) (by omega)
      have ly := ord_lt s j hj
      have hov := overL_at s j hj
      rw [if_neg hj0] at hov
      have hne : (sufOrd s).getD (j - 1) 0 ≠ (sufOrd s).getD j 0 := fun e => by have := ord_inj s (by omega) hj e; omega
      -- the program's pair is met
      have own : (overL s).getD j 0 ≤ L.length ∧ ((overL s).getD j 0 = L.length → ¬ piece s ((sufOrd s).getD j 0) ((overL s).getD j 0) < L) := by
        rcases Nat.lt_or_gt_of_ne hne with c | c
        · have := h.all ((sufOrd s).getD j 0) ((sufOrd s).getD (j - 1) 0) (by unfold MetP; omega)
          rw [lcp_symm s _ _ (by omega) (by omega) (fun e => hne e.symm), ← hov] at this
          exact this
        · have := h.all ((sufOrd s).getD (j - 1) 0) ((sufOrd s).getD j 0) (by unfold MetP; omega)
          rw [piece_eq lx ly hne, ← hov] at this
          exact this
      rcases h.is with q | ⟨a, b, hm, q1, q2⟩
      · have h9 := own.1
        rw [q] at h9
        exact absurd (Nat.le_zero.1 h9) hz
      · unfold MetP at hm
        have hsm := small' a b (by omega) (by omega) (by omega)
        have hlen : L.length = (overL s).getD j 0 := by omega
        obtain ⟨c, hc, hle, hab⟩ := pair a b (by omega) (by omega) (by omega)
        have hjc : j ≤ c := by
          apply Decidable.byContradiction
          intro q
          have := hfirst c (by omega); omega
        have hL : L = piece s ((sufOrd s).getD c 0) ((overL s).getD j 0) := by
          rw [hlen] at q2
          rcases hab with e | e
          · rw [e]; exact q2
          · rw [e, q2]
            have := piece_eq (s := s) (a := a) (b := b) (by omega) (by omega) (by omega)
            rwa [q1, hlen] at this
        have hle2 : ¬ L < piece s ((sufOrd s).getD j 0) ((overL s).getD j 0) := by
          rw [hL]
          exact take_le _ (order_le s hjc hc)
        rcases txt_tri L (piece s ((sufOrd s).getD j 0) ((overL s).getD j 0)) with q3 | q3 | q3
        · exact absurd q3 hle2
        · exact q3
        · exact absurd q3 (own.2 (by omega))
theorem bytesLess_is : ∀ (x y : List UInt8), Op.bytesLess x y = decide (x < y)
  | [], [] => by simp [Op.bytesLess]
  | a :: x, [] => by simp [Op.bytesLess]
  | [], b :: y => by simp [Op.bytesLess]
  | a :: x, b :: y => by
    rw [Op.bytesLess, bytesLess_is x y]
    by_cases h1 : a < b
    · simp [h1, List.cons_lt_cons_iff]
    · by_cases h2 : a = b
      · subst h2; simp [List.cons_lt_cons_iff]
      · simp [h1, h2, List.cons_lt_cons_iff]
/-- the text that a list of bytes is -/
def txt (l : List UInt8) : ByteArray := ⟨l.toArray⟩
theorem txt_size (l : List UInt8) : (txt l).size = l.length := List.size_toArray
theorem txt_list (l : List UInt8) : (txt l).toList = l := by rw [ByteArray.toList_eq]; rfl
theorem txt_data (l : List UInt8) : (txt l).data.toList = l := rfl
theorem extract_txt (t : ByteArray) (a m : Nat) : t.extract a (a + m) = txt (piece t.data.toList a m) := by
  rw [← bytes_back (t.extract a (a + m)), extract_list, show a + m - a = m by omega]; rfl
where bytes_back (t : ByteArray) : (⟨t.data.toList.toArray⟩ : ByteArray) = t := by rw [Array.toArray_toList]
theorem refrep_l1 (t : ByteArray) (ht : t.size ≤ 4096) (i : Nat) (hi : i < t.size) (r : ByteArray × Int × Int)
    (hgo : ∀ L, Best t.data.toList (i + 1) 0 L → Ev (fun K => silversideref07_Repeat.l0 K t (txt L) ((i + 1 : Nat) : Int)) r) :
    ∀ (d k : Nat) (L : List UInt8), k + d = i → Best t.data.toList i k L → Ev (fun K => silversideref07_Repeat.l1 K t (txt L) (i : Int) (k : Int)) r := by
  have hl := data_length t
  intro d
  induction d with
  | zero =>
    intro k L hk hL
    obtain rfl : k = i := by omega
    refine Ev.step (fun K => by rw [silversideref07_Repeat.l1, if_neg (by omega), w64 (by omega) (by omega)]) ?_
    exact hgo L hL.row
  | succ d ih =>
    intro k L hk hL
    have hc := common_ev t t (by omega) (by omega) i k (by omega) (by omega)
    rw [cpl_at t hi (by omega) (by omega)] at hc
    have hn := ih (k + 1) _ (by omega) (hL.next (by omega) (by omega))
    have hin := ((lcp_is t.data.toList i k (by omega) (by omega) (by omega)).inside (by omega) (by omega) (by omega)).1
    refine Ev.step (fun K => by rw [silversideref07_Repeat.l1, if_pos (by omega)]) ?_
    refine Ev.bind hc ?_
    generalize lcp t.data.toList i k = m at *
    have e1 : wrap64 ((i : Int) + (m : Int)) = ((i + m : Nat) : Int) := by rw [w64 (by omega) (by omega)]; omega
    rw [e1, txt_size, w64 (x := (k : Int) + 1) (by omega) (by omega), Int.toNat_natCast, Int.toNat_natCast, extract_txt, txt_list, txt_list, bytesLess_is]
    by_cases c1 : L.length < m
    · rw [if_pos c1] at hn
      exact ev_pos (by omega) (ev_pos (by omega) (ev_pos (by omega) (ev_pos (by omega) hn)))
    · rw [if_neg c1] at hn
      refine ev_neg (by omega) ?_
      by_cases c2 : m = L.length
      · refine ev_pos (by omega) (ev_pos (by omega) (ev_pos (by omega) (ev_pos (by omega) ?_)))
        by_cases c3 : piece t.data.toList i m < L
        · rw [if_pos ⟨c2, c3⟩] at hn
          exact ev_pos (by rw [decide_eq_true_eq]; exact c3) hn
        · rw [if_neg (fun q => c3 q.2)] at hn
          exact ev_neg (by rw [decide_eq_true_eq]; exact c3) hn
      · rw [if_neg (fun q => c2 q.1)] at hn
        exact ev_neg (by omega) hn
theorem refrep_l0 (t : ByteArray) (ht : t.size ≤ 4096) : ∀ (d i : Nat) (L : List UInt8), i + d = t.size → Best t.data.toList i 0 L → Ev (fun K => silversideref07_Repeat.l0 K t (txt L) (i : Int)) (repeatA t) := by
  have hl := data_length t
  intro d
  induction d with
  | zero =>
    intro i L hi hL
    obtain rfl : i = t.size := by omega
    have hin := best_in t t.size (Nat.le_refl _)
    have hR : repeatA t = if (bestOf (sufOrd t.data.toList) (overL t.data.toList) t.size).1 = 0 then ((⟨#[]⟩ : ByteArray), 0, 6) else (t.extract (bestOf (sufOrd t.data.toList) (overL t.data.toList) t.size).2 ((bestOf (sufOrd t.data.toList) (overL t.data.toList) t.size).2 + (bestOf (sufOrd t.data.toList) (overL t.data.toList) t.size).1), (upto t.data.toList (t.extract (bestOf (sufOrd t.data.toList) (overL t.data.toList) t.size).2 ((bestOf (sufOrd t.data.toList) (overL t.data.toList) t.size).2 + (bestOf (sufOrd t.data.toList) (overL t.data.toList) t.size).1)).data.toList : Int) - (below t.data.toList (t.extract (bestOf (sufOrd t.data.toList) (overL t.data.toList) t.size).2 ((bestOf (sufOrd t.data.toList) (overL t.data.toList) t.size).2 + (bestOf (sufOrd t.data.toList) (overL t.data.toList) t.size).1)).data.toList : Int), 0) := rfl
    rw [← hl] at hL
    have hd := hL.done
    rw [hl] at hd
    rw [hR]
    generalize bestOf (sufOrd t.data.toList) (overL t.data.toList) t.size = b at *
    rw [extract_txt, ← hd, txt_data, upto_below]
    have hLl : L.length = b.1 := by rw [hd]; exact begin_len _ _ _ (by omega)
    refine Ev.step (fun K => by rw [silversideref07_Repeat.l0, if_neg (by omega)]) ?_
    rw [txt_list]
    by_cases h0 : b.1 = 0
    · rw [if_pos h0]
      exact ev_pos (List.eq_nil_of_length_eq_zero (by omega)) (Ev.now _)
    · rw [if_neg h0]
      refine ev_neg (fun e => h0 (by rw [e] at hLl; simpa using hLl.symm)) (Ev.bind (reffind_ev t (txt L) (by omega) (by rw [txt_size]; omega)) ?_)
      rw [txt_data, nI_length, occL_len, show ((below t.data.toList L + occN t.data.toList L : Nat) : Int) - (below t.data.toList L : Int) = (occN t.data.toList L : Int) by omega]
      exact Ev.now _
  | succ d ih =>
    intro i L hi hL
    refine Ev.step (fun K => by rw [silversideref07_Repeat.l0, if_pos (by omega)]) ?_
    exact refrep_l1 t ht i (by omega) _ (fun L' hL' => ih (i + 1) L' (by omega) hL') i 0 L (by omega) hL
theorem refrep_ev (t : ByteArray) (ht : t.size ≤ 4096) : Ev (fun K => silversideref07_Repeat.f K t) (repeatA t) :=
  refrep_l0 t ht t.size 0 [] (by omega) ⟨fun a b hm => by unfold MetP at hm; omega, .inl rfl⟩
/-- how many of a list stand again behind -/
def dup {κ : Type} [DecidableEq κ] : List κ → Nat
  | [] => 0
  | x :: l => (if x ∈ l then 1 else 0) + dup l
theorem dup_perm {κ : Type} [DecidableEq κ] {l l' : List κ} (h : l.Perm l') : dup l = dup l' := by
  induction h with
  | nil => rfl
  | cons x h ih => unfold dup; rw [ih]; simp only [h.mem_iff]
  | swap x y l =>
    unfold dup dup
    by_cases e : x = y
    · subst e; rfl
    · have e' : ¬ y = x := fun q => e q.symm
      simp only [List.mem_cons, e, e', false_or]; omega
  | trans _ _ h1 h2 => exact h1.trans h2
/-- how many have one before that is like them -/
theorem dup_count {κ : Type} [DecidableEq κ] (g : Nat → κ) : ∀ n, (List.range n).countP (fun a => decide (∃ q, q < a ∧ g q = g a)) = dup ((List.range n).map g).reverse
  | 0 => rfl
  | n + 1 => by
    rw [List.range_succ, List.countP_append, dup_count g n, List.map_append, List.reverse_append]
    show _ = (if g n ∈ ((List.range n).map g).reverse then 1 else 0) + dup ((List.range n).map g).reverse
    rw [Nat.add_comm]
    congr 1
    have : g n ∈ ((List.range n).map g).reverse ↔ ∃ q, q < n ∧ g q = g n := by
      rw [List.mem_reverse, List.mem_map]
      constructor
      · rintro ⟨q, hq, e⟩; exact ⟨q, List.mem_range.1 hq, e⟩
      · rintro ⟨q, hq, e⟩; exact ⟨q, List.mem_range.2 hq, e⟩
    by_cases c : ∃ q, q < n ∧ g q = g n
    · rw [if_pos (this.2 c)]; simp [c]
    · rw [if_neg (fun q => c (this.1 q))]; simp [c]
/-- a sum, and the same sum layer by layer -/
def sumF (f : Nat → Nat) : Nat → Nat
  | 0 => 0
  | k + 1 => sumF f k + f k
theorem sumF_congr {f g : Nat → Nat} : ∀ n, (∀ i, i < n → f i = g i) → sumF f n = sumF g n
  | 0, _ => rfl
  | n + 1, h => by unfold sumF; rw [sumF_congr n (fun i hi => h i (by omega)), h n (by omega)]
theorem sumF_add (f g : Nat → Nat) : ∀ n, sumF (fun i => f i + g i) n = sumF f n + sumF g n
  | 0 => rfl
  | n + 1 => by unfold sumF; rw [sumF_add f g n]; omega
theorem sumF_ones (x : Nat) : ∀ N, x ≤ N → sumF (fun L => if L < x then 1 else 0) N = x
  | 0, h => by unfold sumF; omega
  | N + 1, h => by
    unfold sumF
    by_cases e : x = N + 1
    · subst e
      rw [if_pos (by omega), sumF_congr (g := fun L => if L < N then 1 else 0) N (fun i hi => by rw [if_pos (by omega), if_pos hi]), sumF_ones N N (Nat.le_refl _)]
    · rw [if_neg (by omega), sumF_ones x N (by omega), Nat.add_zero]
theorem layers (f : Nat → Nat) (N : Nat) : ∀ n, (∀ i, i < n → f i ≤ N) → sumF f n = sumF (fun L => (List.range n).countP fun a => decide (L < f a)) N
  | 0, _ => by
    have : ∀ N, sumF (fun L => (List.range 0).countP fun a => decide (L < f a)) N = 0 := by
      intro N
      induction N with
      | zero => rfl
      | succ N ih => unfold sumF; rw [ih]; rfl
    rw [this]; rfl
  | n + 1, h => by
    have e : sumF (fun L => (List.range (n + 1)).countP fun a => decide (L < f a)) N = sumF (fun L => ((List.range n).countP fun a => decide (L < f a)) + (if L < f n then 1 else 0)) N :=
      sumF_congr N fun L _ => by
        rw [List.range_succ, List.countP_append]
        congr 1
        by_cases c : L < f n
        · rw [if_pos c]; simp [c]
        · rw [if_neg c]; simp [c]
    rw [e, sumF_add, ← layers f N n (fun i hi => h i (by omega)), sumF_ones (f n) N (h n (by omega))]
    rfl
/-- the most that a place shares with an earlier one -/
def mxTo (s : List UInt8) (i : Nat) : Nat → Nat
  | 0 => 0
  | k + 1 => max (mxTo s i k) (lcp s i k)
theorem mxTo_lt (s : List UInt8) (i : Nat) (L : Nat) : ∀ k, L < mxTo s i k ↔ ∃ b, b < k ∧ L < lcp s i b
  | 0 => by simp [mxTo]
  | k + 1 => by
    have := mxTo_lt s i L k
    unfold mxTo
    constructor
    · intro h
      by_cases c : L < mxTo s i k
      · obtain ⟨b, hb, q⟩ := this.1 c; exact ⟨b, by omega, q⟩
      · exact ⟨k, by omega, by omega⟩
    · rintro ⟨b, hb, q⟩
      by_cases e : b = k
      · subst e; omega
      · have := this.2 ⟨b, by omega, q⟩; omega
theorem mxTo_in (s : List UInt8) {i : Nat} (hi : i < s.length) : ∀ k, k ≤ i → i + mxTo s i k ≤ s.length
  | 0, _ => by unfold mxTo; omega
  | k + 1, hk => by
    have := mxTo_in s hi k (by omega)
    have := ((lcp_is s i k (by omega) (by omega) (by omega)).inside (by omega) (by omega) (by omega)).1
    unfold mxTo; omega
theorem key_eq (s : List UInt8) {a b L : Nat} (ha : a < s.length) (hb : b < s.length) (h : a ≠ b) : beginning s (L + 1) b = beginning s (L + 1) a ↔ L < lcp s a b := by
  have hl := lcp_is s a b (by omega) (by omega) h
  constructor
  · intro e
    apply Decidable.byContradiction
    intro q
    have h1 := (eq_iff_ch _ _).1 e (lcp s a b)
    unfold beginning at h1
    rw [ch_begin, ch_begin, if_pos (by omega), if_pos (by omega)] at h1
    exact hl.diff h1.symm
  · intro q
    refine (eq_iff_ch _ _).2 fun t => ?_
    unfold beginning
    rw [ch_begin, ch_begin]
    split
    · exact (hl.same t (by omega)).symm
    · rfl
theorem countP_congr' {P Q : Nat → Bool} {n : Nat} (h : ∀ a, a < n → (P a = true ↔ Q a = true)) : (List.range n).countP P = (List.range n).countP Q := by
  refine List.countP_congr fun a ha => h a (List.mem_range.1 ha)
theorem sums_same (s : List UInt8) : sumF (fun i => mxTo s i i) s.length = sumF (fun k => (overL s).getD k 0) s.length := by
  rw [layers (fun i => mxTo s i i) s.length s.length (fun i hi => by have := mxTo_in s hi i (Nat.le_refl _); show mxTo s i i ≤ _; omega)]
  rw [layers (fun k => (overL s).getD k 0) s.length s.length (fun k hk => by have := over_in s k hk; show (overL s).getD k 0 ≤ _; omega)]
  refine sumF_congr _ fun L _ => ?_
  have e1 : (List.range s.length).countP (fun a => decide (L < mxTo s a a)) = (List.range s.length).countP (fun a => decide (∃ q, q < a ∧ beginning s (L + 1) q = beginning s (L + 1) a)) := by
    refine countP_congr' fun a ha => ?_
    rw [decide_eq_true_eq, decide_eq_true_eq, mxTo_lt]
    constructor
    · rintro ⟨b, hb, q⟩; exact ⟨b, hb, (key_eq s ha (by omega) (by omega)).2 q⟩
    · rintro ⟨b, hb, q⟩; exact ⟨b, hb, (key_eq s ha (by omega) (by omega)).1 q⟩
  have e2 : (List.range s.length).countP (fun k => decide (L < (overL s).getD k 0)) = (List.range s.length).countP (fun k => decide (∃ q, q < k ∧ beginning s (L + 1) ((sufOrd s).getD q 0) = beginning s (L + 1) ((sufOrd s).getD k 0))) := by
    refine countP_congr' fun k hk => ?_
    rw [decide_eq_true_eq, decide_eq_true_eq]
    have lk := ord_lt s k hk
    have ne : ∀ q, q < k → (sufOrd s).getD k 0 ≠ (sufOrd s).getD q 0 := fun q hq e => by have := ord_inj s hk (by omega) e; omega
    constructor
    · intro h
      have h0 : k ≠ 0 := fun e => by rw [e, overL_at s 0 (by omega), if_pos rfl] at h; omega
      have lq := ord_lt s (k - 1) (by omega)
      refine ⟨k - 1, by omega, (key_eq s lk lq (ne _ (by omega))).2 ?_⟩
      rw [overL_at s k hk, if_neg h0] at h
      rw [lcp_symm s _ _ (by omega) (by omega) (ne _ (by omega))]
      exact h
    · rintro ⟨q, hq, e⟩
      have lq := ord_lt s q (by omega)
      have h1 := (key_eq s lk lq (ne _ hq)).1 e
      rw [lcp_symm s _ _ (by omega) (by omega) (ne _ hq)] at h1
      have := lcp_up s hq hk
      omega
  rw [e1, e2, dup_count (fun q => beginning s (L + 1) q), dup_count (fun q => beginning s (L + 1) ((sufOrd s).getD q 0))]
  refine dup_perm ?_
  refine (List.reverse_perm _).trans (List.Perm.trans ?_ (List.reverse_perm _).symm)
  have e3 : (List.range s.length).map (fun q => beginning s (L + 1) ((sufOrd s).getD q 0)) = (sufOrd s).map (fun a => beginning s (L + 1) a) := by
    refine List.ext_getElem (by simp [sufOrd_length]) fun i h1 h2 => ?_
    simp only [List.length_map, List.length_range] at h1
    simp [List.getElem?_eq_getElem (show i < (sufOrd s).length by rw [sufOrd_length]; exact h1)]
  rw [e3]
  exact ((sufOrd_isOrd s).perm.map _).symm
theorem sumTo_F (s : List UInt8) : ∀ k, sumTo (overL s) k = sumF (fun k => (overL s).getD k 0) k
  | 0 => rfl
  | k + 1 => by unfold sumTo sumF; rw [sumTo_F s k]
/-- the reference's count -/
def refSum (t : ByteArray) (i : Nat) : Int := sumF (fun a => t.size - a - mxTo t.data.toList a a) i
theorem refdis_l1 (t : ByteArray) (ht : t.size ≤ 4096) (i : Nat) (hi : i < t.size) (x : Nat) (hx : x ≤ 16777216) (r : Int)
    (hgo : Ev (fun K => silversideref07_Distinct.l0 K t ((x + (t.size - i - mxTo t.data.toList i i) : Nat) : Int) ((i + 1 : Nat) : Int)) r) :
    ∀ (d k : Nat), k + d = i → Ev (fun K => silversideref07_Distinct.l1 K t (x : Int) (i : Int) (mxTo t.data.toList i k : Int) (k : Int)) r := by
  have hl := data_length t
  intro d
  induction d with
  | zero =>
    intro k hk
    obtain rfl : k = i := by omega
    have hin := mxTo_in t.data.toList (i := k) (by omega) k (Nat.le_refl _)
    refine Ev.step (fun K => by rw [silversideref07_Distinct.l1, if_neg (by omega), w64 (x := (x : Int) + (t.size : Int)) (by omega) (by omega), w64 (x := (x : Int) + (t.size : Int) - (k : Int)) (by omega) (by omega), w64 (x := (k : Int) + 1) (by omega) (by omega), w64 (by omega) (by omega)]) ?_
    rw [show (x : Int) + (t.size : Int) - (k : Int) - (mxTo t.data.toList k k : Int) = ((x + (t.size - k - mxTo t.data.toList k k) : Nat) : Int) by omega]
    exact hgo
  | succ d ih =>
    intro k hk
    have hc := common_ev t t (by omega) (by omega) i k (by omega) (by omega)
    rw [cpl_at t hi (by omega) (by omega)] at hc
    refine Ev.step (fun K => by rw [silversideref07_Distinct.l1, if_pos (by omega)]) (Ev.bind hc ?_)
    rw [mx_nat, w64 (by omega) (by omega)]
    exact ih (k + 1) (by omega)
theorem refdis_l0 (t : ByteArray) (ht : t.size ≤ 4096) : ∀ (d i : Nat), i + d = t.size → Ev (fun K => silversideref07_Distinct.l0 K t ((sumF (fun a => t.size - a - mxTo t.data.toList a a) i : Nat) : Int) (i : Int)) ((sumF (fun a => t.size - a - mxTo t.data.toList a a) t.size : Nat) : Int) := by
  have bound : ∀ i, i ≤ t.size → sumF (fun a => t.size - a - mxTo t.data.toList a a) i ≤ i * 4096 := by
    intro i
    induction i with
    | zero => intro _; exact Nat.le_refl _
    | succ i ih => intro hi; have := ih (by omega); unfold sumF; rw [Nat.succ_mul]; omega
  intro d
  induction d with
  | zero =>
    intro i hi
    obtain rfl : i = t.size := by omega
    exact Ev.step (fun K => by rw [silversideref07_Distinct.l0, if_neg (by omega)]) (Ev.now _)
  | succ d ih =>
    intro i hi
    have hb := bound i (by omega)
    refine Ev.step (fun K => by rw [silversideref07_Distinct.l0, if_pos (by omega)]) ?_
    exact refdis_l1 t ht i (by omega) (sumF (fun a => t.size - a - mxTo t.data.toList a a) i) (by omega) _ (ih (i + 1) (by omega)) i 0 (by omega)
theorem tri_sum (n : Nat) : ∀ i, i ≤ n → 2 * sumF (fun a => n - a) i = i * (2 * n - i + 1)
  | 0, _ => by simp [sumF]
  | i + 1, h => by
    have := tri_sum n i (by omega)
    unfold sumF
    rw [Nat.mul_add, this]
    obtain ⟨d, rfl⟩ : ∃ d, n = i + 1 + d := ⟨n - (i + 1), by omega⟩
    rw [show 2 * (i + 1 + d) - i + 1 = i + 3 + 2 * d by omega, show 2 * (i + 1 + d) - (i + 1) + 1 = i + 2 + 2 * d by omega, show i + 1 + d - i = 1 + d by omega, show (i + 1) * (i + 2 + 2 * d) = i * (i + 2 + 2 * d) + (i + 2 + 2 * d) from Nat.succ_mul _ _]
    have : i * (i + 3 + 2 * d) = i * (i + 2 + 2 * d) + i := by rw [show i + 3 + 2 * d = (i + 2 + 2 * d) + 1 by omega, Nat.mul_succ]
    omega
theorem refdis_ev (t : ByteArray) (ht : t.size ≤ 4096) : Ev (fun K => silversideref07_Distinct.f K t) (distinctA t) := by
  have hl := data_length t
  have h := refdis_l0 t ht t.size 0 (by omega)
  have e : ((sumF (fun a => t.size - a - mxTo t.data.toList a a) t.size : Nat) : Int) = distinctA t := by
    unfold distinctA
    have h1 : sumF (fun a => (t.size - a - mxTo t.data.toList a a) + mxTo t.data.toList a a) t.size = sumF (fun a => t.size - a) t.size :=
      sumF_congr _ fun a ha => by have := mxTo_in t.data.toList (i := a) (by omega) a (Nat.le_refl _); omega
    rw [sumF_add] at h1
    have h2 := tri_sum t.size t.size (Nat.le_refl _)
    have h3 := sums_same t.data.toList
    rw [hl] at h3
    rw [h3] at h1
    have h4 := sumTo_F t.data.toList t.size
    rw [show 2 * t.size - t.size + 1 = t.size + 1 by omega] at h2
    have h5 : t.size * (t.size + 1) / 2 = sumF (fun a => t.size - a) t.size := by omega
    rw [h5, ← h1, h4]
    omega
  rw [← e]
  exact h
theorem take_eq_cpl : ∀ (L : Nat) (x y : List UInt8), L ≤ x.length → (y.take L = x.take L ↔ L ≤ cpl x y)
  | 0, x, y, _ => by simp
  | L + 1, [], y, h => by simp at h
  | L + 1, a :: x, [], h => by simp [cpl]
  | L + 1, a :: x, b :: y, h => by
    have ih := take_eq_cpl L x y (by simpa using h)
    rw [List.take_succ_cons, List.take_succ_cons, cpl, List.cons.injEq]
    by_cases e : a = b
    · rw [if_pos e]
      constructor
      · rintro ⟨_, h2⟩; have := ih.1 h2; omega
      · intro h2; exact ⟨e.symm, ih.2 (by omega)⟩
    · rw [if_neg e]
      constructor
      · rintro ⟨h1, _⟩; exact absurd h1.symm e
      · intro h2; omega
theorem cpl_comm : ∀ x y : List UInt8, cpl x y = cpl y x
  | [], [] => rfl
  | [], b :: y => rfl
  | a :: x, [] => rfl
  | a :: x, b :: y => by
    rw [cpl, cpl, cpl_comm x y]
    by_cases e : a = b
    · rw [if_pos e, if_pos e.symm]
    · rw [if_neg e, if_neg (fun h => e h.symm)]
/-- how long two texts run alike from two places on -/
def KK (s r : List UInt8) (i k : Nat) : Nat := cpl (s.drop i) (r.drop k)
theorem KK_comm (s r : List UInt8) (i k : Nat) : KK s r i k = KK r s k i := cpl_comm _ _
theorem KK_le (s r : List UInt8) (i k : Nat) : KK s r i k ≤ s.length - i ∧ KK s r i k ≤ r.length - k := by
  have := cpl_le (s.drop i) (r.drop k)
  rw [List.length_drop, List.length_drop] at this
  exact this
theorem beg_KK (s r : List UInt8) {i k L : Nat} (h : i + L ≤ s.length) : beginning r L k = piece s i L ↔ L ≤ KK s r i k := by
  unfold beginning piece KK
  exact take_eq_cpl L _ _ (by rw [List.length_drop]; omega)
theorem piece_length (s : List UInt8) {i L : Nat} (h : i + L ≤ s.length) : (piece s i L).length = L := begin_len s i L h
theorem occ_pos (s r : List UInt8) {i L : Nat} (h : i + L ≤ s.length) : 0 < occN r (piece s i L) ↔ ∃ k, k < r.length ∧ L ≤ KK s r i k := by
  unfold occN
  rw [piece_length s h]
  constructor
  · intro h1
    apply Decidable.byContradiction
    intro hn
    have := cnt0 (fun k => decide (beginning r L k = piece s i L)) r.length (fun k hk => by
      rw [decide_eq_false_iff_not, beg_KK s r h]
      exact fun h2 => hn ⟨k, hk, h2⟩)
    omega
  · rintro ⟨k, hk, h2⟩
    exact cnt_pos (fun k => decide (beginning r L k = piece s i L)) r.length ⟨k, hk, by rw [decide_eq_true_eq, beg_KK s r h]; exact h2⟩
theorem filter_head (P : Nat → Bool) : ∀ (n j : Nat), j < n → P j = true → (∀ i, i < j → P i = false) → ∃ t, (List.range n).filter P = j :: t
  | 0, j, h, _, _ => by omega
  | n + 1, j, h, hj, hlt => by
    rw [List.range_succ, List.filter_append]
    by_cases e : j = n
    · subst e
      have h0 : (List.range j).filter P = [] := by
        rw [List.filter_eq_nil_iff]
        intro i hi
        rw [List.mem_range] at hi
        rw [hlt i hi]; decide
      rw [h0]
      exact ⟨[], by simp [hj]⟩
    · obtain ⟨t, ht⟩ := filter_head P n j (by omega) hj hlt
      rw [ht]
      exact ⟨_, rfl⟩
/-- the first place at which a pattern occurs -/
theorem occL_head (s p : List UInt8) {j : Nat} (hj : j < s.length) (h : beginning s p.length j = p) (hlt : ∀ i, i < j → ¬ beginning s p.length i = p) : ∃ t, occL s p s.length = j :: t :=
  filter_head _ s.length j hj (by rw [decide_eq_true_eq]; exact h) (fun i hi => by rw [decide_eq_false_iff_not]; exact hlt i hi)
/-- a least one -/
theorem least_of (P : Nat → Prop) [DecidablePred P] (n : Nat) : ∀ k, k < n → P k → ∃ j, j < n ∧ P j ∧ ∀ i, i < j → ¬ P i := by
  intro k
  induction k using Nat.strongRecOn with
  | _ k ih =>
    intro hk hp
    by_cases h : ∃ i, i < k ∧ P i
    · obtain ⟨i, hi, hpi⟩ := h
      exact ih i hi (by omega) hpi
    · exact ⟨k, hk, hp, fun i hi hpi => h ⟨i, hi, hpi⟩⟩
/-- what the program knows within row i -/
structure InvP (s r : List UInt8) (i m f : Nat) : Prop where
  le : ∀ x, x < i → ∀ k, k < r.length → KK s r x k ≤ m
  hit : (m = 0 ∧ f = 0) ∨ (0 < m ∧ f ≤ i ∧ f < s.length ∧ (∃ k, k < r.length ∧ m ≤ KK s r f k) ∧ ∀ x, x < f → ∀ k, k < r.length → KK s r x k < m)
theorem InvP.start (s r : List UInt8) : InvP s r 0 0 0 := ⟨fun x h => by omega, Or.inl ⟨rfl, rfl⟩⟩
theorem InvP.longer {s r : List UInt8} {i m f k : Nat} (h : InvP s r i m f) (hi : i < s.length) (hk : k < r.length) (hm : m + 1 ≤ KK s r i k) : InvP s r i (m + 1) i where
  le := fun x hx k hk => Nat.le_succ_of_le (h.le x hx k hk)
  hit := Or.inr ⟨by omega, Nat.le_refl i, hi, ⟨k, hk, hm⟩, fun x hx k hk => Nat.lt_succ_of_le (h.le x hx k hk)⟩
theorem InvP.next {s r : List UInt8} {i m f : Nat} (h : InvP s r i m f) (hn : ∀ k, k < r.length → ¬ m + 1 ≤ KK s r i k) : InvP s r (i + 1) m f where
  le := fun x hx k hk => by
    rcases Nat.lt_or_ge x i with h1 | h1
    · exact h.le x h1 k hk
    · obtain rfl : x = i := by omega
      have := hn k hk; omega
  hit := by
    rcases h.hit with h1 | ⟨h1, h2, h3⟩
    · exact Or.inl h1
    · exact Or.inr ⟨h1, by omega, h3⟩
/-- what the reference knows at row i, place k -/
structure InvR (s r : List UInt8) (i k n x y : Nat) : Prop where
  le : ∀ x', x' < i → ∀ k', k' < r.length → KK s r x' k' ≤ n
  row : ∀ k', k' < k → KK s r i k' ≤ n
  hit : (n = 0 ∧ x = 0 ∧ y = 0) ∨ (0 < n ∧ x ≤ i ∧ x < s.length ∧ y < r.length ∧ KK s r x y = n ∧ (∀ x', x' < x → ∀ k', k' < r.length → KK s r x' k' < n) ∧ ∀ k', k' < y → KK s r x k' < n)
theorem InvR.start (s r : List UInt8) : InvR s r 0 0 0 0 0 := ⟨fun x h => by omega, fun k h => by omega, Or.inl ⟨rfl, rfl, rfl⟩⟩
theorem InvR.more {s r : List UInt8} {i k n x y : Nat} (h : InvR s r i k n x y) (hi : i < s.length) (hk : k < r.length) (hc : n < KK s r i k) : InvR s r i (k + 1) (KK s r i k) i k where
  le := fun x' hx k' hk' => by have := h.le x' hx k' hk'; omega
  row := fun k' hk' => by
    rcases Nat.lt_or_ge k' k with h1 | h1
    · have := h.row k' h1; omega
    · obtain rfl : k' = k := by omega
      exact Nat.le_refl _
  hit := Or.inr ⟨by omega, Nat.le_refl i, hi, hk, rfl, fun x' hx k' hk' => by have := h.le x' hx k' hk'; omega, fun k' hk' => by have := h.row k' hk'; omega⟩
theorem InvR.less {s r : List UInt8} {i k n x y : Nat} (h : InvR s r i k n x y) (hc : ¬ n < KK s r i k) : InvR s r i (k + 1) n x y where
  le := h.le
  row := fun k' hk' => by
    rcases Nat.lt_or_ge k' k with h1 | h1
    · exact h.row k' h1
    · obtain rfl : k' = k := by omega
      omega
  hit := h.hit
theorem InvR.next {s r : List UInt8} {i n x y : Nat} (h : InvR s r i r.length n x y) : InvR s r (i + 1) 0 n x y where
  le := fun x' hx k' hk' => by
    rcases Nat.lt_or_ge x' i with h1 | h1
    · exact h.le x' h1 k' hk'
    · obtain rfl : x' = i := by omega
      exact h.row k' hk'
  row := fun k' h => by omega
  hit := by
    rcases h.hit with h1 | ⟨h1, h2, h3⟩
    · exact Or.inl h1
    · exact Or.inr ⟨h1, by omega, h3⟩
/-- both end alike -/
theorem both_same {s r : List UInt8} {m f n x y : Nat} (h : InvP s r s.length m f) (g : InvR s r s.length 0 n x y) : m = n ∧ f = x := by
  rcases h.hit with ⟨rfl, rfl⟩ | ⟨h1, h2, h3, ⟨k, hk, h4⟩, h5⟩
  · rcases g.hit with ⟨rfl, rfl, rfl⟩ | ⟨g1, g2, g3, g4, g5, g6⟩
    · exact ⟨rfl, rfl⟩
    · have := h.le x g3 y g4; omega
  · rcases g.hit with ⟨rfl, rfl, rfl⟩ | ⟨g1, g2, g3, g4, g5, g6, g7⟩
    · have := g.le f h3 k hk; omega
    · have a1 := h.le x g3 y g4
      have a2 := g.le f h3 k hk
      refine ⟨by omega, ?_⟩
      rcases Nat.lt_trichotomy f x with c | c | c
      · have := g6 f c k hk; omega
      · exact c
      · have := h5 x c y g4; omega
/-- the longest, where it is found: at its first places -/
theorem com_places {s r : List UInt8} {m f : Nat} (h : InvP s r s.length m f) (hm : 0 < m) :
    f + m ≤ s.length ∧ (∃ t, occL s (piece s f m) s.length = f :: t) ∧ ∃ k, k < r.length ∧ KK s r f k = m ∧ (∀ k', k' < k → KK s r f k' < m) ∧ ∃ t, occL r (piece s f m) r.length = k :: t := by
  rcases h.hit with ⟨h1, _⟩ | ⟨h1, h2, h3, ⟨k, hk, h4⟩, h5⟩
  · omega
  · have hle := KK_le s r f k
    have hin : f + m ≤ s.length := by omega
    have hl := piece_length s hin
    refine ⟨hin, ?_, ?_⟩
    · refine occL_head s _ h3 (by rw [hl]; rfl) (fun i hi e => ?_)
      rw [hl] at e
      have e2 : beginning r m k = piece s f m := (beg_KK s r hin).2 h4
      have hli : i + m ≤ s.length := by omega
      have : m ≤ KK s r i k := by
        rw [← beg_KK s r hli, e2, ← e]; rfl
      have := h5 i hi k hk
      omega
    · have hex : ∃ k, k < r.length ∧ m ≤ KK s r f k ∧ ∀ k', k' < k → ¬ m ≤ KK s r f k' := by
        exact least_of (fun k => m ≤ KK s r f k) r.length k hk h4
      obtain ⟨k0, hk0, h6, h7⟩ := hex
      have h8 := h.le f h3 k0 hk0
      refine ⟨k0, hk0, by omega, fun k' hk' => by have := h7 k' hk'; omega, occL_head r _ hk0 (by rw [hl]; exact (beg_KK s r hin).2 h6) (fun i hi e => ?_)⟩
      rw [hl] at e
      exact h7 i hi ((beg_KK s r hin).1 e)
theorem find_is (t p : ByteArray) (ht : t.size ≤ 4096) (hp : p.size ≤ 140737488351232) : find_Index_Find.f t (ordI t) (overI t) p = some (nI (occL t.data.toList p.data.toList t.data.toList.length)) := by
  unfold find_Index_Find.f
  rw [if_pos ⟨ht, hp, rfl⟩]; rfl
theorem rd_nI0 (l : List Nat) (j : Nat) (t : List Nat) (h : l = j :: t) : rd (nI l) 0 = (j : Int) ∧ 0 < (nI l).length := by
  subst h
  exact ⟨rfl, by simp [nI]⟩
theorem ext_piece (t : ByteArray) (a m : Nat) : (t.extract a (a + m)).data.toList = piece t.data.toList a m := by
  rw [extract_list, piece, Nat.add_sub_cancel_left]
theorem ext_small (a : ByteArray) (h : a.size ≤ 4096) (i j : Nat) : (a.extract i j).size ≤ 140737488351232 := by
  rw [ByteArray.size_extract]
  exact Nat.le_trans (Nat.sub_le _ _) (Nat.le_trans (Nat.min_le_right j a.size) (Nat.le_trans h (by decide)))
/-- what the program answers -/
def ComV (a b : ByteArray) (r : Int × Int × Int × Int) : Prop :=
  ∃ m f : Nat, InvP a.data.toList b.data.toList a.size m f ∧ ((m = 0 ∧ r = (0, 0, 0, 0)) ∨ (0 < m ∧ ∃ k, k < b.size ∧ KK a.data.toList b.data.toList f k = m ∧ (∀ k', k' < k → KK a.data.toList b.data.toList f k' < m) ∧ r = ((m : Int), (f : Int), (k : Int), 0)))
section
variable (a b : ByteArray) (ha : a.size ≤ 4096) (hb : b.size ≤ 4096)
include ha hb
theorem com_end (m f : Nat) (h : InvP a.data.toList b.data.toList a.size m f) (z : Int) : ∃ r, Ev (fun K => find_Common.l0 K a (m : Int) (f : Int) (a.size : Int) (a.size : Int) a (ordI a) (overI a) b (ordI b) (overI b)) r ∧ ComV a b r := by
  have la := data_length a
  have lb := data_length b
  by_cases h0 : m = 0
  · subst h0
    refine ⟨(0, 0, 0, 0), Ev.step (f := fun _ => some (0, 0, 0, 0)) (fun K => ?_) (Ev.now _), 0, f, h, Or.inl ⟨rfl, rfl⟩⟩
    rw [find_Common.l0, if_neg (by omega), if_pos (by omega)]
  · have h' := h
    rw [← la] at h'
    obtain ⟨hin, ⟨t1, e1⟩, k, hk, hK, hlt, t2, e2⟩ := com_places h' (by omega)
    refine ⟨((m : Int), (f : Int), (k : Int), 0), Ev.step (f := fun _ => some ((m : Int), (f : Int), (k : Int), 0)) (fun K => ?_) (Ev.now _), m, f, h, Or.inr ⟨by omega, k, by omega, hK, hlt, rfl⟩⟩
    have ew : wrap64 ((f : Int) + (m : Int)) = ((f + m : Nat) : Int) := by rw [w64 (by omega) (by omega)]; omega
    have ep := ext_piece a f m
    have f1 := find_is a (a.extract f (f + m)) ha (ext_small a ha _ _)
    have f2 := find_is b (a.extract f (f + m)) hb (ext_small a ha _ _)
    rw [ep] at f1 f2
    have r1 := rd_nI0 _ _ _ e1
    have r2 := rd_nI0 _ _ _ e2
    rw [find_Common.l0, if_neg (by omega), if_neg (by omega), if_pos (by omega), ew, if_pos (by omega), if_pos (by omega), Int.toNat_natCast, Int.toNat_natCast, f1, f2, Option.bind_some, if_pos (by omega), Option.bind_some, if_pos (by omega), r1.1, r2.1]
theorem com_row (i : Nat) (hi : i < a.size) (next : ∀ m f : Nat, InvP a.data.toList b.data.toList (i + 1) m f → ∃ r, Ev (fun K => find_Common.l0 K a (m : Int) (f : Int) (a.size : Int) ((i + 1 : Nat) : Int) a (ordI a) (overI a) b (ordI b) (overI b)) r ∧ ComV a b r) :
    ∀ (d m f : Nat), m + d = a.size → InvP a.data.toList b.data.toList i m f → ∃ r, Ev (fun K => find_Common.l1 K a (m : Int) (f : Int) (i : Int) (a.size : Int) (i : Int) a (ordI a) (overI a) b (ordI b) (overI b)) r ∧ ComV a b r := by
  have la := data_length a
  have lb := data_length b
  have stop : ∀ m f : Nat, m ≤ a.size → ¬ i + m < a.size → InvP a.data.toList b.data.toList i m f → ∃ r, Ev (fun K => find_Common.l1 K a (m : Int) (f : Int) (i : Int) (a.size : Int) (i : Int) a (ordI a) (overI a) b (ordI b) (overI b)) r ∧ ComV a b r := by
    intro m f hm hin h
    obtain ⟨r, hr, hv⟩ := next m f (h.next fun k hk q => by have := KK_le a.data.toList b.data.toList i k; omega)
    refine ⟨r, Ev.step (fun K => ?_) hr, hv⟩
    have e1 : wrap64 ((i : Int) + (m : Int)) = ((i + m : Nat) : Int) := by rw [w64 (by omega) (by omega)]; omega
    have c1 : ¬ ((i + m : Nat) : Int) < (a.size : Int) := by omega
    have e3 : wrap64 ((i : Int) + 1) = ((i + 1 : Nat) : Int) := by rw [w64 (by omega) (by omega)]; omega
    conv => lhs; unfold find_Common.l1
    rw [e1, if_neg c1, e3]
  intro d
  induction d with
  | zero =>
    intro m f hd h
    exact stop m f (by omega) (by omega) h
  | succ d ih =>
    intro m f hd h
    by_cases hin : i + m < a.size
    · have hil : i < a.data.toList.length := by omega
      have hd' : m + 1 + d = a.size := by omega
      have hL : i + (m + 1) ≤ a.data.toList.length := by omega
      have c1 : ((i + m : Nat) : Int) < (a.size : Int) := by omega
      have c2 : (0 : Int) ≤ (i : Int) := by omega
      have c3 : (i : Int) ≤ ((i + (m + 1) : Nat) : Int) := by omega
      have c4 : ((i + (m + 1) : Nat) : Int) ≤ (a.size : Int) := by omega
      have e1 : wrap64 ((i : Int) + (m : Int)) = ((i + m : Nat) : Int) := by rw [w64 (by omega) (by omega)]; omega
      have e2 : wrap64 (((i + m : Nat) : Int) + 1) = ((i + (m + 1) : Nat) : Int) := by
        clear e1
        rw [w64 (by omega) (by omega)]; omega
      have e3 : wrap64 ((i : Int) + 1) = ((i + 1 : Nat) : Int) := by
        clear e1 e2
        rw [w64 (by omega) (by omega)]; omega
      have e4 : wrap64 ((m : Int) + 1) = ((m + 1 : Nat) : Int) := by
        clear e1 e2 e3
        rw [w64 (by omega) (by omega)]; omega
      have hp := occ_pos a.data.toList b.data.toList (i := i) (L := m + 1) hL
      have hc := count_occ b (a.extract i (i + (m + 1))) hb (ext_small a ha _ _)
      rw [ext_piece] at hc
      generalize occN b.data.toList (piece a.data.toList i (m + 1)) = c at hc hp
      by_cases h0 : 0 < c
      · obtain ⟨k, hk, hmk⟩ := hp.1 h0
        obtain ⟨r, hr, hv⟩ := ih (m + 1) i hd' (h.longer hil hk hmk)
        refine ⟨r, Ev.step (fun K => ?_) hr, hv⟩
        conv => lhs; unfold find_Common.l1
        rw [e1, if_pos c1, if_pos c2, e2, if_pos c3, if_pos c4, Int.toNat_natCast, Int.toNat_natCast, hc, Option.bind_some, if_pos (show (c : Int) > 0 by omega), e4]
      · obtain ⟨r, hr, hv⟩ := next m f (h.next fun k hk q => h0 (hp.2 ⟨k, hk, q⟩))
        refine ⟨r, Ev.step (fun K => ?_) hr, hv⟩
        conv => lhs; unfold find_Common.l1
        rw [e1, if_pos c1, if_pos c2, e2, if_pos c3, if_pos c4, Int.toNat_natCast, Int.toNat_natCast, hc, Option.bind_some, if_neg (show ¬ (c : Int) > 0 by omega), e3]
    · exact stop m f (by omega) hin h
theorem com_all : ∀ (d i m f : Nat), i + d = a.size → InvP a.data.toList b.data.toList i m f → m ≤ a.size → ∃ r, Ev (fun K => find_Common.l0 K a (m : Int) (f : Int) (a.size : Int) (i : Int) a (ordI a) (overI a) b (ordI b) (overI b)) r ∧ ComV a b r
  | 0, i, m, f, hi, h, hm => by
    obtain rfl : i = a.size := by omega
    exact com_end a b ha hb m f h 0
  | d + 1, i, m, f, hi, h, hm => by
    have la := data_length a
    have lb := data_length b
    obtain ⟨r, hr, hv⟩ := com_row a b ha hb i (by omega) (fun m f h => com_all d (i + 1) m f (by omega) h (by
      rcases h.hit with ⟨h1, _⟩ | ⟨h1, h2, h3, ⟨k, hk, h4⟩, _⟩
      · omega
      · have := KK_le a.data.toList b.data.toList f k; omega)) (a.size - m) m f (by omega) h
    refine ⟨r, Ev.step (fun K => ?_) hr, hv⟩
    conv => lhs; unfold find_Common.l0
    rw [if_pos (by omega)]
theorem common_ev4 : ∃ r, Ev (fun K => find_Common.f K a b) r ∧ ComV a b r := by
  obtain ⟨r, hr, hv⟩ := com_all a b ha hb a.size 0 0 0 (by omega) (InvP.start _ _) (by omega)
  refine ⟨r, ?_, hv⟩
  unfold find_Common.f
  refine Ev.bind (find_New_ev a ha) (Ev.bind (find_New_ev b hb) (ev_pos rfl ?_))
  refine Ev.step (fun K => ?_) hr
  rw [find_Common.j0, if_neg (by simp)]
  rfl
theorem ref_row (i : Nat) (hi : i < a.size) (next : ∀ n x y : Nat, InvR a.data.toList b.data.toList (i + 1) 0 n x y → ∃ n' x' y' : Nat, Ev (fun K => silversideref07_Longest.l0 K a b (n : Int) (x : Int) (y : Int) ((i + 1 : Nat) : Int)) ((n' : Int), (x' : Int), (y' : Int)) ∧ InvR a.data.toList b.data.toList a.size 0 n' x' y') :
    ∀ (d k n x y : Nat), k + d = b.size → InvR a.data.toList b.data.toList i k n x y → ∃ n' x' y' : Nat, Ev (fun K => silversideref07_Longest.l1 K a b (n : Int) (x : Int) (y : Int) (i : Int) (k : Int)) ((n' : Int), (x' : Int), (y' : Int)) ∧ InvR a.data.toList b.data.toList a.size 0 n' x' y'
  | 0, k, n, x, y, hd, h => by
    have la := data_length a
    have lb := data_length b
    obtain rfl : k = b.size := by omega
    rw [← lb] at h
    obtain ⟨n', x', y', he, hr⟩ := next n x y h.next
    refine ⟨n', x', y', Ev.step (fun K => ?_) he, hr⟩
    conv => lhs; unfold silversideref07_Longest.l1
    rw [if_neg (by omega), w64 (x := (i : Int) + 1) (by omega) (by omega)]
    rfl
  | d + 1, k, n, x, y, hd, h => by
    have la := data_length a
    have lb := data_length b
    have hc := common_ev a b (by omega) (by omega) i k (by omega) (by omega)
    have hkk : cpl (a.data.toList.drop i) (b.data.toList.drop k) = KK a.data.toList b.data.toList i k := rfl
    rw [hkk] at hc
    have e3 : wrap64 ((k : Int) + 1) = ((k + 1 : Nat) : Int) := by rw [w64 (by omega) (by omega)]; omega
    by_cases hn : n < KK a.data.toList b.data.toList i k
    · obtain ⟨n', x', y', he, hr⟩ := ref_row i hi next d (k + 1) _ i k (by omega) (h.more (by omega) (by omega) hn)
      refine ⟨n', x', y', Ev.step (fun K => by rw [silversideref07_Longest.l1, if_pos (by omega), e3]) (Ev.bind hc (ev_pos (show ((KK a.data.toList b.data.toList i k : Nat) : Int) > (n : Int) by omega) he)), hr⟩
    · obtain ⟨n', x', y', he, hr⟩ := ref_row i hi next d (k + 1) n x y (by omega) (h.less hn)
      refine ⟨n', x', y', Ev.step (fun K => by rw [silversideref07_Longest.l1, if_pos (by omega), e3]) (Ev.bind hc (ev_neg (show ¬ ((KK a.data.toList b.data.toList i k : Nat) : Int) > (n : Int) by omega) he)), hr⟩
theorem ref_all : ∀ (d i n x y : Nat), i + d = a.size → InvR a.data.toList b.data.toList i 0 n x y → ∃ n' x' y' : Nat, Ev (fun K => silversideref07_Longest.l0 K a b (n : Int) (x : Int) (y : Int) (i : Int)) ((n' : Int), (x' : Int), (y' : Int)) ∧ InvR a.data.toList b.data.toList a.size 0 n' x' y'
  | 0, i, n, x, y, hi, h => by
    obtain rfl : i = a.size := by omega
    exact ⟨n, x, y, Ev.step (f := fun _ => some ((n : Int), (x : Int), (y : Int))) (fun K => by rw [silversideref07_Longest.l0, if_neg (by omega)]) (Ev.now _), h⟩
  | d + 1, i, n, x, y, hi, h => by
    obtain ⟨n', x', y', he, hr⟩ := ref_row a b ha hb i (by omega) (fun n x y h => ref_all d (i + 1) n x y (by omega) h) b.size 0 n x y (by omega) h
    refine ⟨n', x', y', Ev.step (fun K => ?_) he, hr⟩
    conv => lhs; unfold silversideref07_Longest.l0
    rw [if_pos (by omega)]
    rfl
theorem longest_ev : ∃ n x y : Nat, Ev (fun K => silversideref07_Longest.f K a b) ((n : Int), (x : Int), (y : Int)) ∧ InvR a.data.toList b.data.toList a.size 0 n x y :=
  ref_all a b ha hb a.size 0 0 0 0 (by omega) (InvR.start _ _)
omit ha hb in
/-- the two answers are one -/
theorem com_same {r : Int × Int × Int × Int} {n x y : Nat} (h : ComV a b r) (g : InvR a.data.toList b.data.toList a.size 0 n x y) : r = ((n : Int), (x : Int), (y : Int), 0) := by
  have la := data_length a
  have lb := data_length b
  obtain ⟨m, f, hi, hr⟩ := h
  rw [← la] at hi g
  obtain ⟨rfl, rfl⟩ := both_same hi g
  rcases hr with ⟨rfl, rfl⟩ | ⟨h0, k, hk, hK, hlt, rfl⟩
  · rcases g.hit with ⟨_, h2, rfl⟩ | ⟨h1, _⟩
    · rw [h2]; rfl
    · omega
  · rcases g.hit with ⟨h1, _⟩ | ⟨h1, h2, h3, h4, h5, h6, h7⟩
    · omega
    · have : k = y := by
        rcases Nat.lt_trichotomy k y with c | c | c
        · have := h7 k c; omega
        · exact c
        · have := hlt y c; omega
      rw [this]
end
end Go.Proofs.Ytppelnlocfcgfaa.P
namespace Go.Proofs.Ytppelnlocfcgfaa.Pure
open Go.RowKit Go.Proofs.Ytppelnlocfcgfaa.P Go.Proofs.YtppelnlocfcgfaaW.PrintWords Go.Proofs.YtppelnlocfcgfaaW.PrintLast
open Go.Proofs.Fnd
theorem com_le {s r : List UInt8} {m f m' f' : Nat} (h : InvP s r s.length m f) (g : InvP r s r.length m' f') : m ≤ m' := by
  rcases h.hit with ⟨h1, _⟩ | ⟨h1, h2, h3, ⟨k, hk, h4⟩, _⟩
  · omega
  · have := g.le k hk f h3
    rw [KK_comm] at this; omega
section
variable (a b : ByteArray) (ha : a.size ≤ 4096) (hb : b.size ≤ 4096)
include ha hb
theorem none_at {c L : Nat} (hc : c + L ≤ a.size) (h0 : ∀ k, k < b.size → KK a.data.toList b.data.toList c k < L) : find_Index_Count.f b (ordI b) (overI b) (a.extract c (c + L)) = some 0 := by
  have la := data_length a
  have lb := data_length b
  have h := count_occ b (a.extract c (c + L)) hb (ext_small a ha _ _)
  rw [ext_piece] at h
  have hp := occ_pos a.data.toList b.data.toList (i := c) (L := L) (by omega)
  have : occN b.data.toList (piece a.data.toList c L) = 0 := by
    apply Decidable.byContradiction
    intro hne
    obtain ⟨k, hk, hkk⟩ := hp.1 (by omega)
    have := h0 k (by omega); omega
  rw [h, this]; rfl
theorem both_none (h : ∀ c, c < a.size → ∀ k, k < b.size → KK a.data.toList b.data.toList c k < 1) : ∀ (d c : Nat), c + d = a.size → Ev (fun K => silversidelaw07_FindBoth.l0 K a 0 0 (c : Int) b (ordI b) (overI b)) true
  | 0, c, hc => Ev.step (fun K => by rw [silversidelaw07_FindBoth.l0, if_neg (by omega), if_pos rfl, if_pos rfl]) (Ev.bind awake_ev (Ev.now _))
  | d + 1, c, hc => by
    have e1 : wrap64 ((c : Int) + 1) = ((c + 1 : Nat) : Int) := by rw [w64 (by omega) (by omega)]; omega
    refine Ev.step (fun K => ?_) (both_none h d (c + 1) (by omega))
    conv => lhs; unfold silversidelaw07_FindBoth.l0
    rw [if_pos (by omega), if_pos (by omega), e1, if_pos (by omega), if_pos (by omega), Int.toNat_natCast, Int.toNat_natCast, none_at a b ha hb (by omega) (h c (by omega)), Option.bind_some, if_neg (by omega)]
theorem both_some {m f : Nat} (h0 : 0 < m) (hm : m ≤ a.size) (h : ∀ c, c < a.size → ∀ k, k < b.size → KK a.data.toList b.data.toList c k < m + 1) (hf : ∀ c, c < f → ∀ k, k < b.size → KK a.data.toList b.data.toList c k < m) :
    ∀ (d c : Nat), c + d = a.size → Ev (fun K => silversidelaw07_FindBoth.l1 K a (m : Int) (f : Int) (c : Int) b (ordI b) (overI b)) true
  | 0, c, hc => by
    have e1 : wrap64 ((c : Int) + (m : Int)) = ((c + m : Nat) : Int) := by rw [w64 (by omega) (by omega)]; omega
    exact Ev.step (fun K => by rw [silversidelaw07_FindBoth.l1, e1, if_neg (by omega)]) (Ev.bind awake_ev (Ev.now _))
  | d + 1, c, hc => by
    have e1 : wrap64 ((c : Int) + (m : Int)) = ((c + m : Nat) : Int) := by rw [w64 (by omega) (by omega)]; omega
    have e2 : wrap64 (((c + m : Nat) : Int) + 1) = ((c + (m + 1) : Nat) : Int) := by rw [w64 (by omega) (by omega)]; omega
    have e3 : wrap64 ((c : Int) + 1) = ((c + 1 : Nat) : Int) := by rw [w64 (by omega) (by omega)]; omega
    by_cases hin : c + m < a.size
    · refine Ev.step (fun K => ?_) (both_some h0 hm h hf d (c + 1) (by omega))
      conv => lhs; unfold silversidelaw07_FindBoth.l1
      rw [e1, if_pos (by omega), if_pos (by omega), e2, if_pos (by omega), if_pos (by omega), Int.toNat_natCast, Int.toNat_natCast, none_at a b ha hb (by omega) (h c (by omega)), Option.bind_some, if_neg (by omega)]
      by_cases hcf : c < f
      · rw [if_pos (by omega), if_pos (by omega), if_pos (by omega), Int.toNat_natCast, none_at a b ha hb (by omega) (hf c hcf), Option.bind_some, if_neg (by omega), e3]
      · rw [if_neg (by omega), e3]
    · exact Ev.step (fun K => by rw [silversidelaw07_FindBoth.l1, e1, if_neg (by omega)]) (Ev.bind awake_ev (Ev.now _))
end
theorem FindBoth : silversidelaw07_FindBoth.Pure := by
  intro a0 a1 _ _
  refine Ev.rounds ?_
  unfold silversidelaw07_FindBoth.f
  have hm := mn_nat a0.size 300
  have hn := mn_nat a1.size 300
  rw [show ((300 : Nat) : Int) = 300 from rfl] at hm hn
  rw [hm, hn]
  refine ev_pos (by omega) (ev_pos (by omega) (ev_pos (by omega) (ev_pos (by omega) ?_)))
  rw [Int.toNat_natCast, Int.toNat_natCast]
  have ha : (a0.extract 0 (min a0.size 300)).size ≤ 4096 := by rw [ByteArray.size_extract]; omega
  have hb : (a1.extract 0 (min a1.size 300)).size ≤ 4096 := by rw [ByteArray.size_extract]; omega
  generalize a0.extract 0 (min a0.size 300) = a at *
  generalize a1.extract 0 (min a1.size 300) = b at *
  have la := data_length a
  have lb := data_length b
  obtain ⟨r, hr, m, f, hI, hv⟩ := common_ev4 a b ha hb
  obtain ⟨r', hr', m', f', hI', hv'⟩ := common_ev4 b a hb ha
  rw [← la] at hI
  rw [← lb] at hI'
  have hmm : m = m' := Nat.le_antisymm (com_le hI hI') (com_le hI' hI)
  have x1 : r.1 = (m : Int) ∧ r.2.2.2 = 0 := by
    rcases hv with ⟨h1, rfl⟩ | ⟨h1, k, _, _, _, rfl⟩
    · exact ⟨by rw [h1]; rfl, rfl⟩
    · exact ⟨rfl, rfl⟩
  have x2 : r'.1 = (m : Int) ∧ r'.2.2.2 = 0 := by
    rcases hv' with ⟨h1, rfl⟩ | ⟨h1, k, _, _, _, rfl⟩
    · exact ⟨by rw [hmm, h1]; rfl, rfl⟩
    · exact ⟨by rw [hmm], rfl⟩
  refine Ev.bind hr (Ev.bind hr' (Ev.bind (find_New_ev a ha) (Ev.bind (find_New_ev b hb) (ev_pos x1.2 (ev_pos x2.2 (ev_pos rfl (ev_pos rfl (ev_pos (x1.1.trans x2.1.symm) (ev_neg (by omega) ?_)))))))))
  rcases hv with ⟨h0, rfl⟩ | ⟨h0, k, hk, hK, hlt, rfl⟩
  · subst h0
    refine ev_neg (by simp) (ev_neg (by simp) ?_)
    dsimp only
    rw [show wrap64 ((0 : Int) + 0) = 0 from (w64 (by omega) (by omega)).trans (by omega)]
    refine ev_neg (by omega) ?_
    rw [decide_eq_false (show ¬ (0 : Int) > (b.size : Int) by omega)]
    refine Ev.step (fun K => by rw [silversidelaw07_FindBoth.j0, if_neg (by simp), if_pos rfl]) ?_
    exact both_none a b ha hb (fun c hc k hk => by have := hI.le c (by omega) k (by omega); omega) a.size 0 (by omega)
  · obtain ⟨hin, ⟨t1, e1⟩, k', hk', hK', hlt', t2, e2⟩ := com_places hI h0
    obtain rfl : k' = k := by
      rcases Nat.lt_trichotomy k' k with c | c | c
      · have := hlt k' c; omega
      · exact c
      · have := hlt' k c; omega
    have hkl := KK_le a.data.toList b.data.toList f k'
    have hkb : k' + m ≤ b.size := by omega
    have hfa : f + m ≤ a.size := by omega
    clear hkl hK hK' hlt hlt' hk hk' hin hmm x1 x2 hm hn
    have d1 : ¬ (m : Int) < 0 := by omega
    have d2 : ¬ (f : Int) < 0 := by omega
    have d3 : ¬ (k' : Int) < 0 := by omega
    have d4 : ¬ ((f + m : Nat) : Int) > (a.size : Int) := by omega
    have d5 : ¬ ((k' + m : Nat) : Int) > (b.size : Int) := by omega
    have d6 : ¬ (m : Int) = 0 := by omega
    have d7 : (0 : Int) ≤ (f : Int) := by omega
    have d8 : (f : Int) ≤ ((f + m : Nat) : Int) := by omega
    have d9 : ((f + m : Nat) : Int) ≤ (a.size : Int) := by omega
    have da : m ≤ a.size := by omega
    have ew : wrap64 ((f : Int) + (m : Int)) = ((f + m : Nat) : Int) := by rw [w64 (by omega) (by omega)]; omega
    have ew2 : wrap64 ((k' : Int) + (m : Int)) = ((k' + m : Nat) : Int) := by
      clear ew
      rw [w64 (by omega) (by omega)]; omega
    have hle : ∀ c, c < a.size → ∀ k, k < b.size → KK a.data.toList b.data.toList c k < m + 1 := fun c hc k hk => Nat.lt_succ_of_le (hI.le c (by rw [la]; exact hc) k (by rw [lb]; exact hk))
    have hit : ∀ c, c < f → ∀ k, k < b.size → KK a.data.toList b.data.toList c k < m := by
      rcases hI.hit with ⟨q, _⟩ | ⟨_, _, _, _, q⟩
      · exact absurd q (by omega)
      · exact fun c hc k hk => q c hc k (by rw [lb]; exact hk)
    have f1 := find_is a (a.extract f (f + m)) ha (ext_small a ha _ _)
    have f2 := find_is b (a.extract f (f + m)) hb (ext_small a ha _ _)
    rw [ext_piece] at f1 f2
    have r1 := rd_nI0 _ _ _ e1
    have r2 := rd_nI0 _ _ _ e2
    generalize nI (occL a.data.toList (piece a.data.toList f m) a.data.toList.length) = l1 at f1 r1
    generalize nI (occL b.data.toList (piece a.data.toList f m) b.data.toList.length) = l2 at f2 r2
    have g1 : ¬ (l1.length : Int) = 0 := by have := r1.2; omega
    have g2 : (0 : Int) < (l1.length : Int) := by have := r1.2; omega
    have g3 : ¬ (l2.length : Int) = 0 := by have := r2.2; omega
    have g4 : (0 : Int) < (l2.length : Int) := by have := r2.2; omega
    have hj2 : ((rd l2 0) != (k' : Int)) = false := by rw [r2.1]; simp
    refine ev_neg d2 (ev_neg d3 ?_)
    dsimp only
    rw [ew, ew2]
    refine ev_neg d4 ?_
    rw [decide_eq_false d5]
    refine Ev.step (fun K => by rw [silversidelaw07_FindBoth.j0, if_neg (by decide), if_neg d6, if_pos d7, ew, if_pos d8, if_pos d9, Int.toNat_natCast, Int.toNat_natCast, f1, f2, Option.bind_some, Option.bind_some, if_neg g1, if_pos g2, if_pos r1.1, if_neg g3, if_pos g4, hj2]) ?_
    refine Ev.step (fun K => by rw [silversidelaw07_FindBoth.j2, if_neg (by decide)]) ?_
    exact both_some a b ha hb h0 da hle hit a.size 0 (Nat.zero_add _)
end Go.Proofs.Ytppelnlocfcgfaa.Pure
