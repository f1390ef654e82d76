/- Proved here: what functions that the law reaches compute, and plain laws of that. No conditions but those that the theorems state. Put together by a program; a part of it was printed by a program of the session's, by way of the kit's printer (wip/printplus.py, wip/mend*.py). -/
import Derived.Test.YtppelnlocfcgfaaCFindSides2
import Derived.Test.YtppelnlocfcgfaaCFindSides1
import Derived.Test.YtppelnlocfcgfaaB2
import Derived.Test.YtppelnlocfcgfaaB1
import Derived.Test.YtppelnlocfcgfaaB4
set_option linter.unusedVariables false
set_option linter.unusedSimpArgs false
namespace Go.Proofs.Ytppelnlocfcgfaa.P
open Go.RowKit Go.Proofs.YtppelnlocfcgfaaW.PrintWords Go.Proofs.YtppelnlocfcgfaaW.PrintLast Go.Proofs.YtppelnlocfcgfaaW.PrintMore
open Go.Proofs.Fnd
theorem txt_trans {x y z : List UInt8} (h : x < y) (h' : y < z) : x < z := by
  obtain ⟨m, h1, h2⟩ := (lt_iff x y).1 h
  obtain ⟨k, h3, h4⟩ := (lt_iff y z).1 h'
  refine (lt_iff x z).2 ?_
  rcases Nat.lt_trichotomy m k with c | c | c
  · exact ⟨m, fun t ht => (h1 t ht).trans (h3 t (by omega)), by rw [← h3 m c]; exact h2⟩
  · subst c; exact ⟨m, fun t ht => (h1 t ht).trans (h3 t ht), by omega⟩
  · exact ⟨k, fun t ht => (h1 t (by omega)).trans (h3 t ht), by rw [h1 k c]; exact h4⟩
/-- where a pattern occurs -/
def occL (s p : List UInt8) (k : Nat) : List Nat := (List.range k).filter fun i => decide (beginning s p.length i = p)
theorem occL_succ (s p : List UInt8) (k : Nat) : occL s p (k + 1) = occL s p k ++ (if beginning s p.length k = p then [k] else []) := by
  unfold occL
  rw [List.range_succ, List.filter_append]
  congr 1
  by_cases h : beginning s p.length k = p
  · rw [if_pos h]; simp [h]
  · rw [if_neg h]; simp [h]
theorem occL_len (s p : List UInt8) : (occL s p s.length).length = occN s p := by rw [occL, occN, List.countP_eq_length_filter]
theorem occL_le (s p : List UInt8) (k : Nat) : (occL s p k).length ≤ k := by
  unfold occL
  have := List.length_filter_le (fun i => decide (beginning s p.length i = p)) (List.range k)
  rwa [List.length_range] at this
theorem piece_list (t p : ByteArray) (k : Nat) (h : k + p.size ≤ t.size) : (t.extract k (k + p.size)).toList = beginning t.data.toList p.data.toList.length k := by
  rw [ByteArray.toList_eq, extract_list, data_length p, beginning, show k + p.size - k = p.size by omega]
theorem occL_rest (s p : List UInt8) (k : Nat) (hk : k ≤ s.length) (h : s.length < k + p.length) : ∀ d, k + d ≤ s.length → occL s p (k + d) = occL s p k
  | 0, _ => rfl
  | d + 1, hd => by
    rw [show k + (d + 1) = k + d + 1 by omega, occL_succ, occL_rest s p k hk h d (by omega), if_neg, List.append_nil]
    intro e
    have := congrArg List.length e
    unfold beginning at this
    rw [List.length_take, List.length_drop] at this
    omega
theorem reffind_l0 (t p : ByteArray) (ht : t.size ≤ 1000000) (hp : p.size ≤ 140737488351232) : ∀ (d k : Nat), k + d = t.size → Ev (fun K => silversideref07_Find.l0 K t p (nI (occL t.data.toList p.data.toList k)) (k : Int)) (nI (occL t.data.toList p.data.toList t.data.toList.length)) := by
  have hl := data_length t
  have hlp := data_length p
  intro d
  induction d with
  | zero =>
    intro k hk
    obtain rfl : k = t.size := by omega
    refine Ev.step (fun K => by rw [silversideref07_Find.l0, if_neg (by omega)]) ?_
    refine Ev.step (f := fun _ => some _) (fun K => by rw [silversideref07_Find.j1, if_neg (by simp)]) ?_
    rw [hl]; exact Ev.now _
  | succ d ih =>
    intro k hk
    have hlen := occL_le t.data.toList p.data.toList k
    have e1 : wrap64 ((k : Int) + (p.size : Int)) = ((k + p.size : Nat) : Int) := by rw [w64 (by omega) (by omega)]; omega
    refine Ev.step (fun K => by rw [silversideref07_Find.l0, if_pos (by omega)]) ?_
    rw [e1]
    by_cases hin : k + p.size ≤ t.size
    · have h := ih (k + 1) (by omega)
      rw [decide_eq_true (by omega)]
      refine Ev.step (fun K => by rw [silversideref07_Find.j1, if_pos rfl]) ?_
      rw [e1]
      refine ev_pos (by omega) (ev_pos (by omega) (ev_pos (by omega) ?_))
      rw [Int.toNat_natCast, Int.toNat_natCast, piece_list t p k hin, ByteArray.toList_eq p, w64 (x := (k : Int) + 1) (by omega) (by omega)]
      rw [occL_succ] at h
      by_cases c : beginning t.data.toList p.data.toList.length k = p.data.toList
      · rw [if_pos c] at h
        refine ev_pos c (ev_pos (by rw [nI_length]; omega) ?_)
        have e2 : nI (occL t.data.toList p.data.toList k ++ [k]) = nI (occL t.data.toList p.data.toList k) ++ [(k : Int)] := by simp [nI]
        rw [e2] at h
        exact h
      · rw [if_neg c, List.append_nil] at h
        exact ev_neg c h
    · rw [decide_eq_false (by omega)]
      refine Ev.step (f := fun _ => some _) (fun K => by rw [silversideref07_Find.j1, if_neg (by simp)]) ?_
      have := occL_rest t.data.toList p.data.toList k (by omega) (by omega) (d + 1) (by omega)
      rw [show t.data.toList.length = k + (d + 1) by omega, this]
      exact Ev.now _
theorem reffind_ev (t p : ByteArray) (ht : t.size ≤ 1000000) (hp : p.size ≤ 140737488351232) : Ev (fun K => silversideref07_Find.f K t p) (nI (occL t.data.toList p.data.toList t.data.toList.length)) := by
  have := reffind_l0 t p ht hp t.size 0 (by omega)
  simpa [silversideref07_Find.f, occL, nI] using this
/-- a piece of a text -/
def piece (s : List UInt8) (a m : Nat) : List UInt8 := (s.drop a).take m
/-- the best of the pairs so far: those with first place below i, and (i, b) for b below k -/
def MetP (i k a b : Nat) : Prop := b < a ∧ (a < i ∨ a = i ∧ b < k)
structure Best (s : List UInt8) (i k : Nat) (L : List UInt8) : Prop where
  all : ∀ a b, MetP i k a b → lcp s a b ≤ L.length ∧ (lcp s a b = L.length → ¬ piece s a (lcp s a b) < L)
  is : L = [] ∨ ∃ a b, MetP i k a b ∧ lcp s a b = L.length ∧ L = piece s a L.length
theorem piece_len (s : List UInt8) {a b : Nat} (ha : a < s.length) (hb : b < s.length) (h : a ≠ b) : (piece s a (lcp s a b)).length = lcp s a b := by
  have := (lcp_is s a b (by omega) (by omega) h).inside (by omega) (by omega) h
  unfold piece
  rw [List.length_take, List.length_drop]; omega
theorem Best.next {s : List UInt8} {i k : Nat} {L : List UInt8} (h : Best s i k L) (hi : i < s.length) (hk : k < i) : Best s i (k + 1) (if L.length < lcp s i k then piece s i (lcp s i k) else if lcp s i k = L.length ∧ piece s i (lcp s i k) < L then piece s i (lcp s i k) else L) := by
  have hpl := piece_len s (a := i) (b := k) hi (by omega) (by omega)
  have split_met : ∀ a b, MetP i (k + 1) a b → MetP i k a b ∨ a = i ∧ b = k := fun a b hm => by
    unfold MetP at hm ⊢; omega
  have met_new : MetP i (k + 1) i k := by unfold MetP; omega
  have met_up : ∀ a b, MetP i k a b → MetP i (k + 1) a b := fun a b hm => by unfold MetP at hm ⊢; omega
  by_cases c1 : L.length < lcp s i k
  · rw [if_pos c1]
    refine ⟨fun a b hm => ?_, .inr ⟨i, k, met_new, by rw [hpl], by rw [hpl]⟩⟩
    rw [hpl]
    rcases split_met a b hm with q | ⟨rfl, rfl⟩
    · have := (h.all a b q).1
      exact ⟨by omega, fun e => by omega⟩
    · exact ⟨Nat.le_refl _, fun _ => txt_irrefl _⟩
  · rw [if_neg c1]
    by_cases c2 : lcp s i k = L.length ∧ piece s i (lcp s i k) < L
    · rw [if_pos c2]
      refine ⟨fun a b hm => ?_, .inr ⟨i, k, met_new, by rw [hpl], by rw [hpl]⟩⟩
      rw [hpl]
      rcases split_met a b hm with q | ⟨rfl, rfl⟩
      · have h1 := h.all a b q
        refine ⟨by omega, fun e h2 => ?_⟩
        have h3 := h1.2 (by omega)
        rcases txt_tri (piece s a (lcp s a b)) L with q1 | q1 | q1
        · exact h3 q1
        · rw [q1] at h2; exact txt_asymm h2 c2.2
        · have t1 := c2.2
          -- piece a < piece i < L < piece a
          exact txt_asymm (x := piece s a (lcp s a b)) (y := L) (txt_trans h2 t1) q1
      · exact ⟨Nat.le_refl _, fun _ => txt_irrefl _⟩
    · rw [if_neg c2]
      refine ⟨fun a b hm => ?_, ?_⟩
      · rcases split_met a b hm with q | ⟨rfl, rfl⟩
        · exact h.all a b q
        · exact ⟨by omega, fun e h2 => c2 ⟨e, h2⟩⟩
      · rcases h.is with q | ⟨a, b, hm, q⟩
        · exact .inl q
        · exact .inr ⟨a, b, met_up a b hm, q⟩
theorem Best.row {s : List UInt8} {i : Nat} {L : List UInt8} (h : Best s i i L) : Best s (i + 1) 0 L := by
  have e : ∀ a b, MetP (i + 1) 0 a b ↔ MetP i i a b := fun a b => by unfold MetP; omega
  exact ⟨fun a b hm => h.all a b ((e a b).1 hm), h.is.imp id fun ⟨a, b, hm, q⟩ => ⟨a, b, (e a b).2 hm, q⟩⟩
theorem over_best (s : List UInt8) (k : Nat) (hk : k ≤ s.length) : (∀ j, j < k → (overL s).getD j 0 ≤ (bestOf (sufOrd s) (overL s) k).1) ∧ ((bestOf (sufOrd s) (overL s) k).1 = 0 ∨ ∃ j, j < k ∧ bestOf (sufOrd s) (overL s) k = ((overL s).getD j 0, (sufOrd s).getD j 0) ∧ ∀ q, q < j → (overL s).getD q 0 < (overL s).getD j 0) := by
  induction k with
  | zero => exact ⟨fun j hj => by omega, .inl rfl⟩
  | succ k ih =>
    obtain ⟨h1, h2⟩ := ih (by omega)
    unfold bestOf
    by_cases c : (bestOf (sufOrd s) (overL s) k).1 < (overL s).getD k 0
    · rw [if_pos c]
      refine ⟨fun j hj => ?_, .inr ⟨k, by omega, rfl, fun q hq => ?_⟩⟩
      · by_cases e : j = k
        · subst e; exact Nat.le_refl _
        · have := h1 j (by omega); show _ ≤ (overL s).getD k 0; omega
      · have := h1 q hq; omega
    · rw [if_neg c]
      refine ⟨fun j hj => ?_, ?_⟩
      · by_cases e : j = k
        · subst e; omega
        · exact h1 j (by omega)
      · rcases h2 with h | ⟨j, hj, h, h'⟩
        · exact .inl h
        · exact .inr ⟨j, by omega, h, h'⟩
/-- two pieces that run alike -/
theorem piece_eq {s : List UInt8} {a b : Nat} (ha : a < s.length) (hb : b < s.length) (h : a ≠ b) : piece s a (lcp s a b) = piece s b (lcp s a b) := by
  have hl := lcp_is s a b (by omega) (by omega) h
  refine (eq_iff_ch _ _).2 fun t => ?_
  unfold piece
  rw [ch_begin, ch_begin]
  split
  · exact hl.same t (by assumption)
  · rfl
/-- the two ways to the longest that occurs twice -/
theorem Best.done {s : List UInt8} {L : List UInt8} (h : Best s s.length 0 L) : L = piece s (bestOf (sufOrd s) (overL s) s.length).2 (bestOf (sufOrd s) (overL s) s.length).1 := by
  obtain ⟨h1, h2⟩ := over_best s s.length (Nat.le_refl _)
  -- any pair's overlap, by ranks
  have pair : ∀ a b, a < s.length → b < s.length → a ≠ b → ∃ c, c < s.length ∧ lcp s a b ≤ (overL s).getD c 0 ∧ ((sufOrd s).getD c 0 = a ∨ (sufOrd s).getD c 0 = b) := fun a b ha hb hne => by
    have ra := rank_lt s a ha
    have rb := rank_lt s b hb
    have ea := ord_rank s a ha
    have eb := ord_rank s b hb
    rcases Nat.lt_trichotomy (rank s a) (rank s b) with c | c | c
    · have := lcp_up s c rb
      rw [ea, eb] at this
      exact ⟨rank s b, rb, this, .inr eb⟩
    · rw [c, eb] at ea; exact absurd ea.symm hne
    · have := lcp_up s c ra
      rw [ea, eb, lcp_symm s b a (by omega) (by omega) (fun e => hne e.symm)] at this
      exact ⟨rank s a, ra, this, .inl ea⟩
  have small : ∀ a b, a < s.length → b < s.length → a ≠ b → lcp s a b ≤ (bestOf (sufOrd s) (overL s) s.length).1 := fun a b ha hb hne => by
    obtain ⟨c, hc, hle, _⟩ := pair a b ha hb hne
    have := h1 c hc; omega
  rcases h2 with h0 | ⟨j, hj, hbe, hfirst⟩
  · rw [h0]
    show L = List.take 0 _
    rw [List.take_zero]
    rcases h.is with q | ⟨a, b, hm, q1, q2⟩
    · exact q
    · unfold MetP at hm
      have := small a b (by omega) (by omega) (by omega)
      exact List.eq_nil_of_length_eq_zero (by omega)
  · rw [hbe] at small ⊢
    show L = piece s ((sufOrd s).getD j 0) ((overL s).getD j 0)
    have small' : ∀ a b, a < s.length → b < s.length → a ≠ b → lcp s a b ≤ (overL s).getD j 0 := small
    by_cases hz : (overL s).getD j 0 = 0
    · rw [hz]
      show L = List.take 0 _
      rw [List.take_zero]
      rcases h.is with q | ⟨a, b, hm, q1, q2⟩
      · exact q
      · unfold MetP at hm
        have := small' a b (by omega) (by omega) (by omega)
        exact List.eq_nil_of_length_eq_zero (by omega)
    · have hj0 : j ≠ 0 := fun e => by
        rw [e, overL_at s 0 (by omega), if_pos rfl] at hz; omega
      have lx := ord_lt s (j - 1) (by omega)
      have ly := ord_lt s j hj
      have hov := overL_at s j hj
      rw [if_neg hj0] at hov
      have hne : (sufOrd s).getD (j - 1) 0 ≠ (sufOrd s).getD j 0 := fun e => by have := ord_inj s (by omega) hj e; omega
      -- the program's pair is met
      have own : (overL s).getD j 0 ≤ L.length ∧ ((overL s).getD j 0 = L.length → ¬ piece s ((sufOrd s).getD j 0) ((overL s).getD j 0) < L) := by
        rcases Nat.lt_or_gt_of_ne hne with c | c
        · have := h.all ((sufOrd s).getD j 0) ((sufOrd s).getD (j - 1) 0) (by unfold MetP; omega)
          rw [lcp_symm s _ _ (by omega) (by omega) (fun e => hne e.symm), ← hov] at this
          exact this
        · have := h.all ((sufOrd s).getD (j - 1) 0) ((sufOrd s).getD j 0) (by unfold MetP; omega)
          rw [piece_eq lx ly hne, ← hov] at this
          exact this
      rcases h.is with q | ⟨a, b, hm, q1, q2⟩
      · have h9 := own.1
        rw [q] at h9
        exact absurd (Nat.le_zero.1 h9) hz
      · unfold MetP at hm
        have hsm := small' a b (by omega) (by omega) (by omega)
        have hlen : L.length = (overL s).getD j 0 := by omega
        obtain ⟨c, hc, hle, hab⟩ := pair a b (by omega) (by omega) (by omega)
        have hjc : j ≤ c := by
          apply Decidable.byContradiction
          intro q
          have := hfirst c (by omega); omega
        have hL : L = piece s ((sufOrd s).getD c 0) ((overL s).getD j 0) := by
          rw [hlen] at q2
          rcases hab with e | e
          · rw [e]; exact q2
          · rw [e, q2]
            have := piece_eq (s := s) (a := a) (b := b) (by omega) (by omega) (by omega)
            rwa [q1, hlen] at this
        have hle2 : ¬ L < piece s ((sufOrd s).getD j 0) ((overL s).getD j 0) := by
          rw [hL]
          exact take_le _ (order_le s hjc hc)
        rcases txt_tri L (piece s ((sufOrd s).getD j 0) ((overL s).getD j 0)) with q3 | q3 | q3
        · exact absurd q3 hle2
        · exact q3
        · exact absurd q3 (own.2 (by omega))
theorem bytesLess_is : ∀ (x y : List UInt8), Op.bytesLess x y = decide (x < y)
  | [], [] => by simp [Op.bytesLess]
  | a :: x, [] => by simp [Op.bytesLess]
  | [], b :: y => by simp [Op.bytesLess]
  | a :: x, b :: y => by
    rw [Op.bytesLess, bytesLess_is x y]
    by_cases h1 : a < b
    · simp [h1, List.cons_lt_cons_iff]
    · by_cases h2 : a = b
      · subst h2; simp [List.cons_lt_cons_iff]
      · simp [h1, h2, List.cons_lt_cons_iff]
/-- the text that a list of bytes is -/
def txt (l : List UInt8) : ByteArray := ⟨l.toArray⟩
theorem txt_size (l : List UInt8) : (txt l).size = l.length := List.size_toArray
theorem txt_list (l : List UInt8) : (txt l).toList = l := by rw [ByteArray.toList_eq]; rfl
theorem txt_data (l : List UInt8) : (txt l).data.toList = l := rfl
theorem extract_txt (t : ByteArray) (a m : Nat) : t.extract a (a + m) = txt (piece t.data.toList a m) := by
  rw [← bytes_back (t.extract a (a + m)), extract_list, show a + m - a = m by omega]; rfl
where bytes_back (t : ByteArray) : (⟨t.data.toList.toArray⟩ : ByteArray) = t := by rw [Array.toArray_toList]
theorem refrep_l1 (t : ByteArray) (ht : t.size ≤ 4096) (i : Nat) (hi : i < t.size) (r : ByteArray × Int × Int)
    (hgo : ∀ L, Best t.data.toList (i + 1) 0 L → Ev (fun K => silversideref07_Repeat.l0 K t (txt L) ((i + 1 : Nat) : Int)) r) :
    ∀ (d k : Nat) (L : List UInt8), k + d = i → Best t.data.toList i k L → Ev (fun K => silversideref07_Repeat.l1 K t (txt L) (i : Int) (k : Int)) r := by
  have hl := data_length t
  intro d
  induction d with
  | zero =>
    intro k L hk hL
    obtain rfl : k = i := by omega
    refine Ev.step (fun K => by rw [silversideref07_Repeat.l1, if_neg (by omega), w64 (by omega) (by omega)]) ?_
    exact hgo L hL.row
  | succ d ih =>
    intro k L hk hL
    have hc := common_ev t t (by omega) (by omega) i k (by omega) (by omega)
    rw [cpl_at t hi (by omega) (by omega)] at hc
    have hn := ih (k + 1) _ (by omega) (hL.next (by omega) (by omega))
    have hin := ((lcp_is t.data.toList i k (by omega) (by omega) (by omega)).inside (by omega) (by omega) (by omega)).1
    refine Ev.step (fun K => by rw [silversideref07_Repeat.l1, if_pos (by omega)]) ?_
    refine Ev.bind hc ?_
    generalize lcp t.data.toList i k = m at *
    have e1 : wrap64 ((i : Int) + (m : Int)) = ((i + m : Nat) : Int) := by rw [w64 (by omega) (by omega)]; omega
    rw [e1, txt_size, w64 (x := (k : Int) + 1) (by omega) (by omega), Int.toNat_natCast, Int.toNat_natCast, extract_txt, txt_list, txt_list, bytesLess_is]
    by_cases c1 : L.length < m
    · rw [if_pos c1] at hn
      exact ev_pos (by omega) (ev_pos (by omega) (ev_pos (by omega) (ev_pos (by omega) hn)))
    · rw [if_neg c1] at hn
      refine ev_neg (by omega) ?_
      by_cases c2 : m = L.length
      · refine ev_pos (by omega) (ev_pos (by omega) (ev_pos (by omega) (ev_pos (by omega) ?_)))
        by_cases c3 : piece t.data.toList i m < L
        · rw [if_pos ⟨c2, c3⟩] at hn
          exact ev_pos (by rw [decide_eq_true_eq]; exact c3) hn
        · rw [if_neg (fun q => c3 q.2)] at hn
          exact ev_neg (by rw [decide_eq_true_eq]; exact c3) hn
      · rw [if_neg (fun q => c2 q.1)] at hn
        exact ev_neg (by omega) hn
theorem refrep_l0 (t : ByteArray) (ht : t.size ≤ 4096) : ∀ (d i : Nat) (L : List UInt8), i + d = t.size → Best t.data.toList i 0 L → Ev (fun K => silversideref07_Repeat.l0 K t (txt L) (i : Int)) (repeatA t) := by
  have hl := data_length t
  intro d
  induction d with
  | zero =>
    intro i L hi hL
    obtain rfl : i = t.size := by omega
    have hin := best_in t t.size (Nat.le_refl _)
    have hR : repeatA t = if (bestOf (sufOrd t.data.toList) (overL t.data.toList) t.size).1 = 0 then ((⟨#[]⟩ : ByteArray), 0, 6) else (t.extract (bestOf (sufOrd t.data.toList) (overL t.data.toList) t.size).2 ((bestOf (sufOrd t.data.toList) (overL t.data.toList) t.size).2 + (bestOf (sufOrd t.data.toList) (overL t.data.toList) t.size).1), (upto t.data.toList (t.extract (bestOf (sufOrd t.data.toList) (overL t.data.toList) t.size).2 ((bestOf (sufOrd t.data.toList) (overL t.data.toList) t.size).2 + (bestOf (sufOrd t.data.toList) (overL t.data.toList) t.size).1)).data.toList : Int) - (below t.data.toList (t.extract (bestOf (sufOrd t.data.toList) (overL t.data.toList) t.size).2 ((bestOf (sufOrd t.data.toList) (overL t.data.toList) t.size).2 + (bestOf (sufOrd t.data.toList) (overL t.data.toList) t.size).1)).data.toList : Int), 0) := rfl
    rw [← hl] at hL
    have hd := hL.done
    rw [hl] at hd
    rw [hR]
    generalize bestOf (sufOrd t.data.toList) (overL t.data.toList) t.size = b at *
    rw [extract_txt, ← hd, txt_data, upto_below]
    have hLl : L.length = b.1 := by rw [hd]; exact begin_len _ _ _ (by omega)
    refine Ev.step (fun K => by rw [silversideref07_Repeat.l0, if_neg (by omega)]) ?_
    rw [txt_list]
    by_cases h0 : b.1 = 0
    · rw [if_pos h0]
      exact ev_pos (List.eq_nil_of_length_eq_zero (by omega)) (Ev.now _)
    · rw [if_neg h0]
      refine ev_neg (fun e => h0 (by rw [e] at hLl; simpa using hLl.symm)) (Ev.bind (reffind_ev t (txt L) (by omega) (by rw [txt_size]; omega)) ?_)
      rw [txt_data, nI_length, occL_len, show ((below t.data.toList L + occN t.data.toList L : Nat) : Int) - (below t.data.toList L : Int) = (occN t.data.toList L : Int) by omega]
      exact Ev.now _
  | succ d ih =>
    intro i L hi hL
    refine Ev.step (fun K => by rw [silversideref07_Repeat.l0, if_pos (by omega)]) ?_
    exact refrep_l1 t ht i (by omega) _ (fun L' hL' => ih (i + 1) L' (by omega) hL') i 0 L (by omega) hL
theorem refrep_ev (t : ByteArray) (ht : t.size ≤ 4096) : Ev (fun K => silversideref07_Repeat.f K t) (repeatA t) :=
  refrep_l0 t ht t.size 0 [] (by omega) ⟨fun a b hm => by unfold MetP at hm; omega, .inl rfl⟩
/-- how many of a list stand again behind -/
def dup {κ : Type} [DecidableEq κ] : List κ → Nat
  | [] => 0
  | x :: l => (if x ∈ l then 1 else 0) + dup l
theorem dup_perm {κ : Type} [DecidableEq κ] {l l' : List κ} (h : l.Perm l') : dup l = dup l' := by
  induction h with
  | nil => rfl
  | cons x h ih => unfold dup; rw [ih]; simp only [h.mem_iff]
  | swap x y l =>
    unfold dup dup
    by_cases e : x = y
    · subst e; rfl
    · have e' : ¬ y = x := fun q => e q.symm
      simp only [List.mem_cons, e, e', false_or]; omega
  | trans _ _ h1 h2 => exact h1.trans h2
/-- how many have one before that is like them -/
theorem dup_count {κ : Type} [DecidableEq κ] (g : Nat → κ) : ∀ n, (List.range n).countP (fun a => decide (∃ q, q < a ∧ g q = g a)) = dup ((List.range n).map g).reverse
  | 0 => rfl
  | n + 1 => by
    rw [List.range_succ, List.countP_append, dup_count g n, List.map_append, List.reverse_append]
    show _ = (if g n ∈ ((List.range n).map g).reverse then 1 else 0) + dup ((List.range n).map g).reverse
    rw [Nat.add_comm]
    congr 1
    have : g n ∈ ((List.range n).map g).reverse ↔ ∃ q, q < n ∧ g q = g n := by
      rw [List.mem_reverse, List.mem_map]
      constructor
      · rintro ⟨q, hq, e⟩; exact ⟨q, List.mem_range.1 hq, e⟩
      · rintro ⟨q, hq, e⟩; exact ⟨q, List.mem_range.2 hq, e⟩
    by_cases c : ∃ q, q < n ∧ g q = g n
    · rw [if_pos (this.2 c)]; simp [c]
    · rw [if_neg (fun q => c (this.1 q))]; simp [c]
/-- a sum, and the same sum layer by layer -/
def sumF (f : Nat → Nat) : Nat → Nat
  | 0 => 0
  | k + 1 => sumF f k + f k
theorem sumF_congr {f g : Nat → Nat} : ∀ n, (∀ i, i < n → f i = g i) → sumF f n = sumF g n
  | 0, _ => rfl
  | n + 1, h => by unfold sumF; rw [sumF_congr n (fun i hi => h i (by omega)), h n (by omega)]
theorem sumF_add (f g : Nat → Nat) : ∀ n, sumF (fun i => f i + g i) n = sumF f n + sumF g n
  | 0 => rfl
  | n + 1 => by unfold sumF; rw [sumF_add f g n]; omega
theorem sumF_ones (x : Nat) : ∀ N, x ≤ N → sumF (fun L => if L < x then 1 else 0) N = x
  | 0, h => by unfold sumF; omega
  | N + 1, h => by
    unfold sumF
    by_cases e : x = N + 1
    · subst e
      rw [if_pos (by omega), sumF_congr (g := fun L => if L < N then 1 else 0) N (fun i hi => by rw [if_pos (by omega), if_pos hi]), sumF_ones N N (Nat.le_refl _)]
    · rw [if_neg (by omega), sumF_ones x N (by omega), Nat.add_zero]
theorem layers (f : Nat → Nat) (N : Nat) : ∀ n, (∀ i, i < n → f i ≤ N) → sumF f n = sumF (fun L => (List.range n).countP fun a => decide (L < f a)) N
  | 0, _ => by
    have : ∀ N, sumF (fun L => (List.range 0).countP fun a => decide (L < f a)) N = 0 := by
      intro N
      induction N with
      | zero => rfl
      | succ N ih => unfold sumF; rw [ih]; rfl
    rw [this]; rfl
  | n + 1, h => by
    have e : sumF (fun L => (List.range (n + 1)).countP fun a => decide (L < f a)) N = sumF (fun L => ((List.range n).countP fun a => decide (L < f a)) + (if L < f n then 1 else 0)) N :=
      sumF_congr N fun L _ => by
        rw [List.range_succ, List.countP_append]
        congr 1
        by_cases c : L < f n
        · rw [if_pos c]; simp [c]
        · rw [if_neg c]; simp [c]
    rw [e, sumF_add, ← layers f N n (fun i hi => h i (by omega)), sumF_ones (f n) N (h n (by omega))]
    rfl
/-- the most that a place shares with an earlier one -/
def mxTo (s : List UInt8) (i : Nat) : Nat → Nat
  | 0 => 0
  | k + 1 => max (mxTo s i k) (lcp s i k)
theorem mxTo_lt (s : List UInt8) (i : Nat) (L : Nat) : ∀ k, L < mxTo s i k ↔ ∃ b, b < k ∧ L < lcp s i b
  | 0 => by simp [mxTo]
  | k + 1 => by
    have := mxTo_lt s i L k
    unfold mxTo
    constructor
    · intro h
      by_cases c : L < mxTo s i k
      · obtain ⟨b, hb, q⟩ := this.1 c; exact ⟨b, by omega, q⟩
      · exact ⟨k, by omega, by omega⟩
    · rintro ⟨b, hb, q⟩
      by_cases e : b = k
      · subst e; omega
      · have := this.2 ⟨b, by omega, q⟩; omega
theorem mxTo_in (s : List UInt8) {i : Nat} (hi : i < s.length) : ∀ k, k ≤ i → i + mxTo s i k ≤ s.length
  | 0, _ => by unfold mxTo; omega
  | k + 1, hk => by
    have := mxTo_in s hi k (by omega)
    have := ((lcp_is s i k (by omega) (by omega) (by omega)).inside (by omega) (by omega) (by omega)).1
    unfold mxTo; omega
theorem key_eq (s : List UInt8) {a b L : Nat} (ha : a < s.length) (hb : b < s.length) (h : a ≠ b) : beginning s (L + 1) b = beginning s (L + 1) a ↔ L < lcp s a b := by
  have hl := lcp_is s a b (by omega) (by omega) h
  constructor
  · intro e
    apply Decidable.byContradiction
    intro q
    have h1 := (eq_iff_ch _ _).1 e (lcp s a b)
    unfold beginning at h1
    rw [ch_begin, ch_begin, if_pos (by omega), if_pos (by omega)] at h1
    exact hl.diff h1.symm
  · intro q
    refine (eq_iff_ch _ _).2 fun t => ?_
    unfold beginning
    rw [ch_begin, ch_begin]
    split
    · exact (hl.same t (by omega)).symm
    · rfl
theorem countP_congr' {P Q : Nat → Bool} {n : Nat} (h : ∀ a, a < n → (P a = true ↔ Q a = true)) : (List.range n).countP P = (List.range n).countP Q := by
  refine List.countP_congr fun a ha => h a (List.mem_range.1 ha)
theorem sums_same (s : List UInt8) : sumF (fun i => mxTo s i i) s.length = sumF (fun k => (overL s).getD k 0) s.length := by
  rw [layers (fun i => mxTo s i i) s.length s.length (fun i hi => by have := mxTo_in s hi i (Nat.le_refl _); show mxTo s i i ≤ _; omega)]
  rw [layers (fun k => (overL s).getD k 0) s.length s.length (fun k hk => by have := over_in s k hk; show (overL s).getD k 0 ≤ _; omega)]
  refine sumF_congr _ fun L _ => ?_
  have e1 : (List.range s.length).countP (fun a => decide (L < mxTo s a a)) = (List.range s.length).countP (fun a => decide (∃ q, q < a ∧ beginning s (L + 1) q = beginning s (L + 1) a)) := by
    refine countP_congr' fun a ha => ?_
    rw [decide_eq_true_eq, decide_eq_true_eq, mxTo_lt]
    constructor
    · rintro ⟨b, hb, q⟩; exact ⟨b, hb, (key_eq s ha (by omega) (by omega)).2 q⟩
    · rintro ⟨b, hb, q⟩; exact ⟨b, hb, (key_eq s ha (by omega) (by omega)).1 q⟩
  have e2 : (List.range s.length).countP (fun k => decide (L < (overL s).getD k 0)) = (List.range s.length).countP (fun k => decide (∃ q, q < k ∧ beginning s (L + 1) ((sufOrd s).getD q 0) = beginning s (L + 1) ((sufOrd s).getD k 0))) := by
    refine countP_congr' fun k hk => ?_
    rw [decide_eq_true_eq, decide_eq_true_eq]
    have lk := ord_lt s k hk
    have ne : ∀ q, q < k → (sufOrd s).getD k 0 ≠ (sufOrd s).getD q 0 := fun q hq e => by have := ord_inj s hk (by omega) e; omega
    constructor
    · intro h
      have h0 : k ≠ 0 := fun e => by rw [e, overL_at s 0 (by omega), if_pos rfl] at h; omega
      have lq := ord_lt s (k - 1) (by omega)
      refine ⟨k - 1, by omega, (key_eq s lk lq (ne _ (by omega))).2 ?_⟩
      rw [overL_at s k hk, if_neg h0] at h
      rw [lcp_symm s _ _ (by omega) (by omega) (ne _ (by omega))]
      exact h
    · rintro ⟨q, hq, e⟩
      have lq := ord_lt s q (by omega)
      have h1 := (key_eq s lk lq (ne _ hq)).1 e
      rw [lcp_symm s _ _ (by omega) (by omega) (ne _ hq)] at h1
      have := lcp_up s hq hk
      omega
  rw [e1, e2, dup_count (fun q => beginning s (L + 1) q), dup_count (fun q => beginning s (L + 1) ((sufOrd s).getD q 0))]
  refine dup_perm ?_
  refine (List.reverse_perm _).trans (List.Perm.trans ?_ (List.reverse_perm _).symm)
  have e3 : (List.range s.length).map (fun q => beginning s (L + 1) ((sufOrd s).getD q 0)) = (sufOrd s).map (fun a => beginning s (L + 1) a) := by
    refine List.ext_getElem (by simp [sufOrd_length]) fun i h1 h2 => ?_
    simp only [List.length_map, List.length_range] at h1
    simp [List.getElem?_eq_getElem (show i < (sufOrd s).length by rw [sufOrd_length]; exact h1)]
  rw [e3]
  exact ((sufOrd_isOrd s).perm.map _).symm
theorem sumTo_F (s : List UInt8) : ∀ k, sumTo (overL s) k = sumF (fun k => (overL s).getD k 0) k
  | 0 => rfl
  | k + 1 => by unfold sumTo sumF; rw [sumTo_F s k]
/-- the reference's count -/
def refSum (t : ByteArray) (i : Nat) : Int := sumF (fun a => t.size - a - mxTo t.data.toList a a) i
theorem refdis_l1 (t : ByteArray) (ht : t.size ≤ 4096) (i : Nat) (hi : i < t.size) (x : Nat) (hx : x ≤ 16777216) (r : Int)
    (hgo : Ev (fun K => silversideref07_Distinct.l0 K t ((x + (t.size - i - mxTo t.data.toList i i) : Nat) : Int) ((i + 1 : Nat) : Int)) r) :
    ∀ (d k : Nat), k + d = i → Ev (fun K => silversideref07_Distinct.l1 K t (x : Int) (i : Int) (mxTo t.data.toList i k : Int) (k : Int)) r := by
  have hl := data_length t
  intro d
  induction d with
  | zero =>
    intro k hk
    obtain rfl : k = i := by omega
    have hin := mxTo_in t.data.toList (i := k) (by omega) k (Nat.le_refl _)
    refine Ev.step (fun K => by rw [silversideref07_Distinct.l1, if_neg (by omega), w64 (x := (x : Int) + (t.size : Int)) (by omega) (by omega), w64 (x := (x : Int) + (t.size : Int) - (k : Int)) (by omega) (by omega), w64 (x := (k : Int) + 1) (by omega) (by omega), w64 (by omega) (by omega)]) ?_
    rw [show (x : Int) + (t.size : Int) - (k : Int) - (mxTo t.data.toList k k : Int) = ((x + (t.size - k - mxTo t.data.toList k k) : Nat) : Int) by omega]
    exact hgo
  | succ d ih =>
    intro k hk
    have hc := common_ev t t (by omega) (by omega) i k (by omega) (by omega)
    rw [cpl_at t hi (by omega) (by omega)] at hc
    refine Ev.step (fun K => by rw [silversideref07_Distinct.l1, if_pos (by omega)]) (Ev.bind hc ?_)
    rw [mx_nat, w64 (by omega) (by omega)]
    exact ih (k + 1) (by omega)
theorem refdis_l0 (t : ByteArray) (ht : t.size ≤ 4096) : ∀ (d i : Nat), i + d = t.size → Ev (fun K => silversideref07_Distinct.l0 K t ((sumF (fun a => t.size - a - mxTo t.data.toList a a) i : Nat) : Int) (i : Int)) ((sumF (fun a => t.size - a - mxTo t.data.toList a a) t.size : Nat) : Int) := by
  have bound : ∀ i, i ≤ t.size → sumF (fun a => t.size - a - mxTo t.data.toList a a) i ≤ i * 4096 := by
    intro i
    induction i with
    | zero => intro _; exact Nat.le_refl _
    | succ i ih => intro hi; have := ih (by omega); unfold sumF; rw [Nat.succ_mul]; omega
  intro d
  induction d with
  | zero =>
    intro i hi
    obtain rfl : i = t.size := by omega
    exact Ev.step (fun K => by rw [silversideref07_Distinct.l0, if_neg (by omega)]) (Ev.now _)
  | succ d ih =>
    intro i hi
    have hb := bound i (by omega)
    refine Ev.step (fun K => by rw [silversideref07_Distinct.l0, if_pos (by omega)]) ?_
    exact refdis_l1 t ht i (by omega) (sumF (fun a => t.size - a - mxTo t.data.toList a a) i) (by omega) _ (ih (i + 1) (by omega)) i 0 (by omega)
theorem tri_sum (n : Nat) : ∀ i, i ≤ n → 2 * sumF (fun a => n - a) i = i * (2 * n - i + 1)
  | 0, _ => by simp [sumF]
  | i + 1, h => by
    have := tri_sum n i (by omega)
    unfold sumF
    rw [Nat.mul_add, this]
    obtain ⟨d, rfl⟩ : ∃ d, n = i + 1 + d := ⟨n - (i + 1), by omega⟩
    rw [show 2 * (i + 1 + d) - i + 1 = i + 3 + 2 * d by omega, show 2 * (i + 1 + d) - (i + 1) + 1 = i + 2 + 2 * d by omega, show i + 1 + d - i = 1 + d by omega, show (i + 1) * (i + 2 + 2 * d) = i * (i + 2 + 2 * d) + (i + 2 + 2 * d) from Nat.succ_mul _ _]
    have : i * (i + 3 + 2 * d) = i * (i + 2 + 2 * d) + i := by rw [show i + 3 + 2 * d = (i + 2 + 2 * d) + 1 by omega, Nat.mul_succ]
    omega
theorem refdis_ev (t : ByteArray) (ht : t.size ≤ 4096) : Ev (fun K => silversideref07_Distinct.f K t) (distinctA t) := by
  have hl := data_length t
  have h := refdis_l0 t ht t.size 0 (by omega)
  have e : ((sumF (fun a => t.size - a - mxTo t.data.toList a a) t.size : Nat) : Int) = distinctA t := by
    unfold distinctA
    have h1 : sumF (fun a => (t.size - a - mxTo t.data.toList a a) + mxTo t.data.toList a a) t.size = sumF (fun a => t.size - a) t.size :=
      sumF_congr _ fun a ha => by have := mxTo_in t.data.toList (i := a) (by omega) a (Nat.le_refl _); omega
    rw [sumF_add] at h1
    have h2 := tri_sum t.size t.size (Nat.le_refl _)
    have h3 := sums_same t.data.toList
    rw [hl] at h3
    rw [h3] at h1
    have h4 := sumTo_F t.data.toList t.size
    rw [show 2 * t.size - t.size + 1 = t.size + 1 by omega] at h2
    have h5 : t.size * (t.size + 1) / 2 = sumF (fun a => t.size - a) t.size := by omega
    rw [h5, ← h1, h4]
    omega
  rw [← e]
  exact h
theorem take_eq_cpl : ∀ (L : Nat) (x y : List UInt8), L ≤ x.length → (y.take L = x.take L ↔ L ≤ cpl x y)
  | 0, x, y, _ => by simp
  | L + 1, [], y, h => by simp at h
  | L + 1, a :: x, [], h => by simp [cpl]
  | L + 1, a :: x, b :: y, h => by
    have ih := take_eq_cpl L x y (by simpa using h)
    rw [List.take_succ_cons, List.take_succ_cons, cpl, List.cons.injEq]
    by_cases e : a = b
    · rw [if_pos e]
      constructor
      · rintro ⟨_, h2⟩; have := ih.1 h2; omega
      · intro h2; exact ⟨e.symm, ih.2 (by omega)⟩
    · rw [if_neg e]
      constructor
      · rintro ⟨h1, _⟩; exact absurd h1.symm e
      · intro h2; omega
theorem cpl_comm : ∀ x y : List UInt8, cpl x y = cpl y x
  | [], [] => rfl
  | [], b :: y => rfl
  | a :: x, [] => rfl
  | a :: x, b :: y => by
    rw [cpl, cpl, cpl_comm x y]
    by_cases e : a = b
    · rw [if_pos e, if_pos e.symm]
    · rw [if_neg e, if_neg (fun h => e h.symm)]
/-- how long two texts run alike from two places on -/
def KK (s r : List UInt8) (i k : Nat) : Nat := cpl (s.drop i) (r.drop k)
theorem KK_comm (s r : List UInt8) (i k : Nat) : KK s r i k = KK r s k i := cpl_comm _ _
theorem KK_le (s r : List UInt8) (i k : Nat) : KK s r i k ≤ s.length - i ∧ KK s r i k ≤ r.length - k := by
  have := cpl_le (s.drop i) (r.drop k)
  rw [List.length_drop, List.length_drop] at this
  exact this
theorem beg_KK (s r : List UInt8) {i k L : Nat} (h : i + L ≤ s.length) : beginning r L k = piece s i L ↔ L ≤ KK s r i k := by
  unfold beginning piece KK
  exact take_eq_cpl L _ _ (by rw [List.length_drop]; omega)
theorem piece_length (s : List UInt8) {i L : Nat} (h : i + L ≤ s.length) : (piece s i L).length = L := begin_len s i L h
theorem occ_pos (s r : List UInt8) {i L : Nat} (h : i + L ≤ s.length) : 0 < occN r (piece s i L) ↔ ∃ k, k < r.length ∧ L ≤ KK s r i k := by
  unfold occN
  rw [piece_length s h]
  constructor
  · intro h1
    apply Decidable.byContradiction
    intro hn
    have := cnt0 (fun k => decide (beginning r L k = piece s i L)) r.length (fun k hk => by
      rw [decide_eq_false_iff_not, beg_KK s r h]
      exact fun h2 => hn ⟨k, hk, h2⟩)
    omega
  · rintro ⟨k, hk, h2⟩
    exact cnt_pos (fun k => decide (beginning r L k = piece s i L)) r.length ⟨k, hk, by rw [decide_eq_true_eq, beg_KK s r h]; exact h2⟩
theorem filter_head (P : Nat → Bool) : ∀ (n j : Nat), j < n → P j = true → (∀ i, i < j → P i = false) → ∃ t, (List.range n).filter P = j :: t
  | 0, j, h, _, _ => by omega
  | n + 1, j, h, hj, hlt => by
    rw [List.range_succ, List.filter_append]
    by_cases e : j = n
    · subst e
      have h0 : (List.range j).filter P = [] := by
        rw [List.filter_eq_nil_iff]
        intro i hi
        rw [List.mem_range] at hi
        rw [hlt i hi]; decide
      rw [h0]
      exact ⟨[], by simp [hj]⟩
    · obtain ⟨t, ht⟩ := filter_head P n j (by omega) hj hlt
      rw [ht]
      exact ⟨_, rfl⟩
/-- the first place at which a pattern occurs -/
theorem occL_head (s p : List UInt8) {j : Nat} (hj : j < s.length) (h : beginning s p.length j = p) (hlt : ∀ i, i < j → ¬ beginning s p.length i = p) : ∃ t, occL s p s.length = j :: t :=
  filter_head _ s.length j hj (by rw [decide_eq_true_eq]; exact h) (fun i hi => by rw [decide_eq_false_iff_not]; exact hlt i hi)
/-- a least one -/
theorem least_of (P : Nat → Prop) [DecidablePred P] (n : Nat) : ∀ k, k < n → P k → ∃ j, j < n ∧ P j ∧ ∀ i, i < j → ¬ P i := by
  intro k
  induction k using Nat.strongRecOn with
  | _ k ih =>
    intro hk hp
    by_cases h : ∃ i, i < k ∧ P i
    · obtain ⟨i, hi, hpi⟩ := h
      exact ih i hi (by omega) hpi
    · exact ⟨k, hk, hp, fun i hi hpi => h ⟨i, hi, hpi⟩⟩
/-- what the program knows within row i -/
structure InvP (s r : List UInt8) (i m f : Nat) : Prop where
  le : ∀ x, x < i → ∀ k, k < r.length → KK s r x k ≤ m
  hit : (m = 0 ∧ f = 0) ∨ (0 < m ∧ f ≤ i ∧ f < s.length ∧ (∃ k, k < r.length ∧ m ≤ KK s r f k) ∧ ∀ x, x < f → ∀ k, k < r.length → KK s r x k < m)
theorem InvP.start (s r : List UInt8) : InvP s r 0 0 0 := ⟨fun x h => by omega, Or.inl ⟨rfl, rfl⟩⟩
theorem InvP.longer {s r : List UInt8} {i m f k : Nat} (h : InvP s r i m f) (hi : i < s.length) (hk : k < r.length) (hm : m + 1 ≤ KK s r i k) : InvP s r i (m + 1) i where
  le := fun x hx k hk => Nat.le_succ_of_le (h.le x hx k hk)
  hit := Or.inr ⟨by omega, Nat.le_refl i, hi, ⟨k, hk, hm⟩, fun x hx k hk => Nat.lt_succ_of_le (h.le x hx k hk)⟩
theorem InvP.next {s r : List UInt8} {i m f : Nat} (h : InvP s r i m f) (hn : ∀ k, k < r.length → ¬ m + 1 ≤ KK s r i k) : InvP s r (i + 1) m f where
  le := fun x hx k hk => by
    rcases Nat.lt_or_ge x i with h1 | h1
    · exact h.le x h1 k hk
    · obtain rfl : x = i := by omega
      have := hn k hk; omega
  hit := by
    rcases h.hit with h1 | ⟨h1, h2, h3⟩
    · exact Or.inl h1
    · exact Or.inr ⟨h1, by omega, h3⟩
/-- what the reference knows at row i, place k -/
structure InvR (s r : List UInt8) (i k n x y : Nat) : Prop where
  le : ∀ x', x' < i → ∀ k', k' < r.length → KK s r x' k' ≤ n
  row : ∀ k', k' < k → KK s r i k' ≤ n
  hit : (n = 0 ∧ x = 0 ∧ y = 0) ∨ (0 < n ∧ x ≤ i ∧ x < s.length ∧ y < r.length ∧ KK s r x y = n ∧ (∀ x', x' < x → ∀ k', k' < r.length → KK s r x' k' < n) ∧ ∀ k', k' < y → KK s r x k' < n)
theorem InvR.start (s r : List UInt8) : InvR s r 0 0 0 0 0 := ⟨fun x h => by omega, fun k h => by omega, Or.inl ⟨rfl, rfl, rfl⟩⟩
theorem InvR.more {s r : List UInt8} {i k n x y : Nat} (h : InvR s r i k n x y) (hi : i < s.length) (hk : k < r.length) (hc : n < KK s r i k) : InvR s r i (k + 1) (KK s r i k) i k where
  le := fun x' hx k' hk' => by have := h.le x' hx k' hk'; omega
  row := fun k' hk' => by
    rcases Nat.lt_or_ge k' k with h1 | h1
    · have := h.row k' h1; omega
    · obtain rfl : k' = k := by omega
      exact Nat.le_refl _
  hit := Or.inr ⟨by omega, Nat.le_refl i, hi, hk, rfl, fun x' hx k' hk' => by have := h.le x' hx k' hk'; omega, fun k' hk' => by have := h.row k' hk'; omega⟩
theorem InvR.less {s r : List UInt8} {i k n x y : Nat} (h : InvR s r i k n x y) (hc : ¬ n < KK s r i k) : InvR s r i (k + 1) n x y where
  le := h.le
  row := fun k' hk' => by
    rcases Nat.lt_or_ge k' k with h1 | h1
    · exact h.row k' h1
    · obtain rfl : k' = k := by omega
      omega
  hit := h.hit
theorem InvR.next {s r : List UInt8} {i n x y : Nat} (h : InvR s r i r.length n x y) : InvR s r (i + 1) 0 n x y where
  le := fun x' hx k' hk' => by
    rcases Nat.lt_or_ge x' i with h1 | h1
    · exact h.le x' h1 k' hk'
    · obtain rfl : x' = i := by omega
      exact h.row k' hk'
  row := fun k' h => by omega
  hit := by
    rcases h.hit with h1 | ⟨h1, h2, h3⟩
    · exact Or.inl h1
    · exact Or.inr ⟨h1, by omega, h3⟩
/-- both end alike -/
theorem both_same {s r : List UInt8} {m f n x y : Nat} (h : InvP s r s.length m f) (g : InvR s r s.length 0 n x y) : m = n ∧ f = x := by
  rcases h.hit with ⟨rfl, rfl⟩ | ⟨h1, h2, h3, ⟨k, hk, h4⟩, h5⟩
  · rcases g.hit with ⟨rfl, rfl, rfl⟩ | ⟨g1, g2, g3, g4, g5, g6⟩
    · exact ⟨rfl, rfl⟩
    · have := h.le x g3 y g4; omega
  · rcases g.hit with ⟨rfl, rfl, rfl⟩ | ⟨g1, g2, g3, g4, g5, g6, g7⟩
    · have := g.le f h3 k hk; omega
    · have a1 := h.le x g3 y g4
      have a2 := g.le f h3 k hk
      refine ⟨by omega, ?_⟩
      rcases Nat.lt_trichotomy f x with c | c | c
      · have := g6 f c k hk; omega
      · exact c
      · have := h5 x c y g4; omega
/-- the longest, where it is found: at its first places -/
theorem com_places {s r : List UInt8} {m f : Nat} (h : InvP s r s.length m f) (hm : 0 < m) :
    f + m ≤ s.length ∧ (∃ t, occL s (piece s f m) s.length = f :: t) ∧ ∃ k, k < r.length ∧ KK s r f k = m ∧ (∀ k', k' < k → KK s r f k' < m) ∧ ∃ t, occL r (piece s f m) r.length = k :: t := by
  rcases h.hit with ⟨h1, _⟩ | ⟨h1, h2, h3, ⟨k, hk, h4⟩, h5⟩
  · omega
  · have hle := KK_le s r f k
    have hin : f + m ≤ s.length := by omega
    have hl := piece_length s hin
    refine ⟨hin, ?_, ?_⟩
    · refine occL_head s _ h3 (by rw [hl]; rfl) (fun i hi e => ?_)
      rw [hl] at e
      have e2 : beginning r m k = piece s f m := (beg_KK s r hin).2 h4
      have hli : i + m ≤ s.length := by omega
      have : m ≤ KK s r i k := by
        rw [← beg_KK s r hli, e2, ← e]; rfl
      have := h5 i hi k hk
      omega
    · have hex : ∃ k, k < r.length ∧ m ≤ KK s r f k ∧ ∀ k', k' < k → ¬ m ≤ KK s r f k' := by
        exact least_of (fun k => m ≤ KK s r f k) r.length k hk h4
      obtain ⟨k0, hk0, h6, h7⟩ := hex
      have h8 := h.le f h3 k0 hk0
      refine ⟨k0, hk0, by omega, fun k' hk' => by have := h7 k' hk'; omega, occL_head r _ hk0 (by rw [hl]; exact (beg_KK s r hin).2 h6) (fun i hi e => ?_)⟩
      rw [hl] at e
      exact h7 i hi ((beg_KK s r hin).1 e)
end Go.Proofs.Ytppelnlocfcgfaa.P
namespace Go.Proofs.Ytppelnlocfcgfaa.P
open Go.RowKit Go.Proofs.YtppelnlocfcgfaaW.PrintWords Go.Proofs.YtppelnlocfcgfaaW.PrintLast
/-- From here on more is known of every world. -/
theorem strong_ {P : Program} {ops : Array Oper} {Q : Exit → Act → World → Prop} {md : Region.Mode} {S : World → Prop} (S' : World → Prop) (hSS : ∀ w, S' w → S w) {fuel : Nat} {l : Array Bool} {a : Act} {w : World} (hw : S' w) (h : wpAnyLast P md ops Q S' [] fuel l a w) :
    wpAnyLast P md ops Q S [] fuel l a w := more_ hSS fuel l a w hw h
end Go.Proofs.Ytppelnlocfcgfaa.P
namespace Go.Proofs.Ytppelnlocfcgfaa.P
open Go.RowKit Go.Proofs.YtppelnlocfcgfaaW.PrintWords Go.Proofs.YtppelnlocfcgfaaW.PrintLast Go.Proofs.YtppelnlocfcgfaaW.PrintMore
attribute [local go_sem] max2_int min2_int max_two min_two max_three min_three max_four min_four   -- for this text's walks alone

/-! ### find_Common: function 39 -/
mutual
def find_Common.j0 : Nat → ByteArray → Bool → ByteArray → List Int → List Int → ByteArray → List Int → List Int → Option (Int × Int × Int × Int)
 | 0, _, _, _, _, _, _, _, _ => none
 | k + 1, x0, x31, x401000, x401001, x401002, x410000, x410001, x410002 => if x31 = true then (some (0, 0, 0, 2)) else (find_Common.l0 k x0 0 0 (x0.size : Int) 0 x401000 x401001 x401002 x410000 x410001 x410002)
def find_Common.l0 : Nat → ByteArray → Int → Int → Int → Int → ByteArray → List Int → List Int → ByteArray → List Int → List Int → Option (Int × Int × Int × Int)
 | 0, _, _, _, _, _, _, _, _, _, _, _ => none
 | k + 1, x0, x12, x13, x33, x34, x401000, x401001, x401002, x410000, x410001, x410002 => if x34 < x33 then (find_Common.l1 k x0 x12 x13 x34 x33 x34 x401000 x401001 x401002 x410000 x410001 x410002) else (if x12 = 0 then (some (0, 0, 0, 0)) else (if 0 ≤ x13 then (if x13 ≤ (wrap64 (x13 + x12)) then (if (wrap64 (x13 + x12)) ≤ (x0.size : Int) then ((find_Index_Find.f x401000 x401001 x401002 (x0.extract (x13 : Int).toNat ((wrap64 (x13 + x12)) : Int).toNat)).bind fun t411 => (if 0 < (t411.length : Int) then ((find_Index_Find.f x410000 x410001 x410002 (x0.extract (x13 : Int).toNat ((wrap64 (x13 + x12)) : Int).toNat)).bind fun t415 => (if 0 < (t415.length : Int) then (some (x12, rd t411 0, rd t415 0, 0)) else (none))) else (none))) else (none)) else (none)) else (none)))
def find_Common.l1 : Nat → ByteArray → Int → Int → Int → Int → Int → ByteArray → List Int → List Int → ByteArray → List Int → List Int → Option (Int × Int × Int × Int)
 | 0, _, _, _, _, _, _, _, _, _, _, _, _ => none
 | k + 1, x0, x12, x13, x14, x33, x34, x401000, x401001, x401002, x410000, x410001, x410002 => if (wrap64 (x14 + x12)) < (x0.size : Int) then (if 0 ≤ x14 then (if x14 ≤ (wrap64 ((wrap64 (x14 + x12)) + 1)) then (if (wrap64 ((wrap64 (x14 + x12)) + 1)) ≤ (x0.size : Int) then ((find_Index_Count.f x410000 x410001 x410002 (x0.extract (x14 : Int).toNat ((wrap64 ((wrap64 (x14 + x12)) + 1)) : Int).toNat)).bind fun t410 => (if t410 > 0 then (find_Common.l1 k x0 (wrap64 (x12 + 1)) x14 x14 x33 x34 x401000 x401001 x401002 x410000 x410001 x410002) else (find_Common.l0 k x0 x12 x13 x33 (wrap64 (x34 + 1)) x401000 x401001 x401002 x410000 x410001 x410002))) else (none)) else (none)) else (none)) else (find_Common.l0 k x0 x12 x13 x33 (wrap64 (x34 + 1)) x401000 x401001 x401002 x410000 x410001 x410002)
end
def find_Common.f (k : Nat) (a0 : ByteArray) (a1 : ByteArray) : Option (Int × Int × Int × Int) := (find_New.f k a0).bind fun bt392 => ((find_New.f k a1).bind fun bt401 => (if bt392.2.2.2 = 0 then (find_Common.j0 k a0 (bt401.2.2.2 != 0) bt392.1 bt392.2.1 bt392.2.2.1 bt401.1 bt401.2.1 bt401.2.2.1) else (find_Common.j0 k a0 true bt392.1 bt392.2.1 bt392.2.2.1 bt401.1 bt401.2.1 bt401.2.2.1)))
theorem find_Common.mono_l : ∀ k, (∀ y0 y1 y2 y3 y4 y5 y6 y7, LeO (find_Common.j0 k y0 y1 y2 y3 y4 y5 y6 y7) (find_Common.j0 (k + 1) y0 y1 y2 y3 y4 y5 y6 y7)) ∧ (∀ y0 y1 y2 y3 y4 y5 y6 y7 y8 y9 y10, LeO (find_Common.l0 k y0 y1 y2 y3 y4 y5 y6 y7 y8 y9 y10) (find_Common.l0 (k + 1) y0 y1 y2 y3 y4 y5 y6 y7 y8 y9 y10)) ∧ (∀ y0 y1 y2 y3 y4 y5 y6 y7 y8 y9 y10 y11, LeO (find_Common.l1 k y0 y1 y2 y3 y4 y5 y6 y7 y8 y9 y10 y11) (find_Common.l1 (k + 1) y0 y1 y2 y3 y4 y5 y6 y7 y8 y9 y10 y11))
 | 0 => ⟨fun _ _ _ _ _ _ _ _ r h => by simp [find_Common.j0] at h, fun _ _ _ _ _ _ _ _ _ _ _ r h => by simp [find_Common.l0] at h, fun _ _ _ _ _ _ _ _ _ _ _ _ r h => by simp [find_Common.l1] at h⟩
 | k + 1 => by
  obtain ⟨ih0, ih1, ih2⟩ := find_Common.mono_l k
  refine ⟨?_, ?_, ?_⟩
  ·intro y0 y1 y2 y3 y4 y5 y6 y7
   unfold find_Common.j0
   repeat' first
   | (with_reducible exact ih0 _ _ _ _ _ _ _ _)
   | (with_reducible exact ih1 _ _ _ _ _ _ _ _ _ _ _)
   | (with_reducible exact ih2 _ _ _ _ _ _ _ _ _ _ _ _)
   | (with_reducible exact find_New.mono _ _)
   | (with_reducible exact LeO.refl _)
   | (with_reducible exact LeO.none _)
   | (with_reducible refine LeO.ite ?_ ?_)
   | (with_reducible refine LeO.bind ?_ (fun _ => ?_))
   | exact ih0 _ _ _ _ _ _ _ _
   | exact ih1 _ _ _ _ _ _ _ _ _ _ _
   | exact ih2 _ _ _ _ _ _ _ _ _ _ _ _
   | exact find_New.mono _ _
   | exact LeO.none _
   | refine LeO.ite ?_ ?_
   | refine LeO.bind ?_ (fun _ => ?_)
  ·intro y0 y1 y2 y3 y4 y5 y6 y7 y8 y9 y10
   unfold find_Common.l0
   repeat' first
   | (with_reducible exact ih0 _ _ _ _ _ _ _ _)
   | (with_reducible exact ih1 _ _ _ _ _ _ _ _ _ _ _)
   | (with_reducible exact ih2 _ _ _ _ _ _ _ _ _ _ _ _)
   | (with_reducible exact find_New.mono _ _)
   | (with_reducible exact LeO.refl _)
   | (with_reducible exact LeO.none _)
   | (with_reducible refine LeO.ite ?_ ?_)
   | (with_reducible refine LeO.bind ?_ (fun _ => ?_))
   | exact ih0 _ _ _ _ _ _ _ _
   | exact ih1 _ _ _ _ _ _ _ _ _ _ _
   | exact ih2 _ _ _ _ _ _ _ _ _ _ _ _
   | exact find_New.mono _ _
   | exact LeO.none _
   | refine LeO.ite ?_ ?_
   | refine LeO.bind ?_ (fun _ => ?_)
  ·intro y0 y1 y2 y3 y4 y5 y6 y7 y8 y9 y10 y11
   unfold find_Common.l1
   repeat' first
   | (with_reducible exact ih0 _ _ _ _ _ _ _ _)
   | (with_reducible exact ih1 _ _ _ _ _ _ _ _ _ _ _)
   | (with_reducible exact ih2 _ _ _ _ _ _ _ _ _ _ _ _)
   | (with_reducible exact find_New.mono _ _)
   | (with_reducible exact LeO.refl _)
   | (with_reducible exact LeO.none _)
   | (with_reducible refine LeO.ite ?_ ?_)
   | (with_reducible refine LeO.bind ?_ (fun _ => ?_))
   | exact ih0 _ _ _ _ _ _ _ _
   | exact ih1 _ _ _ _ _ _ _ _ _ _ _
   | exact ih2 _ _ _ _ _ _ _ _ _ _ _ _
   | exact find_New.mono _ _
   | exact LeO.none _
   | refine LeO.ite ?_ ?_
   | refine LeO.bind ?_ (fun _ => ?_)
theorem find_Common.mono : ∀ a0 a1 k, LeO (find_Common.f k a0 a1) (find_Common.f (k + 1) a0 a1) := by
 intro a0 a1 k
 obtain ⟨ih0, ih1, ih2⟩ := find_Common.mono_l k
 unfold find_Common.f
 repeat' first
   | (with_reducible exact ih0 _ _ _ _ _ _ _ _)
   | (with_reducible exact ih1 _ _ _ _ _ _ _ _ _ _ _)
   | (with_reducible exact ih2 _ _ _ _ _ _ _ _ _ _ _ _)
   | (with_reducible exact find_New.mono _ _)
   | (with_reducible exact LeO.refl _)
   | (with_reducible exact LeO.none _)
   | (with_reducible refine LeO.ite ?_ ?_)
   | (with_reducible refine LeO.bind ?_ (fun _ => ?_))
   | exact ih0 _ _ _ _ _ _ _ _
   | exact ih1 _ _ _ _ _ _ _ _ _ _ _
   | exact ih2 _ _ _ _ _ _ _ _ _ _ _ _
   | exact find_New.mono _ _
   | exact LeO.none _
   | refine LeO.ite ?_ ?_
   | refine LeO.bind ?_ (fun _ => ?_)
def find_Common.T9 : Bool × List (List Nat × List Nat) := (true, [([], []), ([], []), ([0, 1], [0, 1]), ([], []), ([3], [3]), ([2, 4], [2, 4]), ([5], [5]), ([6], [6]), ([6], [6]), ([6], [6]), ([6], [6]), ([6], [6]), ([10, 11, 6], [6, 10, 11]), ([12, 6], [6, 12]), ([8, 9, 13, 6], [6, 8, 9, 13]), ([7, 14, 6, 6], [6, 7, 14]), ([15, 6], [6, 15]), ([6, 16], [6, 16])])
def find_Common.B9 : List Nat := [0, 0, 3, 0, 8, 31, 63, 127, 127, 127, 127, 127, 3199, 7295, 16255, 32767, 65535, 131071]
theorem find_Common.tab9 : rtab .any (opsOf Try.f39 9) = find_Common.T9 := by kernel_rfl
theorem find_Common.bits9 : waitsOk find_Common.T9.2 find_Common.B9 = true := by kernel_rfl
def find_Common.T16 : Bool × List (List Nat × List Nat) := (true, [([], []), ([], []), ([], []), ([1, 2], [1, 2]), ([3], [3]), ([4], [4]), ([], []), ([], []), ([6, 7, 3], [6, 7]), ([8], [8]), ([9], [9]), ([0, 8, 0], [0]), ([5, 11, 0, 1, 2, 3, 4, 5, 11], [5]), ([10, 12, 0, 1, 2, 3, 4, 5, 6, 7, 8, 9, 10, 11, 12], [10]), ([13, 0, 1, 2, 3, 4, 5, 6, 7, 8, 9, 10, 11, 12, 13], [])])
def find_Common.B16 : List Nat := [0, 0, 0, 6, 14, 30, 0, 0, 206, 462, 974, 463, 2559, 8191, 16383]
theorem find_Common.tab16 : rtab .any (opsOf Try.f39 16) = find_Common.T16 := by kernel_rfl
theorem find_Common.bits16 : waitsOk find_Common.T16.2 find_Common.B16 = true := by kernel_rfl
set_option maxHeartbeats 8000000 in
set_option maxRecDepth 100000 in
theorem find_Common.calls (k : Nat) (a0 : ByteArray) (a1 : ByteArray) (r1 : Int) (r2 : Int) (r3 : Int) (r4 : Int) (w : World) (h : find_Common.f k a0 a1 = some (r1, r2, r3, r4)) :
  Calls Try.prog 39 #[.string a0, .string a1] w fun e w' => e = .returned (.tuple #[.int .i64 r1, .int .i64 r2, .int .i64 r3, .int .i64 r4]) ∧ Below w.heap.size w w' := by
 have hu24 := Try.underlying24
 have HB := Aside0.mk (Below.refl w.heap.size w)
 have H : ((find_New.f k a0).bind fun bt392 => ((find_New.f k a1).bind fun bt401 => (if bt392.2.2.2 = 0 then (find_Common.j0 k a0 (bt401.2.2.2 != 0) bt392.1 bt392.2.1 bt392.2.2.1 bt401.1 bt401.2.1 bt401.2.2.1) else (find_Common.j0 k a0 true bt392.1 bt392.2.1 bt392.2.2.1 bt401.1 bt401.2.1 bt401.2.2.1)))) = some (r1, r2, r3, r4) := h
 clear h
 replace H := Option.bind_eq_some_iff.mp H
 obtain ⟨⟨t392, t393, t396, t399⟩, A30, H⟩ := H
 replace H : ((find_New.f k a1).bind fun bt401 => (if t399 = 0 then (find_Common.j0 k a0 (bt401.2.2.2 != 0) t392 t393 t396 bt401.1 bt401.2.1 bt401.2.2.1) else (find_Common.j0 k a0 true t392 t393 t396 bt401.1 bt401.2.1 bt401.2.2.1))) = some (r1, r2, r3, r4) := H
 have A3 := Aside0.mk A30
 clear A30
 replace H := Option.bind_eq_some_iff.mp H
 obtain ⟨⟨t401, t402, t405, t408⟩, A40, H⟩ := H
 replace H : (if t399 = 0 then (find_Common.j0 k a0 (t408 != 0) t392 t393 t396 t401 t402 t405) else (find_Common.j0 k a0 true t392 t393 t396 t401 t402 t405)) = some (r1, r2, r3, r4) := H
 have A4 := Aside0.mk A40
 clear A40
 have HC5 := Aside0.mk H
 clear H
 go_enter Try.func39, Try.ntmps39
 go_upto_region 3 with (first | ((with_reducible refine gate_callee (f := 16) rfl ?_); refine goesL_ (some 18) rfl rfl Try.func16 (by kernel_rfl) rfl #[.string a0] rfl (by (try simp only [List.map_toArray, List.map_cons, List.map_nil]); first | done | rfl | (simp only [List.length_drop, List.length_take]; rfl)) ?_; (with_reducible refine (find_New.calls k a0 t392 t393 t396 t399 _ A3.out).mono ?_); rintro e w6 ⟨v394, v397, rfl, ho0, ho1, hb⟩; refine ⟨_, rfl, ?_⟩; have n0_ := Aside0.mk (Kd.R_lower ho0 (below_size (by repeat (first | (with_reducible first | exact HB.out | apply below_alloc | apply pw_below_drewN | apply below_drew1) | exact HB.out)))); have n1_ := Aside0.mk (Kd.R_lower ho1 (below_size (by repeat (first | (with_reducible first | exact HB.out | apply below_alloc | apply pw_below_drewN | apply below_drew1) | exact HB.out)))); have n2_ := Aside0.mk (below_step (by repeat (first | (with_reducible first | exact HB.out | apply below_alloc | apply pw_below_drewN | apply below_drew1) | exact HB.out)) hb); clear HB; have HO395 := n0_; have HO398 := n1_; have HB := n2_; clear n0_ n1_ n2_; (try clear hb); (try clear hb2); (try clear hk); (try clear hi); (try clear ho0); (try clear ho1)) | ((with_reducible refine gate_dst (N := 8) rfl ?_); refine box_event ?hg (N := 8) ?hd (cs := #[.string (⟨#[]⟩ : ByteArray), .slice none 0 0, .slice none 0 0]) (t := 24) ?hr ?_; (case hd => rfl); (case hg => rfl); (case hr => first | (go_simp; done) | (go_simp; rfl)); intro gb400 hg w7 hbox hb; have n0_ := Aside0.mk (Kd.R_below (by (with_reducible repeat (first | apply Kd.R_alloc | apply Kd.R_drewN | apply Kd.R_drew)); exact HO395.out) hb); have n1_ := Aside0.mk (Kd.R_below (by (with_reducible repeat (first | apply Kd.R_alloc | apply Kd.R_drewN | apply Kd.R_drew)); exact HO398.out) hb); have n2_ := Aside0.mk (below_step (by repeat (first | (with_reducible first | exact HB.out | apply below_alloc | apply pw_below_drewN | apply below_drew1) | exact HB.out)) hb); have n3_ := Aside0.mk (hbox); have n4_ := Aside0.mk ((by rw [hg]; exact (below_size (by repeat (first | (with_reducible first | exact HB.out | apply below_alloc | apply pw_below_drewN | apply below_drew1) | exact HB.out))) : w.heap.size ≤ gb400)); have n5_ := Aside0.mk ((by rw [hg]; exact (below_size (by repeat (first | (with_reducible first | exact HB.out | apply below_alloc | apply pw_below_drewN | apply below_drew1) | exact HB.out))) : w.heap.size ≤ gb400)); clear HO395; clear HO398; clear HB; have HO395 := n0_; have HO398 := n1_; have HB := n2_; have BK400 := n3_; have GW400 := n4_; have GE400 := n5_; clear n0_ n1_ n2_ n3_ n4_ n5_; clear hb hbox hg; have hcz8_0 : w7.cell? ⟨gb400, 0, none⟩ = some (.string (⟨#[]⟩ : ByteArray)) := (blk_cell BK400.out 0).trans rfl; have hcz8_1 : w7.cell? ⟨gb400, 1, none⟩ = some (.slice none 0 0) := (blk_cell BK400.out 1).trans rfl; have hcz8_2 : w7.cell? ⟨gb400, 2, none⟩ = some (.slice none 0 0) := (blk_cell BK400.out 2).trans rfl; have hfz8_0 := blk_frozen BK400.out 0; have hfz8_1 := blk_frozen BK400.out 1; have hfz8_2 := blk_frozen BK400.out 2; obtain ⟨Ao9, co9, eo9⟩ := Kd.R_slice HO395.out; subst eo9; obtain ⟨Ao10, co10, eo10⟩ := Kd.R_slice HO398.out; subst eo10) | ((with_reducible refine gate_callee (f := 16) rfl ?_); refine goesL_ (some 23) rfl rfl Try.func16 (by kernel_rfl) rfl #[.string a1] rfl (by (try simp only [List.map_toArray, List.map_cons, List.map_nil]); first | done | rfl | (simp only [List.length_drop, List.length_take]; rfl)) ?_; (with_reducible refine (find_New.calls k a1 t401 t402 t405 t408 _ A4.out).mono ?_); rintro e w11 ⟨v403, v406, rfl, ho0, ho1, hb⟩; refine ⟨_, rfl, ?_⟩; have n0_ := Aside0.mk (Kd.R_mono (Kd.R_told (Kd.R_told (Kd.R_old (by (with_reducible repeat (first | apply Kd.R_alloc | apply Kd.R_drewN | apply Kd.R_drew)); exact (Kd.R_mono (Kd.R_far (p := ⟨gb400, 2, none⟩) (Kd.R_far (p := ⟨gb400, 1, none⟩) (Kd.R_far (p := ⟨gb400, 0, none⟩) (Kd.R_types HO395.out BK400.out (by decide)) (fun _ hk => hk.2) (.string t392)) (fun _ hk => hk.2) (.slice Ao9 t393.length co9)) (fun _ hk => hk.2) (.slice Ao10 t396.length co10)) (fun _ h_ => h_.1))) hb) (Kd.R_base ho0)) (Kd.R_base ho1)) (fun _ h_ => h_.1)); have n1_ := Aside0.mk (Kd.R_mono (Kd.R_told (Kd.R_told (Kd.R_old (by (with_reducible repeat (first | apply Kd.R_alloc | apply Kd.R_drewN | apply Kd.R_drew)); exact (Kd.R_mono (Kd.R_far (p := ⟨gb400, 2, none⟩) (Kd.R_far (p := ⟨gb400, 1, none⟩) (Kd.R_far (p := ⟨gb400, 0, none⟩) (Kd.R_types HO398.out BK400.out (by decide)) (fun _ hk => hk.2) (.string t392)) (fun _ hk => hk.2) (.slice Ao9 t393.length co9)) (fun _ hk => hk.2) (.slice Ao10 t396.length co10)) (fun _ h_ => h_.1))) hb) (Kd.R_base ho0)) (Kd.R_base ho1)) (fun _ h_ => h_.1)); have n2_ := Aside0.mk (Kd.R_lower (Kd.R_new' (Kd.R_new' ho0 (Kd.R_lt (by (with_reducible repeat (first | apply Kd.R_alloc | apply Kd.R_drewN | apply Kd.R_drew)); exact (Kd.R_mono (Kd.R_far (p := ⟨gb400, 2, none⟩) (Kd.R_far (p := ⟨gb400, 1, none⟩) (Kd.R_far (p := ⟨gb400, 0, none⟩) (Kd.R_types HO395.out BK400.out (by decide)) (fun _ hk => hk.2) (.string t392)) (fun _ hk => hk.2) (.slice Ao9 t393.length co9)) (fun _ hk => hk.2) (.slice Ao10 t396.length co10)) (fun _ h_ => h_.1))))) (Kd.R_lt (by (with_reducible repeat (first | apply Kd.R_alloc | apply Kd.R_drewN | apply Kd.R_drew)); exact (Kd.R_mono (Kd.R_far (p := ⟨gb400, 2, none⟩) (Kd.R_far (p := ⟨gb400, 1, none⟩) (Kd.R_far (p := ⟨gb400, 0, none⟩) (Kd.R_types HO398.out BK400.out (by decide)) (fun _ hk => hk.2) (.string t392)) (fun _ hk => hk.2) (.slice Ao9 t393.length co9)) (fun _ hk => hk.2) (.slice Ao10 t396.length co10)) (fun _ h_ => h_.1))))) (below_size (by repeat (first | (with_reducible first | exact HB.out | apply below_alloc | apply pw_below_drewN | apply below_drew1 | refine below_set ?_ GE400.out) | exact HB.out)))); have n3_ := Aside0.mk (Kd.R_lower (Kd.R_new' (Kd.R_new' ho1 (Kd.R_lt (by (with_reducible repeat (first | apply Kd.R_alloc | apply Kd.R_drewN | apply Kd.R_drew)); exact (Kd.R_mono (Kd.R_far (p := ⟨gb400, 2, none⟩) (Kd.R_far (p := ⟨gb400, 1, none⟩) (Kd.R_far (p := ⟨gb400, 0, none⟩) (Kd.R_types HO395.out BK400.out (by decide)) (fun _ hk => hk.2) (.string t392)) (fun _ hk => hk.2) (.slice Ao9 t393.length co9)) (fun _ hk => hk.2) (.slice Ao10 t396.length co10)) (fun _ h_ => h_.1))))) (Kd.R_lt (by (with_reducible repeat (first | apply Kd.R_alloc | apply Kd.R_drewN | apply Kd.R_drew)); exact (Kd.R_mono (Kd.R_far (p := ⟨gb400, 2, none⟩) (Kd.R_far (p := ⟨gb400, 1, none⟩) (Kd.R_far (p := ⟨gb400, 0, none⟩) (Kd.R_types HO398.out BK400.out (by decide)) (fun _ hk => hk.2) (.string t392)) (fun _ hk => hk.2) (.slice Ao9 t393.length co9)) (fun _ hk => hk.2) (.slice Ao10 t396.length co10)) (fun _ h_ => h_.1))))) (below_size (by repeat (first | (with_reducible first | exact HB.out | apply below_alloc | apply pw_below_drewN | apply below_drew1 | refine below_set ?_ GE400.out) | exact HB.out)))); have n4_ := Aside0.mk (blk_below (g := gb400) (o := .cells #[.string t392, .slice Ao9 t393.length co9, .slice Ao10 t396.length co10] 24 (0, 0)) (by (with_reducible repeat (first | refine blk_drewN ?_ _ | refine blk_drew ?_ | refine blk_alloc ?_ _)); refine blk_put (cs := #[.string t392, .slice Ao9 t393.length co9, .slice none 0 0]) ?_ 2 _ rfl; (with_reducible repeat (first | refine blk_drewN ?_ _ | refine blk_drew ?_ | refine blk_alloc ?_ _)); refine blk_put (cs := #[.string t392, .slice none 0 0, .slice none 0 0]) ?_ 1 _ rfl; (with_reducible repeat (first | refine blk_drewN ?_ _ | refine blk_drew ?_ | refine blk_alloc ?_ _)); refine blk_put (cs := #[.string (⟨#[]⟩ : ByteArray), .slice none 0 0, .slice none 0 0]) ?_ 0 _ rfl; (with_reducible repeat (first | refine blk_drewN ?_ _ | refine blk_drew ?_ | refine blk_alloc ?_ _)); exact BK400.out) hb); have n5_ := Aside0.mk (below_step (by repeat (first | (with_reducible first | exact HB.out | apply below_alloc | apply pw_below_drewN | apply below_drew1 | refine below_set ?_ GE400.out) | exact HB.out)) hb); clear HO395; clear HO398; clear BK400; clear HB; have HO395 := n0_; have HO398 := n1_; have HO404 := n2_; have HO407 := n3_; have BK400 := n4_; have HB := n5_; clear n0_ n1_ n2_ n3_ n4_ n5_; (try clear hb); (try clear hb2); (try clear hk); (try clear hi); (try clear ho0); (try clear ho1)) | ((with_reducible refine gate_dst (N := 10) rfl ?_); refine box_event ?hg (N := 10) ?hd (cs := #[.string (⟨#[]⟩ : ByteArray), .slice none 0 0, .slice none 0 0]) (t := 24) ?hr ?_; (case hd => rfl); (case hg => rfl); (case hr => first | (go_simp; done) | (go_simp; rfl)); intro gb409 hg w12 hbox hb; have n0_ := Aside0.mk (Kd.R_below (by (with_reducible repeat (first | apply Kd.R_alloc | apply Kd.R_drewN | apply Kd.R_drew)); exact HO395.out) hb); have n1_ := Aside0.mk (Kd.R_below (by (with_reducible repeat (first | apply Kd.R_alloc | apply Kd.R_drewN | apply Kd.R_drew)); exact HO398.out) hb); have n2_ := Aside0.mk (Kd.R_below (by (with_reducible repeat (first | apply Kd.R_alloc | apply Kd.R_drewN | apply Kd.R_drew)); exact HO404.out) hb); have n3_ := Aside0.mk (Kd.R_below (by (with_reducible repeat (first | apply Kd.R_alloc | apply Kd.R_drewN | apply Kd.R_drew)); exact HO407.out) hb); have n4_ := Aside0.mk (blk_below (g := gb400) (o := .cells #[.string t392, .slice Ao9 t393.length co9, .slice Ao10 t396.length co10] 24 (0, 0)) (by (with_reducible repeat (first | refine blk_drewN ?_ _ | refine blk_drew ?_ | refine blk_alloc ?_ _)); exact BK400.out) hb); have n5_ := Aside0.mk (below_step (by repeat (first | (with_reducible first | exact HB.out | apply below_alloc | apply pw_below_drewN | apply below_drew1 | refine below_set ?_ GE400.out) | exact HB.out)) hb); have n6_ := Aside0.mk (hbox); have n7_ := Aside0.mk ((by rw [hg]; exact (below_size (by repeat (first | (with_reducible first | exact HB.out | apply below_alloc | apply pw_below_drewN | apply below_drew1 | refine below_set ?_ GE400.out) | exact HB.out))) : w.heap.size ≤ gb409)); have n8_ := Aside0.mk ((by rw [hg]; exact (below_size (by repeat (first | (with_reducible first | exact HB.out | apply below_alloc | apply pw_below_drewN | apply below_drew1 | refine below_set ?_ GE400.out) | exact HB.out))) : w.heap.size ≤ gb409)); have n9_ := Aside0.mk ((by rw [hg]; exact Nat.ne_of_lt (blk_lt (g := gb400) (o := .cells #[.string t392, .slice Ao9 t393.length co9, .slice Ao10 t396.length co10] 24 (0, 0)) (by (with_reducible repeat (first | refine blk_drewN ?_ _ | refine blk_drew ?_ | refine blk_alloc ?_ _)); exact BK400.out)) : gb400 ≠ gb409)); have n10_ := Aside0.mk ((by rw [hg]; exact Nat.ne_of_gt (blk_lt (g := gb400) (o := .cells #[.string t392, .slice Ao9 t393.length co9, .slice Ao10 t396.length co10] 24 (0, 0)) (by (with_reducible repeat (first | refine blk_drewN ?_ _ | refine blk_drew ?_ | refine blk_alloc ?_ _)); exact BK400.out)) : gb409 ≠ gb400)); clear HO395; clear HO398; clear HO404; clear HO407; clear BK400; clear HB; have HO395 := n0_; have HO398 := n1_; have HO404 := n2_; have HO407 := n3_; have BK400 := n4_; have HB := n5_; have BK409 := n6_; have GW409 := n7_; have GE409 := n8_; have NB400_409 := n9_; have NB409_400 := n10_; clear n0_ n1_ n2_ n3_ n4_ n5_ n6_ n7_ n8_ n9_ n10_; clear hb hbox hg; have hnb13 := NB409_400.out; have hnc13 := NB400_409.out; have hcz14_0 : w12.cell? ⟨gb409, 0, none⟩ = some (.string (⟨#[]⟩ : ByteArray)) := (blk_cell BK409.out 0).trans rfl; have hcz14_1 : w12.cell? ⟨gb409, 1, none⟩ = some (.slice none 0 0) := (blk_cell BK409.out 1).trans rfl; have hcz14_2 : w12.cell? ⟨gb409, 2, none⟩ = some (.slice none 0 0) := (blk_cell BK409.out 2).trans rfl; have hfz14_0 := blk_frozen BK409.out 0; have hfz14_1 := blk_frozen BK409.out 1; have hfz14_2 := blk_frozen BK409.out 2; obtain ⟨Ao15, co15, eo15⟩ := Kd.R_slice HO404.out; subst eo15; obtain ⟨Ao16, co16, eo16⟩ := Kd.R_slice HO407.out; subst eo16))
 (try simp only [Act.put, List.setIfInBounds_toArray, List.set_cons_zero, List.set_cons_succ])
 go_cut [31] (fun v31 wc => ∃ (kq : Nat) (x31_4 : Bool), v31 = .bool x31_4 ∧ Aside0 (find_Common.j0 kq a0 x31_4 t392 t393 t396 t401 t402 t405 = some (r1, r2, r3, r4)) ∧ Aside0 (kq ≤ k) ∧ Aside0 (Kd.R (Kd.int .i64) 3 wc w.heap.size (fun k_ => some k_ ≠ ((.slice Ao10 t396.length co10) : Value).ownBlock ∧ some k_ ≠ ((.slice Ao15 t402.length co15) : Value).ownBlock ∧ some k_ ≠ ((.slice Ao16 t405.length co16) : Value).ownBlock) (.slice Ao9 t393.length co9) t393) ∧ Aside0 (Kd.R (Kd.int .i64) 3 wc w.heap.size (fun k_ => some k_ ≠ ((.slice Ao9 t393.length co9) : Value).ownBlock ∧ some k_ ≠ ((.slice Ao15 t402.length co15) : Value).ownBlock ∧ some k_ ≠ ((.slice Ao16 t405.length co16) : Value).ownBlock) (.slice Ao10 t396.length co10) t396) ∧ Aside0 (Kd.R (Kd.int .i64) 3 wc w.heap.size (fun k_ => some k_ ≠ ((.slice Ao9 t393.length co9) : Value).ownBlock ∧ some k_ ≠ ((.slice Ao10 t396.length co10) : Value).ownBlock ∧ some k_ ≠ ((.slice Ao16 t405.length co16) : Value).ownBlock) (.slice Ao15 t402.length co15) t402) ∧ Aside0 (Kd.R (Kd.int .i64) 3 wc w.heap.size (fun k_ => some k_ ≠ ((.slice Ao9 t393.length co9) : Value).ownBlock ∧ some k_ ≠ ((.slice Ao10 t396.length co10) : Value).ownBlock ∧ some k_ ≠ ((.slice Ao15 t402.length co15) : Value).ownBlock) (.slice Ao16 t405.length co16) t405) ∧ Aside0 (wc.heap[gb400]? = some (.cells #[.string t392, (.slice Ao9 t393.length co9), (.slice Ao10 t396.length co10)] 24 (0, 0))) ∧ Aside0 (wc.heap[gb409]? = some (.cells #[.string t401, (.slice Ao15 t402.length co15), (.slice Ao16 t405.length co16)] 24 (0, 0))) ∧ Aside0 (Below w.heap.size w wc))
 case first =>
  have H := HC5.out
  clear HC5
  by_cases c17 : t399 = 0
  ·rw [if_pos c17] at H
   have c17b0 : (t399 == 0) = true := beq_iff_eq.mpr c17
   have c17b1 : (t399 != 0) = false := bne_eq_false_iff_eq.mpr c17
   clear c17
   (first | rw [c17b0] | (simp only [i64_w, i32_w]; rw [c17b0]) | rw [c17b1] | skip)
   have H' := Aside0.mk H
   clear H
   go_wp2
   go_meet
   case rel => exact ⟨_, ((t408 != 0)), (by first | rfl | (simp; done) | (simp [*]; done)), H', ⟨by first | omega | exact Nat.le_refl _⟩, ⟨by (with_reducible repeat (first | apply Kd.R_alloc | apply Kd.R_drewN | apply Kd.R_drew)); exact Kd.R_mono (Kd.R_far (p := ⟨gb409, 2, none⟩) (Kd.R_far (p := ⟨gb409, 1, none⟩) (Kd.R_far (p := ⟨gb409, 0, none⟩) (Kd.R_types HO395.out BK409.out (by decide)) (fun _ hk => hk.2) (.string t401)) (fun _ hk => hk.2) (.slice Ao15 t402.length co15)) (fun _ hk => hk.2) (.slice Ao16 t405.length co16)) (fun _ hk => ⟨hk.1.1.1, ⟨hk.1.1.2, hk.1.2⟩⟩)⟩, ⟨by (with_reducible repeat (first | apply Kd.R_alloc | apply Kd.R_drewN | apply Kd.R_drew)); exact Kd.R_mono (Kd.R_far (p := ⟨gb409, 2, none⟩) (Kd.R_far (p := ⟨gb409, 1, none⟩) (Kd.R_far (p := ⟨gb409, 0, none⟩) (Kd.R_types HO398.out BK409.out (by decide)) (fun _ hk => hk.2) (.string t401)) (fun _ hk => hk.2) (.slice Ao15 t402.length co15)) (fun _ hk => hk.2) (.slice Ao16 t405.length co16)) (fun _ hk => ⟨hk.1.1.1, ⟨hk.1.1.2, hk.1.2⟩⟩)⟩, ⟨by (with_reducible repeat (first | apply Kd.R_alloc | apply Kd.R_drewN | apply Kd.R_drew)); exact Kd.R_mono (Kd.R_far (p := ⟨gb409, 2, none⟩) (Kd.R_far (p := ⟨gb409, 1, none⟩) (Kd.R_far (p := ⟨gb409, 0, none⟩) (Kd.R_types HO404.out BK409.out (by decide)) (fun _ hk => hk.2) (.string t401)) (fun _ hk => hk.2) (.slice Ao15 t402.length co15)) (fun _ hk => hk.2) (.slice Ao16 t405.length co16)) (fun _ hk => ⟨hk.1.1.2, ⟨hk.1.2, hk.1.1.1⟩⟩)⟩, ⟨by (with_reducible repeat (first | apply Kd.R_alloc | apply Kd.R_drewN | apply Kd.R_drew)); exact Kd.R_mono (Kd.R_far (p := ⟨gb409, 2, none⟩) (Kd.R_far (p := ⟨gb409, 1, none⟩) (Kd.R_far (p := ⟨gb409, 0, none⟩) (Kd.R_types HO407.out BK409.out (by decide)) (fun _ hk => hk.2) (.string t401)) (fun _ hk => hk.2) (.slice Ao15 t402.length co15)) (fun _ hk => hk.2) (.slice Ao16 t405.length co16)) (fun _ hk => ⟨hk.1.1.2, ⟨hk.1.2, hk.1.1.1⟩⟩)⟩, ⟨by (with_reducible repeat (first | refine blk_drewN ?_ _ | refine blk_drew ?_ | refine blk_alloc ?_ _)); refine blk_far ?_ NB400_409.out _; (with_reducible repeat (first | refine blk_drewN ?_ _ | refine blk_drew ?_ | refine blk_alloc ?_ _)); refine blk_far ?_ NB400_409.out _; (with_reducible repeat (first | refine blk_drewN ?_ _ | refine blk_drew ?_ | refine blk_alloc ?_ _)); refine blk_far ?_ NB400_409.out _; (with_reducible repeat (first | refine blk_drewN ?_ _ | refine blk_drew ?_ | refine blk_alloc ?_ _)); exact BK400.out⟩, ⟨by (with_reducible repeat (first | refine blk_drewN ?_ _ | refine blk_drew ?_ | refine blk_alloc ?_ _)); refine blk_put (cs := #[.string t401, .slice Ao15 t402.length co15, .slice none 0 0]) ?_ 2 _ rfl; (with_reducible repeat (first | refine blk_drewN ?_ _ | refine blk_drew ?_ | refine blk_alloc ?_ _)); refine blk_put (cs := #[.string t401, .slice none 0 0, .slice none 0 0]) ?_ 1 _ rfl; (with_reducible repeat (first | refine blk_drewN ?_ _ | refine blk_drew ?_ | refine blk_alloc ?_ _)); refine blk_put (cs := #[.string (⟨#[]⟩ : ByteArray), .slice none 0 0, .slice none 0 0]) ?_ 0 _ rfl; (with_reducible repeat (first | refine blk_drewN ?_ _ | refine blk_drew ?_ | refine blk_alloc ?_ _)); exact BK409.out⟩, ⟨by repeat (first | (with_reducible first | exact HB.out | apply below_alloc | apply pw_below_drewN | apply below_drew1 | refine below_set ?_ GE400.out | refine below_set ?_ GE409.out) | exact HB.out)⟩⟩
  ·rw [if_neg c17] at H
   have c17b0 : (t399 == 0) = false := beq_eq_false_iff_ne.mpr c17
   have c17b1 : (t399 != 0) = true := bne_iff_ne.mpr c17
   (first | rw [c17b0] | (simp only [i64_w, i32_w]; rw [c17b0]) | rw [c17b1] | skip)
   have H' := Aside0.mk H
   clear H
   go_wp2
   go_meet
   case rel => exact ⟨_, (true), (by first | rfl | (simp; done) | (simp [*]; done)), H', ⟨by first | omega | exact Nat.le_refl _⟩, ⟨by (with_reducible repeat (first | apply Kd.R_alloc | apply Kd.R_drewN | apply Kd.R_drew)); exact Kd.R_mono (Kd.R_far (p := ⟨gb409, 2, none⟩) (Kd.R_far (p := ⟨gb409, 1, none⟩) (Kd.R_far (p := ⟨gb409, 0, none⟩) (Kd.R_types HO395.out BK409.out (by decide)) (fun _ hk => hk.2) (.string t401)) (fun _ hk => hk.2) (.slice Ao15 t402.length co15)) (fun _ hk => hk.2) (.slice Ao16 t405.length co16)) (fun _ hk => ⟨hk.1.1.1, ⟨hk.1.1.2, hk.1.2⟩⟩)⟩, ⟨by (with_reducible repeat (first | apply Kd.R_alloc | apply Kd.R_drewN | apply Kd.R_drew)); exact Kd.R_mono (Kd.R_far (p := ⟨gb409, 2, none⟩) (Kd.R_far (p := ⟨gb409, 1, none⟩) (Kd.R_far (p := ⟨gb409, 0, none⟩) (Kd.R_types HO398.out BK409.out (by decide)) (fun _ hk => hk.2) (.string t401)) (fun _ hk => hk.2) (.slice Ao15 t402.length co15)) (fun _ hk => hk.2) (.slice Ao16 t405.length co16)) (fun _ hk => ⟨hk.1.1.1, ⟨hk.1.1.2, hk.1.2⟩⟩)⟩, ⟨by (with_reducible repeat (first | apply Kd.R_alloc | apply Kd.R_drewN | apply Kd.R_drew)); exact Kd.R_mono (Kd.R_far (p := ⟨gb409, 2, none⟩) (Kd.R_far (p := ⟨gb409, 1, none⟩) (Kd.R_far (p := ⟨gb409, 0, none⟩) (Kd.R_types HO404.out BK409.out (by decide)) (fun _ hk => hk.2) (.string t401)) (fun _ hk => hk.2) (.slice Ao15 t402.length co15)) (fun _ hk => hk.2) (.slice Ao16 t405.length co16)) (fun _ hk => ⟨hk.1.1.2, ⟨hk.1.2, hk.1.1.1⟩⟩)⟩, ⟨by (with_reducible repeat (first | apply Kd.R_alloc | apply Kd.R_drewN | apply Kd.R_drew)); exact Kd.R_mono (Kd.R_far (p := ⟨gb409, 2, none⟩) (Kd.R_far (p := ⟨gb409, 1, none⟩) (Kd.R_far (p := ⟨gb409, 0, none⟩) (Kd.R_types HO407.out BK409.out (by decide)) (fun _ hk => hk.2) (.string t401)) (fun _ hk => hk.2) (.slice Ao15 t402.length co15)) (fun _ hk => hk.2) (.slice Ao16 t405.length co16)) (fun _ hk => ⟨hk.1.1.2, ⟨hk.1.2, hk.1.1.1⟩⟩)⟩, ⟨by (with_reducible repeat (first | refine blk_drewN ?_ _ | refine blk_drew ?_ | refine blk_alloc ?_ _)); refine blk_far ?_ NB400_409.out _; (with_reducible repeat (first | refine blk_drewN ?_ _ | refine blk_drew ?_ | refine blk_alloc ?_ _)); refine blk_far ?_ NB400_409.out _; (with_reducible repeat (first | refine blk_drewN ?_ _ | refine blk_drew ?_ | refine blk_alloc ?_ _)); refine blk_far ?_ NB400_409.out _; (with_reducible repeat (first | refine blk_drewN ?_ _ | refine blk_drew ?_ | refine blk_alloc ?_ _)); exact BK400.out⟩, ⟨by (with_reducible repeat (first | refine blk_drewN ?_ _ | refine blk_drew ?_ | refine blk_alloc ?_ _)); refine blk_put (cs := #[.string t401, .slice Ao15 t402.length co15, .slice none 0 0]) ?_ 2 _ rfl; (with_reducible repeat (first | refine blk_drewN ?_ _ | refine blk_drew ?_ | refine blk_alloc ?_ _)); refine blk_put (cs := #[.string t401, .slice none 0 0, .slice none 0 0]) ?_ 1 _ rfl; (with_reducible repeat (first | refine blk_drewN ?_ _ | refine blk_drew ?_ | refine blk_alloc ?_ _)); refine blk_put (cs := #[.string (⟨#[]⟩ : ByteArray), .slice none 0 0, .slice none 0 0]) ?_ 0 _ rfl; (with_reducible repeat (first | refine blk_drewN ?_ _ | refine blk_drew ?_ | refine blk_alloc ?_ _)); exact BK409.out⟩, ⟨by repeat (first | (with_reducible first | exact HB.out | apply below_alloc | apply pw_below_drewN | apply below_drew1 | refine below_set ?_ GE400.out | refine below_set ?_ GE409.out) | exact HB.out)⟩⟩
 case rest =>
  clear HC5
  try clear c1
  try clear p2
  try clear c3
  try clear c13
  try clear c16
  try clear c17
  try clear c17b0
  try clear c17b1
  try clear hcz14_0
  try clear hcz14_1
  try clear hcz14_2
  try clear hcz8_0
  try clear hcz8_1
  try clear hcz8_2
  try clear hfz14_0
  try clear hfz14_1
  try clear hfz14_2
  try clear hfz8_0
  try clear hfz8_1
  try clear hfz8_2
  obtain ⟨kq, x31_4, rfl, HA, HJ4, HO_401001, HO_401002, HO_410001, HO_410002, BK400, BK409, HB⟩ := hcut
  cases kq with
  | zero => exact absurd HA.out (by simp [find_Common.j0])
  | succ kj4 =>
   have H := HA.out
   clear HA
   simp only [find_Common.j0] at H
   by_cases c18 : x31_4 = true
   ·subst c18
    have H1 : (some (0, 0, 0, 2)) = some (r1, r2, r3, r4) := by rw [if_pos rfl] at H; exact H
    clear H
    have H := H1
    clear H1
    simp only [Option.some.injEq, Prod.mk.injEq] at H
    obtain ⟨rfl, rfl, rfl, rfl⟩ := H
    go_wp2
    refine bodyPost_ret (results_list (rs := [.tmp 4, .tmp 5, .tmp 6, .tmp 7]) rfl (by simp) (.tmp (.tmp (.tmp (.tmp .nil))))) rfl ?_
    exact ⟨by first | rfl | (simp [errW_none, errW_some] <;> rfl) | (simp [*, errW_none, errW_some] <;> rfl), by repeat (first | (with_reducible first | exact HB.out | apply below_alloc | apply pw_below_drewN | apply below_drew1 | refine below_set ?_ GE400.out | refine below_set ?_ GE409.out) | exact HB.out)⟩
   ·replace c18 := Bool.eq_false_iff.mpr c18
    subst c18
    have H1 : (find_Common.l0 kj4 a0 0 0 (a0.size : Int) 0 t392 t393 t396 t401 t402 t405) = some (r1, r2, r3, r4) := by rw [if_neg (show ¬ (false = true) by decide)] at H; exact H
    clear H
    have H := H1
    clear H1
    have H' := Aside0.mk H
    clear H
    go_wp2
    go_loopg [12, 13, 34] kj4 (fun kq v12 v13 v34 w' => ∃ (x12_2 : Int) (x13_2 : Int) (x34_2 : Int), v12 = .int .i64 x12_2 ∧ v13 = .int .i64 x13_2 ∧ v34 = .int .i64 x34_2 ∧ Aside0 (find_Common.l0 kq a0 x12_2 x13_2 (a0.size : Int) x34_2 t392 t393 t396 t401 t402 t405 = some (r1, r2, r3, r4)) ∧ Aside0 (kq ≤ kj4) ∧ Aside0 (Kd.R (Kd.int .i64) 3 w' w.heap.size (fun k_ => some k_ ≠ ((.slice Ao10 t396.length co10) : Value).ownBlock ∧ some k_ ≠ ((.slice Ao15 t402.length co15) : Value).ownBlock ∧ some k_ ≠ ((.slice Ao16 t405.length co16) : Value).ownBlock) (.slice Ao9 t393.length co9) t393) ∧ Aside0 (Kd.R (Kd.int .i64) 3 w' w.heap.size (fun k_ => some k_ ≠ ((.slice Ao9 t393.length co9) : Value).ownBlock ∧ some k_ ≠ ((.slice Ao15 t402.length co15) : Value).ownBlock ∧ some k_ ≠ ((.slice Ao16 t405.length co16) : Value).ownBlock) (.slice Ao10 t396.length co10) t396) ∧ Aside0 (Kd.R (Kd.int .i64) 3 w' w.heap.size (fun k_ => some k_ ≠ ((.slice Ao9 t393.length co9) : Value).ownBlock ∧ some k_ ≠ ((.slice Ao10 t396.length co10) : Value).ownBlock ∧ some k_ ≠ ((.slice Ao16 t405.length co16) : Value).ownBlock) (.slice Ao15 t402.length co15) t402) ∧ Aside0 (Kd.R (Kd.int .i64) 3 w' w.heap.size (fun k_ => some k_ ≠ ((.slice Ao9 t393.length co9) : Value).ownBlock ∧ some k_ ≠ ((.slice Ao10 t396.length co10) : Value).ownBlock ∧ some k_ ≠ ((.slice Ao15 t402.length co15) : Value).ownBlock) (.slice Ao16 t405.length co16) t405) ∧ Aside0 (w'.heap[gb400]? = some (.cells #[.string t392, (.slice Ao9 t393.length co9), (.slice Ao10 t396.length co10)] 24 (0, 0))) ∧ Aside0 (w'.heap[gb409]? = some (.cells #[.string t401, (.slice Ao15 t402.length co15), (.slice Ao16 t405.length co16)] 24 (0, 0))) ∧ Aside0 (Below w.heap.size w w'))
    case atStart => exact ⟨(0), (0), (0), (by first | rfl | (simp; done) | (simp [*]; done)), (by first | rfl | (simp; done) | (simp [*]; done)), (by first | rfl | (simp; done) | (simp [*]; done)), H', ⟨Nat.le_refl _⟩, ⟨by (with_reducible repeat (first | apply Kd.R_alloc | apply Kd.R_drewN | apply Kd.R_drew)); exact HO_401001.out⟩, ⟨by (with_reducible repeat (first | apply Kd.R_alloc | apply Kd.R_drewN | apply Kd.R_drew)); exact HO_401002.out⟩, ⟨by (with_reducible repeat (first | apply Kd.R_alloc | apply Kd.R_drewN | apply Kd.R_drew)); exact HO_410001.out⟩, ⟨by (with_reducible repeat (first | apply Kd.R_alloc | apply Kd.R_drewN | apply Kd.R_drew)); exact HO_410002.out⟩, ⟨by (with_reducible repeat (first | refine blk_drewN ?_ _ | refine blk_drew ?_ | refine blk_alloc ?_ _)); exact BK400.out⟩, ⟨by (with_reducible repeat (first | refine blk_drewN ?_ _ | refine blk_drew ?_ | refine blk_alloc ?_ _)); exact BK409.out⟩, ⟨by repeat (first | (with_reducible first | exact HB.out | apply below_alloc | apply pw_below_drewN | apply below_drew1 | refine below_set ?_ GE400.out | refine below_set ?_ GE409.out) | exact HB.out)⟩⟩
    case round =>
     clear H'
     try clear c1
     try clear p2
     try clear c3
     try clear c13
     try clear c16
     try clear c17
     try clear c17b0
     try clear c17b1
     try clear c18
     try clear hcz14_0
     try clear hcz14_1
     try clear hcz14_2
     try clear hcz8_0
     try clear hcz8_1
     try clear hcz8_2
     try clear hfz14_0
     try clear hfz14_1
     try clear hfz14_2
     try clear hfz8_0
     try clear hfz8_1
     try clear hfz8_2
     try clear p2
     obtain ⟨x12_2, x13_2, x34_2, rfl, rfl, rfl, HA, HK2, HO_401001, HO_401002, HO_410001, HO_410002, BK400, BK409, HB⟩ := hrel
     cases gk with
     | zero => exact absurd HA.out (by simp [find_Common.l0])
     | succ k2 =>
      have H := HA.out
      clear HA
      simp only [find_Common.l0] at H
      by_cases c19 : x34_2 < (a0.size : Int)
      ·rw [if_pos c19] at H
       have c19b0 : decide (x34_2 < (a0.size : Int)) = true := decide_eq_true c19
       clear c19
       have H' := Aside0.mk H
       clear H
       go_wp2
       go_loopg [12, 13] k2 (fun kq v12 v13 w' => ∃ (x12_3 : Int) (x13_3 : Int), v12 = .int .i64 x12_3 ∧ v13 = .int .i64 x13_3 ∧ Aside0 (find_Common.l1 kq a0 x12_3 x13_3 x34_2 (a0.size : Int) x34_2 t392 t393 t396 t401 t402 t405 = some (r1, r2, r3, r4)) ∧ Aside0 (kq ≤ k2) ∧ Aside0 (Kd.R (Kd.int .i64) 3 w' w.heap.size (fun k_ => some k_ ≠ ((.slice Ao10 t396.length co10) : Value).ownBlock ∧ some k_ ≠ ((.slice Ao15 t402.length co15) : Value).ownBlock ∧ some k_ ≠ ((.slice Ao16 t405.length co16) : Value).ownBlock) (.slice Ao9 t393.length co9) t393) ∧ Aside0 (Kd.R (Kd.int .i64) 3 w' w.heap.size (fun k_ => some k_ ≠ ((.slice Ao9 t393.length co9) : Value).ownBlock ∧ some k_ ≠ ((.slice Ao15 t402.length co15) : Value).ownBlock ∧ some k_ ≠ ((.slice Ao16 t405.length co16) : Value).ownBlock) (.slice Ao10 t396.length co10) t396) ∧ Aside0 (Kd.R (Kd.int .i64) 3 w' w.heap.size (fun k_ => some k_ ≠ ((.slice Ao9 t393.length co9) : Value).ownBlock ∧ some k_ ≠ ((.slice Ao10 t396.length co10) : Value).ownBlock ∧ some k_ ≠ ((.slice Ao16 t405.length co16) : Value).ownBlock) (.slice Ao15 t402.length co15) t402) ∧ Aside0 (Kd.R (Kd.int .i64) 3 w' w.heap.size (fun k_ => some k_ ≠ ((.slice Ao9 t393.length co9) : Value).ownBlock ∧ some k_ ≠ ((.slice Ao10 t396.length co10) : Value).ownBlock ∧ some k_ ≠ ((.slice Ao15 t402.length co15) : Value).ownBlock) (.slice Ao16 t405.length co16) t405) ∧ Aside0 (w'.heap[gb400]? = some (.cells #[.string t392, (.slice Ao9 t393.length co9), (.slice Ao10 t396.length co10)] 24 (0, 0))) ∧ Aside0 (w'.heap[gb409]? = some (.cells #[.string t401, (.slice Ao15 t402.length co15), (.slice Ao16 t405.length co16)] 24 (0, 0))) ∧ Aside0 (Below w.heap.size w w'))
       case atStart => exact ⟨(x12_2), (x13_2), (by first | rfl | (simp; done) | (simp [*]; done)), (by first | rfl | (simp; done) | (simp [*]; done)), H', ⟨Nat.le_refl _⟩, ⟨by (with_reducible repeat (first | apply Kd.R_alloc | apply Kd.R_drewN | apply Kd.R_drew)); exact HO_401001.out⟩, ⟨by (with_reducible repeat (first | apply Kd.R_alloc | apply Kd.R_drewN | apply Kd.R_drew)); exact HO_401002.out⟩, ⟨by (with_reducible repeat (first | apply Kd.R_alloc | apply Kd.R_drewN | apply Kd.R_drew)); exact HO_410001.out⟩, ⟨by (with_reducible repeat (first | apply Kd.R_alloc | apply Kd.R_drewN | apply Kd.R_drew)); exact HO_410002.out⟩, ⟨by (with_reducible repeat (first | refine blk_drewN ?_ _ | refine blk_drew ?_ | refine blk_alloc ?_ _)); exact BK400.out⟩, ⟨by (with_reducible repeat (first | refine blk_drewN ?_ _ | refine blk_drew ?_ | refine blk_alloc ?_ _)); exact BK409.out⟩, ⟨by repeat (first | (with_reducible first | exact HB.out | apply below_alloc | apply pw_below_drewN | apply below_drew1 | refine below_set ?_ GE400.out | refine below_set ?_ GE409.out) | exact HB.out)⟩⟩
       case round =>
        clear H'
        try clear c1
        try clear p2
        try clear c3
        try clear c13
        try clear c16
        try clear c17
        try clear c17b0
        try clear c17b1
        try clear c18
        try clear c19
        try clear c19b0
        try clear hcz14_0
        try clear hcz14_1
        try clear hcz14_2
        try clear hcz8_0
        try clear hcz8_1
        try clear hcz8_2
        try clear hfz14_0
        try clear hfz14_1
        try clear hfz14_2
        try clear hfz8_0
        try clear hfz8_1
        try clear hfz8_2
        try clear p2
        obtain ⟨x12_3, x13_3, rfl, rfl, HA, HK3, HO_401001, HO_401002, HO_410001, HO_410002, BK400, BK409, HB⟩ := hrel
        cases gk with
        | zero => exact absurd HA.out (by simp [find_Common.l1])
        | succ k3 =>
         have H := HA.out
         clear HA
         simp only [find_Common.l1] at H
         by_cases c20 : (wrap64 (x34_2 + x12_3)) < (a0.size : Int)
         ·rw [if_pos c20] at H
          have c20b0 : decide ((wrap64 (x34_2 + x12_3)) < (a0.size : Int)) = true := decide_eq_true c20
          clear c20
          by_cases c21 : 0 ≤ x34_2
          ·rw [if_pos c21] at H
           have c21b0 := eq_true c21
           have c21b1 : decide (0 ≤ x34_2) = true := decide_eq_true c21
           clear c21
           by_cases c22 : x34_2 ≤ (wrap64 ((wrap64 (x34_2 + x12_3)) + 1))
           ·rw [if_pos c22] at H
            have c22b0 := eq_true c22
            have c22b1 : decide (x34_2 ≤ (wrap64 ((wrap64 (x34_2 + x12_3)) + 1))) = true := decide_eq_true c22
            by_cases c23 : (wrap64 ((wrap64 (x34_2 + x12_3)) + 1)) ≤ (a0.size : Int)
            ·rw [if_pos c23] at H
             have c23b0 := eq_true c23
             have c23b1 : decide ((wrap64 ((wrap64 (x34_2 + x12_3)) + 1)) ≤ (a0.size : Int)) = true := decide_eq_true c23
             replace H := Option.bind_eq_some_iff.mp H
             obtain ⟨t410, A240, H⟩ := H
             replace H : (if t410 > 0 then (find_Common.l1 k3 a0 (wrap64 (x12_3 + 1)) x34_2 x34_2 (a0.size : Int) x34_2 t392 t393 t396 t401 t402 t405) else (find_Common.l0 k3 a0 x12_3 x13_3 (a0.size : Int) (wrap64 (x34_2 + 1)) t392 t393 t396 t401 t402 t405)) = some (r1, r2, r3, r4) := H
             have A24 := Aside0.mk A240
             clear A240
             by_cases c25 : t410 > 0
             ·rw [if_pos c25] at H
              have c25b0 : decide (0 < t410) = true := decide_eq_true c25
              clear c25
              have H' := Aside0.mk H
              clear H
              try go_wp2
              have n0_ := Aside0.mk (Kd.R_drew HO_401001.out)
              have n1_ := Aside0.mk (Kd.R_drew HO_401002.out)
              have n2_ := Aside0.mk (Kd.R_drew HO_410001.out)
              have n3_ := Aside0.mk (Kd.R_drew HO_410002.out)
              have n4_ := Aside0.mk (blk_drew BK400.out)
              have n5_ := Aside0.mk (blk_drew BK409.out)
              have n6_ := Aside0.mk (below_drew1 HB.out)
              clear HO_401001
              clear HO_401002
              clear HO_410001
              clear HO_410002
              clear BK400
              clear BK409
              clear HB
              have HO_401001 := n0_
              have HO_401002 := n1_
              have HO_410001 := n2_
              have HO_410002 := n3_
              have BK400 := n4_
              have BK409 := n5_
              have HB := n6_
              clear n0_ n1_ n2_ n3_ n4_ n5_ n6_
              refine start_ (n := 18) (S := fun w' => w'.cell? ⟨gb409, 0, none⟩ = some (.string t401) ∧ w'.cell? ⟨gb409, 1, none⟩ = some (.slice Ao15 t402.length co15) ∧ w'.cell? ⟨gb409, 2, none⟩ = some (.slice Ao16 t405.length co16)) (ds := []) #[false, false, false, false, false, false, false, false, false, false, false, false, false, false, false, false, false, false] (by kernel_rfl) rfl rfl ⟨(blk_cell BK409.out 0).trans rfl, (blk_cell BK409.out 1).trans rfl, (blk_cell BK409.out 2).trans rfl⟩ (fun hHeld => ?_); refine with_tabW find_Common.tab9 find_Common.bits9 (fun HT_ HW_ => ?_)
              generalize wr.drew = w26 at HO_401001 HO_401002 HO_410001 HO_410002 BK400 BK409 HB hHeld ⊢
              refine pure_ (i := 0) (N := some 37) (v := ?_) (a' := ?_) #[true, false, false, false, false, false, false, false, false, false, false, false, false, false, false, false, false, false] rfl rfl (any_of HT_.out (by kernel_rfl)) (fun _ _ _ h => h) (Or.inl ⟨by rfl, ?_⟩) ?_ ?_
              rotate_left
              ·intro w'
               go_simp
               with_reducible rfl
              rotate_left
              ·simp only [Act.put, List.setIfInBounds_toArray, List.set_cons_zero, List.set_cons_succ, i64_w, i32_w]
               rfl
              refine pure_ (i := 1) (N := some 38) (v := ?_) (a' := ?_) #[true, true, false, false, false, false, false, false, false, false, false, false, false, false, false, false, false, false] rfl rfl (any_of HT_.out (by kernel_rfl)) (fun _ _ _ h => h) (Or.inl ⟨by rfl, ?_⟩) ?_ ?_
              rotate_left
              ·intro w'
               go_simp
               with_reducible rfl
              rotate_left
              ·simp only [Act.put, List.setIfInBounds_toArray, List.set_cons_zero, List.set_cons_succ, i64_w, i32_w]
               rfl
              refine pure_ (i := 2) (N := some 39) (v := ?_) (a' := ?_) #[true, true, true, false, false, false, false, false, false, false, false, false, false, false, false, false, false, false] rfl rfl (any_of HT_.out (by kernel_rfl)) (fun _ _ _ h => h) (Or.inl ⟨by rfl, ?_⟩) ?_ ?_
              rotate_left
              ·intro w'
               go_simp
               with_reducible rfl
              rotate_left
              ·simp only [Act.put, List.setIfInBounds_toArray, List.set_cons_zero, List.set_cons_succ, i64_w, i32_w]
               rfl
              refine pure_ (i := 3) (N := some 40) (v := ?_) (a' := ?_) #[true, true, true, true, false, false, false, false, false, false, false, false, false, false, false, false, false, false] rfl rfl (any_of HT_.out (by kernel_rfl)) (fun _ _ _ h => h) (Or.inl ⟨by rfl, ?_⟩) ?_ ?_
              rotate_left
              ·intro w'
               go_simp
               with_reducible rfl
              rotate_left
              ·simp only [Act.put, List.setIfInBounds_toArray, List.set_cons_zero, List.set_cons_succ, i64_w, i32_w]
               rfl
              refine pure_ (i := 4) (N := some 41) (v := ?_) (a' := ?_) #[true, true, true, true, true, false, false, false, false, false, false, false, false, false, false, false, false, false] rfl rfl (any_of HT_.out (by kernel_rfl)) (fun _ _ _ h => h) (Or.inl ⟨by rfl, ?_⟩) ?_ ?_
              rotate_left
              ·intro w'
               go_simp
               with_reducible rfl
              rotate_left
              ·simp only [Act.put, List.setIfInBounds_toArray, List.set_cons_zero, List.set_cons_succ, i64_w, i32_w]
               rfl
              refine pure_ (i := 5) (N := some 42) (v := ?_) (a' := ?_) #[true, true, true, true, true, true, false, false, false, false, false, false, false, false, false, false, false, false] rfl rfl (any_of HT_.out (by kernel_rfl)) (fun _ _ _ h => h) (Or.inl ⟨by rfl, ?_⟩) ?_ ?_
              rotate_left
              ·intro w'
               go_simp
               with_reducible rfl
              rotate_left
              ·simp only [Act.put, List.setIfInBounds_toArray, List.set_cons_zero, List.set_cons_succ, i64_w, i32_w]
               rfl
              refine pure_ (i := 6) (N := some 43) (v := ?_) (a' := ?_) #[true, true, true, true, true, true, true, false, false, false, false, false, false, false, false, false, false, false] rfl rfl (any_of HT_.out (by kernel_rfl)) (fun _ _ _ h => h) (Or.inl ⟨by rfl, ?_⟩) ?_ ?_
              rotate_left
              ·intro w'
               go_simp
               with_reducible rfl
              rotate_left
              ·simp only [Act.put, List.setIfInBounds_toArray, List.set_cons_zero, List.set_cons_succ, i64_w, i32_w]
               rfl
              refine pure_ (i := 8) (N := some 45) (v := ?_) (a' := ?_) #[true, true, true, true, true, true, true, false, true, false, false, false, false, false, false, false, false, false] rfl rfl (any_of HT_.out (by kernel_rfl)) (fun _ _ _ h => h) (Or.inl ⟨by rfl, ?_⟩) ?_ ?_
              rotate_left
              ·intro w'
               go_simp
               with_reducible rfl
              rotate_left
              ·simp only [Act.put, List.setIfInBounds_toArray, List.set_cons_zero, List.set_cons_succ, i64_w, i32_w]
               rfl
              refine pure_ (i := 9) (N := some 46) (v := ?_) (a' := ?_) #[true, true, true, true, true, true, true, false, true, true, false, false, false, false, false, false, false, false] rfl rfl (any_of HT_.out (by kernel_rfl)) (fun _ _ _ h => h) (Or.inl ⟨by rfl, ?_⟩) ?_ ?_
              rotate_left
              ·intro w'
               go_simp
               with_reducible rfl
              rotate_left
              ·simp only [Act.put, List.setIfInBounds_toArray, List.set_cons_zero, List.set_cons_succ, i64_w, i32_w]
               rfl
              refine pure_ (i := 10) (N := some 47) (v := ?_) (a' := ?_) #[true, true, true, true, true, true, true, false, true, true, true, false, false, false, false, false, false, false] rfl rfl (any_of HT_.out (by kernel_rfl)) (fun _ _ _ h => h) (Or.inl ⟨by rfl, ?_⟩) ?_ ?_
              rotate_left
              ·intro w'
               go_simp
               with_reducible rfl
              rotate_left
              ·simp only [Act.put, List.setIfInBounds_toArray, List.set_cons_zero, List.set_cons_succ, i64_w, i32_w]
               rfl
              refine pure_ (i := 11) (N := some 48) (v := ?_) (a' := ?_) #[true, true, true, true, true, true, true, false, true, true, true, true, false, false, false, false, false, false] rfl rfl (any_of HT_.out (by kernel_rfl)) (fun _ _ _ h => h) (Or.inl ⟨by rfl, ?_⟩) ?_ ?_
              rotate_left
              ·intro w'
               go_simp
               with_reducible rfl
              rotate_left
              ·simp only [Act.put, List.setIfInBounds_toArray, List.set_cons_zero, List.set_cons_succ, i64_w, i32_w]
               rfl
              refine pure_ (i := 12) (N := some 49) (v := ?_) (a' := ?_) #[true, true, true, true, true, true, true, false, true, true, true, true, true, false, false, false, false, false] rfl rfl (any_of HT_.out (by kernel_rfl)) (fun _ _ _ h => h) (Or.inl ⟨by rfl, ?_⟩) ?_ ?_
              rotate_left
              ·intro w'
               go_simp
               with_reducible rfl
              rotate_left
              ·simp only [Act.put, List.setIfInBounds_toArray, List.set_cons_zero, List.set_cons_succ, i64_w, i32_w]
               rfl
              refine pure_ (i := 13) (N := some 50) (v := ?_) (a' := ?_) #[true, true, true, true, true, true, true, false, true, true, true, true, true, true, false, false, false, false] rfl rfl (any_of HT_.out (by kernel_rfl)) (fun _ _ _ h => h) (Or.inl ⟨by rfl, ?_⟩) ?_ ?_
              rotate_left
              ·intro w'
               go_simp
               with_reducible rfl
              rotate_left
              ·simp only [Act.put, List.setIfInBounds_toArray, List.set_cons_zero, List.set_cons_succ, i64_w, i32_w]
               rfl
              refine pure_ (i := 14) (N := some 51) (v := ?_) (a' := ?_) #[true, true, true, true, true, true, true, false, true, true, true, true, true, true, true, false, false, false] rfl rfl (any_of HT_.out (by kernel_rfl)) (fun _ _ _ h => h) (Or.inl ⟨by rfl, ?_⟩) ?_ ?_
              rotate_left
              ·intro w'
               go_simp
               with_reducible rfl
              rotate_left
              ·simp only [Act.put, List.setIfInBounds_toArray, List.set_cons_zero, List.set_cons_succ, i64_w, i32_w]
               rfl
              refine take_ (i := 7) (N := some 44) (v := ?_) (a' := ?_) #[true, true, true, true, true, true, true, true, true, true, true, true, true, true, true, false, false, false] rfl rfl (take_ofW HT_.out HW_.out (by kernel_rfl)) (fun _ _ _ h => h) (Or.inl ⟨by rfl, ?_⟩) hHeld ?_ ?_
              rotate_left
              ·rintro w' ⟨s0, s1, s2⟩
               go_simp
               with_reducible rfl
              rotate_left
              ·simp only [Act.put, List.setIfInBounds_toArray, List.set_cons_zero, List.set_cons_succ, i64_w, i32_w]
               rfl
              refine one_ (i := 15) (N := some 52) #[true, true, true, true, true, true, true, true, true, true, true, true, true, true, true, true, false, false] rfl rfl (one_of HT_.out (by kernel_rfl)) (by decide) (fun K hK => ?_)
              refine goes_ Try.func29 (by kernel_rfl) rfl #[.agg #[.string t401, .slice Ao15 t402.length co15, .slice Ao16 t405.length co16], .string (a0.extract (x34_2 : Int).toNat ((wrap64 ((wrap64 (x34_2 + x12_3)) + 1)) : Int).toNat)] (by rfl) rfl rfl (by (try simp only [List.map_toArray, List.map_cons, List.map_nil]); first | done | rfl | (simp only [List.length_drop, List.length_take]; rfl)) ?_
              with_reducible refine (find_Index_Count.calls t401 _ _ t402 _ _ t405 (a0.extract (x34_2 : Int).toNat ((wrap64 ((wrap64 (x34_2 + x12_3)) + 1)) : Int).toNat) t410 _ ?side1 ?side2 ?side3 ?side4 A24.out).mono ?_
              (case side1 => repeat (first | exact (Kd.R_reads' HO_410001.out).2.2 | (with_reducible refine Kd.C_alloc ?_ _) | (with_reducible refine Kd.C_drewN ?_ _) | (with_reducible refine Kd.C_drew ?_)))
              (case side2 => exact (Kd.R_reads' HO_410001.out).2.1)
              (case side3 => repeat (first | exact (Kd.R_reads' HO_410002.out).2.2 | (with_reducible refine Kd.C_alloc ?_ _) | (with_reducible refine Kd.C_drewN ?_ _) | (with_reducible refine Kd.C_drew ?_)))
              (case side4 => exact (Kd.R_reads' HO_410002.out).2.1)
              rintro e w27 ⟨rfl, hb⟩
              refine ⟨_, rfl, ?_⟩
              have n0_ := Aside0.mk (Kd.R_below (by (with_reducible repeat (first | apply Kd.R_alloc | apply Kd.R_drewN | apply Kd.R_drew)); exact HO_401001.out) hb)
              have n1_ := Aside0.mk (Kd.R_below (by (with_reducible repeat (first | apply Kd.R_alloc | apply Kd.R_drewN | apply Kd.R_drew)); exact HO_401002.out) hb)
              have n2_ := Aside0.mk (Kd.R_below (by (with_reducible repeat (first | apply Kd.R_alloc | apply Kd.R_drewN | apply Kd.R_drew)); exact HO_410001.out) hb)
              have n3_ := Aside0.mk (Kd.R_below (by (with_reducible repeat (first | apply Kd.R_alloc | apply Kd.R_drewN | apply Kd.R_drew)); exact HO_410002.out) hb)
              have n4_ := Aside0.mk (blk_below (g := gb400) (o := .cells #[.string t392, .slice Ao9 t393.length co9, .slice Ao10 t396.length co10] 24 (0, 0)) (by (with_reducible repeat (first | refine blk_drewN ?_ _ | refine blk_drew ?_ | refine blk_alloc ?_ _)); exact BK400.out) hb)
              have n5_ := Aside0.mk (blk_below (g := gb409) (o := .cells #[.string t401, .slice Ao15 t402.length co15, .slice Ao16 t405.length co16] 24 (0, 0)) (by (with_reducible repeat (first | refine blk_drewN ?_ _ | refine blk_drew ?_ | refine blk_alloc ?_ _)); exact BK409.out) hb)
              have n6_ := Aside0.mk (below_step (by repeat (first | (with_reducible first | exact HB.out | apply below_alloc | apply pw_below_drewN | apply below_drew1 | refine below_set ?_ GE400.out | refine below_set ?_ GE409.out) | exact HB.out)) hb)
              clear HO_401001
              clear HO_401002
              clear HO_410001
              clear HO_410002
              clear BK400
              clear BK409
              clear HB
              have HO_401001 := n0_
              have HO_401002 := n1_
              have HO_410001 := n2_
              have HO_410002 := n3_
              have BK400 := n4_
              have BK409 := n5_
              have HB := n6_
              clear n0_ n1_ n2_ n3_ n4_ n5_ n6_
              (try clear hb)
              (try clear hb2)
              (try clear hk)
              (try clear hi)
              refine hK.out _ _ ⟨(blk_cell BK409.out 0).trans rfl, (blk_cell BK409.out 1).trans rfl, (blk_cell BK409.out 2).trans rfl⟩ (fun hHeld => ?_)
              clear hK K
              refine norm_ (a' := ?_) ?_ ?_
              rotate_left
              ·show Act.put _ (some 52) _ = _
               simp only [Act.put, List.setIfInBounds_toArray, List.set_cons_zero, List.set_cons_succ, i64_w, i32_w]
               rfl
              refine pure_ (i := 16) (N := some 53) (v := ?_) (a' := ?_) #[true, true, true, true, true, true, true, true, true, true, true, true, true, true, true, true, true, false] rfl rfl (any_of HT_.out (by kernel_rfl)) (fun _ _ _ h => h) (Or.inl ⟨by rfl, ?_⟩) ?_ ?_
              rotate_left
              ·intro w'
               go_simp
               with_reducible rfl
              rotate_left
              ·simp only [Act.put, List.setIfInBounds_toArray, List.set_cons_zero, List.set_cons_succ, i64_w, i32_w]
               rfl
              refine pure_ (i := 17) (N := some 54) (v := ?_) (a' := ?_) #[true, true, true, true, true, true, true, true, true, true, true, true, true, true, true, true, true, true] rfl rfl (any_of HT_.out (by kernel_rfl)) (fun _ _ _ h => h) (Or.inl ⟨by rfl, ?_⟩) ?_ ?_
              rotate_left
              ·intro w'
               go_simp
               with_reducible rfl
              rotate_left
              ·simp only [Act.put, List.setIfInBounds_toArray, List.set_cons_zero, List.set_cons_succ, i64_w, i32_w]
               rfl
              refine done_ (done_of HT_.out (by kernel_rfl)) ?_
              try go_wp2
              go_roundg k3
              case measure => have := HJ4.out; have := HK2.out; have := HK3.out; omega
              case rel => exact ⟨(wrap64 (x12_3 + 1)), (x34_2), (by first | rfl | (simp; done) | (simp [*]; done)), (by first | rfl | (simp; done) | (simp [*]; done)), H', ⟨by have := HJ4.out; have := HK2.out; have := HK3.out; omega⟩, ⟨by (with_reducible repeat (first | apply Kd.R_alloc | apply Kd.R_drewN | apply Kd.R_drew)); exact HO_401001.out⟩, ⟨by (with_reducible repeat (first | apply Kd.R_alloc | apply Kd.R_drewN | apply Kd.R_drew)); exact HO_401002.out⟩, ⟨by (with_reducible repeat (first | apply Kd.R_alloc | apply Kd.R_drewN | apply Kd.R_drew)); exact HO_410001.out⟩, ⟨by (with_reducible repeat (first | apply Kd.R_alloc | apply Kd.R_drewN | apply Kd.R_drew)); exact HO_410002.out⟩, ⟨by (with_reducible repeat (first | refine blk_drewN ?_ _ | refine blk_drew ?_ | refine blk_alloc ?_ _)); exact BK400.out⟩, ⟨by (with_reducible repeat (first | refine blk_drewN ?_ _ | refine blk_drew ?_ | refine blk_alloc ?_ _)); exact BK409.out⟩, ⟨by repeat (first | (with_reducible first | exact HB.out | apply below_alloc | apply pw_below_drewN | apply below_drew1 | refine below_set ?_ GE400.out | refine below_set ?_ GE409.out) | exact HB.out)⟩⟩
             ·rw [if_neg c25] at H
              have c25b0 : decide (0 < t410) = false := decide_eq_false c25
              clear c25
              have H' := Aside0.mk H
              clear H
              try go_wp2
              have n0_ := Aside0.mk (Kd.R_drew HO_401001.out)
              have n1_ := Aside0.mk (Kd.R_drew HO_401002.out)
              have n2_ := Aside0.mk (Kd.R_drew HO_410001.out)
              have n3_ := Aside0.mk (Kd.R_drew HO_410002.out)
              have n4_ := Aside0.mk (blk_drew BK400.out)
              have n5_ := Aside0.mk (blk_drew BK409.out)
              have n6_ := Aside0.mk (below_drew1 HB.out)
              clear HO_401001
              clear HO_401002
              clear HO_410001
              clear HO_410002
              clear BK400
              clear BK409
              clear HB
              have HO_401001 := n0_
              have HO_401002 := n1_
              have HO_410001 := n2_
              have HO_410002 := n3_
              have BK400 := n4_
              have BK409 := n5_
              have HB := n6_
              clear n0_ n1_ n2_ n3_ n4_ n5_ n6_
              refine start_ (n := 18) (S := fun w' => w'.cell? ⟨gb409, 0, none⟩ = some (.string t401) ∧ w'.cell? ⟨gb409, 1, none⟩ = some (.slice Ao15 t402.length co15) ∧ w'.cell? ⟨gb409, 2, none⟩ = some (.slice Ao16 t405.length co16)) (ds := []) #[false, false, false, false, false, false, false, false, false, false, false, false, false, false, false, false, false, false] (by kernel_rfl) rfl rfl ⟨(blk_cell BK409.out 0).trans rfl, (blk_cell BK409.out 1).trans rfl, (blk_cell BK409.out 2).trans rfl⟩ (fun hHeld => ?_); refine with_tabW find_Common.tab9 find_Common.bits9 (fun HT_ HW_ => ?_)
              generalize wr.drew = w28 at HO_401001 HO_401002 HO_410001 HO_410002 BK400 BK409 HB hHeld ⊢
              refine pure_ (i := 0) (N := some 37) (v := ?_) (a' := ?_) #[true, false, false, false, false, false, false, false, false, false, false, false, false, false, false, false, false, false] rfl rfl (any_of HT_.out (by kernel_rfl)) (fun _ _ _ h => h) (Or.inl ⟨by rfl, ?_⟩) ?_ ?_
              rotate_left
              ·intro w'
               go_simp
               with_reducible rfl
              rotate_left
              ·simp only [Act.put, List.setIfInBounds_toArray, List.set_cons_zero, List.set_cons_succ, i64_w, i32_w]
               rfl
              refine pure_ (i := 1) (N := some 38) (v := ?_) (a' := ?_) #[true, true, false, false, false, false, false, false, false, false, false, false, false, false, false, false, false, false] rfl rfl (any_of HT_.out (by kernel_rfl)) (fun _ _ _ h => h) (Or.inl ⟨by rfl, ?_⟩) ?_ ?_
              rotate_left
              ·intro w'
               go_simp
               with_reducible rfl
              rotate_left
              ·simp only [Act.put, List.setIfInBounds_toArray, List.set_cons_zero, List.set_cons_succ, i64_w, i32_w]
               rfl
              refine pure_ (i := 2) (N := some 39) (v := ?_) (a' := ?_) #[true, true, true, false, false, false, false, false, false, false, false, false, false, false, false, false, false, false] rfl rfl (any_of HT_.out (by kernel_rfl)) (fun _ _ _ h => h) (Or.inl ⟨by rfl, ?_⟩) ?_ ?_
              rotate_left
              ·intro w'
               go_simp
               with_reducible rfl
              rotate_left
              ·simp only [Act.put, List.setIfInBounds_toArray, List.set_cons_zero, List.set_cons_succ, i64_w, i32_w]
               rfl
              refine pure_ (i := 3) (N := some 40) (v := ?_) (a' := ?_) #[true, true, true, true, false, false, false, false, false, false, false, false, false, false, false, false, false, false] rfl rfl (any_of HT_.out (by kernel_rfl)) (fun _ _ _ h => h) (Or.inl ⟨by rfl, ?_⟩) ?_ ?_
              rotate_left
              ·intro w'
               go_simp
               with_reducible rfl
              rotate_left
              ·simp only [Act.put, List.setIfInBounds_toArray, List.set_cons_zero, List.set_cons_succ, i64_w, i32_w]
               rfl
              refine pure_ (i := 4) (N := some 41) (v := ?_) (a' := ?_) #[true, true, true, true, true, false, false, false, false, false, false, false, false, false, false, false, false, false] rfl rfl (any_of HT_.out (by kernel_rfl)) (fun _ _ _ h => h) (Or.inl ⟨by rfl, ?_⟩) ?_ ?_
              rotate_left
              ·intro w'
               go_simp
               with_reducible rfl
              rotate_left
              ·simp only [Act.put, List.setIfInBounds_toArray, List.set_cons_zero, List.set_cons_succ, i64_w, i32_w]
               rfl
              refine pure_ (i := 5) (N := some 42) (v := ?_) (a' := ?_) #[true, true, true, true, true, true, false, false, false, false, false, false, false, false, false, false, false, false] rfl rfl (any_of HT_.out (by kernel_rfl)) (fun _ _ _ h => h) (Or.inl ⟨by rfl, ?_⟩) ?_ ?_
              rotate_left
              ·intro w'
               go_simp
               with_reducible rfl
              rotate_left
              ·simp only [Act.put, List.setIfInBounds_toArray, List.set_cons_zero, List.set_cons_succ, i64_w, i32_w]
               rfl
              refine pure_ (i := 6) (N := some 43) (v := ?_) (a' := ?_) #[true, true, true, true, true, true, true, false, false, false, false, false, false, false, false, false, false, false] rfl rfl (any_of HT_.out (by kernel_rfl)) (fun _ _ _ h => h) (Or.inl ⟨by rfl, ?_⟩) ?_ ?_
              rotate_left
              ·intro w'
               go_simp
               with_reducible rfl
              rotate_left
              ·simp only [Act.put, List.setIfInBounds_toArray, List.set_cons_zero, List.set_cons_succ, i64_w, i32_w]
               rfl
              refine pure_ (i := 8) (N := some 45) (v := ?_) (a' := ?_) #[true, true, true, true, true, true, true, false, true, false, false, false, false, false, false, false, false, false] rfl rfl (any_of HT_.out (by kernel_rfl)) (fun _ _ _ h => h) (Or.inl ⟨by rfl, ?_⟩) ?_ ?_
              rotate_left
              ·intro w'
               go_simp
               with_reducible rfl
              rotate_left
              ·simp only [Act.put, List.setIfInBounds_toArray, List.set_cons_zero, List.set_cons_succ, i64_w, i32_w]
               rfl
              refine pure_ (i := 9) (N := some 46) (v := ?_) (a' := ?_) #[true, true, true, true, true, true, true, false, true, true, false, false, false, false, false, false, false, false] rfl rfl (any_of HT_.out (by kernel_rfl)) (fun _ _ _ h => h) (Or.inl ⟨by rfl, ?_⟩) ?_ ?_
              rotate_left
              ·intro w'
               go_simp
               with_reducible rfl
              rotate_left
              ·simp only [Act.put, List.setIfInBounds_toArray, List.set_cons_zero, List.set_cons_succ, i64_w, i32_w]
               rfl
              refine pure_ (i := 10) (N := some 47) (v := ?_) (a' := ?_) #[true, true, true, true, true, true, true, false, true, true, true, false, false, false, false, false, false, false] rfl rfl (any_of HT_.out (by kernel_rfl)) (fun _ _ _ h => h) (Or.inl ⟨by rfl, ?_⟩) ?_ ?_
              rotate_left
              ·intro w'
               go_simp
               with_reducible rfl
              rotate_left
              ·simp only [Act.put, List.setIfInBounds_toArray, List.set_cons_zero, List.set_cons_succ, i64_w, i32_w]
               rfl
              refine pure_ (i := 11) (N := some 48) (v := ?_) (a' := ?_) #[true, true, true, true, true, true, true, false, true, true, true, true, false, false, false, false, false, false] rfl rfl (any_of HT_.out (by kernel_rfl)) (fun _ _ _ h => h) (Or.inl ⟨by rfl, ?_⟩) ?_ ?_
              rotate_left
              ·intro w'
               go_simp
               with_reducible rfl
              rotate_left
              ·simp only [Act.put, List.setIfInBounds_toArray, List.set_cons_zero, List.set_cons_succ, i64_w, i32_w]
               rfl
              refine pure_ (i := 12) (N := some 49) (v := ?_) (a' := ?_) #[true, true, true, true, true, true, true, false, true, true, true, true, true, false, false, false, false, false] rfl rfl (any_of HT_.out (by kernel_rfl)) (fun _ _ _ h => h) (Or.inl ⟨by rfl, ?_⟩) ?_ ?_
              rotate_left
              ·intro w'
               go_simp
               with_reducible rfl
              rotate_left
              ·simp only [Act.put, List.setIfInBounds_toArray, List.set_cons_zero, List.set_cons_succ, i64_w, i32_w]
               rfl
              refine pure_ (i := 13) (N := some 50) (v := ?_) (a' := ?_) #[true, true, true, true, true, true, true, false, true, true, true, true, true, true, false, false, false, false] rfl rfl (any_of HT_.out (by kernel_rfl)) (fun _ _ _ h => h) (Or.inl ⟨by rfl, ?_⟩) ?_ ?_
              rotate_left
              ·intro w'
               go_simp
               with_reducible rfl
              rotate_left
              ·simp only [Act.put, List.setIfInBounds_toArray, List.set_cons_zero, List.set_cons_succ, i64_w, i32_w]
               rfl
              refine pure_ (i := 14) (N := some 51) (v := ?_) (a' := ?_) #[true, true, true, true, true, true, true, false, true, true, true, true, true, true, true, false, false, false] rfl rfl (any_of HT_.out (by kernel_rfl)) (fun _ _ _ h => h) (Or.inl ⟨by rfl, ?_⟩) ?_ ?_
              rotate_left
              ·intro w'
               go_simp
               with_reducible rfl
              rotate_left
              ·simp only [Act.put, List.setIfInBounds_toArray, List.set_cons_zero, List.set_cons_succ, i64_w, i32_w]
               rfl
              refine take_ (i := 7) (N := some 44) (v := ?_) (a' := ?_) #[true, true, true, true, true, true, true, true, true, true, true, true, true, true, true, false, false, false] rfl rfl (take_ofW HT_.out HW_.out (by kernel_rfl)) (fun _ _ _ h => h) (Or.inl ⟨by rfl, ?_⟩) hHeld ?_ ?_
              rotate_left
              ·rintro w' ⟨s0, s1, s2⟩
               go_simp
               with_reducible rfl
              rotate_left
              ·simp only [Act.put, List.setIfInBounds_toArray, List.set_cons_zero, List.set_cons_succ, i64_w, i32_w]
               rfl
              refine one_ (i := 15) (N := some 52) #[true, true, true, true, true, true, true, true, true, true, true, true, true, true, true, true, false, false] rfl rfl (one_of HT_.out (by kernel_rfl)) (by decide) (fun K hK => ?_)
              refine goes_ Try.func29 (by kernel_rfl) rfl #[.agg #[.string t401, .slice Ao15 t402.length co15, .slice Ao16 t405.length co16], .string (a0.extract (x34_2 : Int).toNat ((wrap64 ((wrap64 (x34_2 + x12_3)) + 1)) : Int).toNat)] (by rfl) rfl rfl (by (try simp only [List.map_toArray, List.map_cons, List.map_nil]); first | done | rfl | (simp only [List.length_drop, List.length_take]; rfl)) ?_
              with_reducible refine (find_Index_Count.calls t401 _ _ t402 _ _ t405 (a0.extract (x34_2 : Int).toNat ((wrap64 ((wrap64 (x34_2 + x12_3)) + 1)) : Int).toNat) t410 _ ?side1 ?side2 ?side3 ?side4 A24.out).mono ?_
              (case side1 => repeat (first | exact (Kd.R_reads' HO_410001.out).2.2 | (with_reducible refine Kd.C_alloc ?_ _) | (with_reducible refine Kd.C_drewN ?_ _) | (with_reducible refine Kd.C_drew ?_)))
              (case side2 => exact (Kd.R_reads' HO_410001.out).2.1)
              (case side3 => repeat (first | exact (Kd.R_reads' HO_410002.out).2.2 | (with_reducible refine Kd.C_alloc ?_ _) | (with_reducible refine Kd.C_drewN ?_ _) | (with_reducible refine Kd.C_drew ?_)))
              (case side4 => exact (Kd.R_reads' HO_410002.out).2.1)
              rintro e w29 ⟨rfl, hb⟩
              refine ⟨_, rfl, ?_⟩
              have n0_ := Aside0.mk (Kd.R_below (by (with_reducible repeat (first | apply Kd.R_alloc | apply Kd.R_drewN | apply Kd.R_drew)); exact HO_401001.out) hb)
              have n1_ := Aside0.mk (Kd.R_below (by (with_reducible repeat (first | apply Kd.R_alloc | apply Kd.R_drewN | apply Kd.R_drew)); exact HO_401002.out) hb)
              have n2_ := Aside0.mk (Kd.R_below (by (with_reducible repeat (first | apply Kd.R_alloc | apply Kd.R_drewN | apply Kd.R_drew)); exact HO_410001.out) hb)
              have n3_ := Aside0.mk (Kd.R_below (by (with_reducible repeat (first | apply Kd.R_alloc | apply Kd.R_drewN | apply Kd.R_drew)); exact HO_410002.out) hb)
              have n4_ := Aside0.mk (blk_below (g := gb400) (o := .cells #[.string t392, .slice Ao9 t393.length co9, .slice Ao10 t396.length co10] 24 (0, 0)) (by (with_reducible repeat (first | refine blk_drewN ?_ _ | refine blk_drew ?_ | refine blk_alloc ?_ _)); exact BK400.out) hb)
              have n5_ := Aside0.mk (blk_below (g := gb409) (o := .cells #[.string t401, .slice Ao15 t402.length co15, .slice Ao16 t405.length co16] 24 (0, 0)) (by (with_reducible repeat (first | refine blk_drewN ?_ _ | refine blk_drew ?_ | refine blk_alloc ?_ _)); exact BK409.out) hb)
              have n6_ := Aside0.mk (below_step (by repeat (first | (with_reducible first | exact HB.out | apply below_alloc | apply pw_below_drewN | apply below_drew1 | refine below_set ?_ GE400.out | refine below_set ?_ GE409.out) | exact HB.out)) hb)
              clear HO_401001
              clear HO_401002
              clear HO_410001
              clear HO_410002
              clear BK400
              clear BK409
              clear HB
              have HO_401001 := n0_
              have HO_401002 := n1_
              have HO_410001 := n2_
              have HO_410002 := n3_
              have BK400 := n4_
              have BK409 := n5_
              have HB := n6_
              clear n0_ n1_ n2_ n3_ n4_ n5_ n6_
              (try clear hb)
              (try clear hb2)
              (try clear hk)
              (try clear hi)
              refine hK.out _ _ ⟨(blk_cell BK409.out 0).trans rfl, (blk_cell BK409.out 1).trans rfl, (blk_cell BK409.out 2).trans rfl⟩ (fun hHeld => ?_)
              clear hK K
              refine norm_ (a' := ?_) ?_ ?_
              rotate_left
              ·show Act.put _ (some 52) _ = _
               simp only [Act.put, List.setIfInBounds_toArray, List.set_cons_zero, List.set_cons_succ, i64_w, i32_w]
               rfl
              refine pure_ (i := 16) (N := some 53) (v := ?_) (a' := ?_) #[true, true, true, true, true, true, true, true, true, true, true, true, true, true, true, true, true, false] rfl rfl (any_of HT_.out (by kernel_rfl)) (fun _ _ _ h => h) (Or.inl ⟨by rfl, ?_⟩) ?_ ?_
              rotate_left
              ·intro w'
               go_simp
               with_reducible rfl
              rotate_left
              ·simp only [Act.put, List.setIfInBounds_toArray, List.set_cons_zero, List.set_cons_succ, i64_w, i32_w]
               rfl
              refine pure_ (i := 17) (N := some 54) (v := ?_) (a' := ?_) #[true, true, true, true, true, true, true, true, true, true, true, true, true, true, true, true, true, true] rfl rfl (any_of HT_.out (by kernel_rfl)) (fun _ _ _ h => h) (Or.inl ⟨by rfl, ?_⟩) ?_ ?_
              rotate_left
              ·intro w'
               go_simp
               with_reducible rfl
              rotate_left
              ·simp only [Act.put, List.setIfInBounds_toArray, List.set_cons_zero, List.set_cons_succ, i64_w, i32_w]
               rfl
              refine done_ (done_of HT_.out (by kernel_rfl)) ?_
              try go_wp2
              go_roundg k3
              case measure => have := HJ4.out; have := HK2.out; have := HK3.out; omega
              case rel => exact ⟨(x12_3), (x13_3), (wrap64 (x34_2 + 1)), (by first | rfl | (simp; done) | (simp [*]; done)), (by first | rfl | (simp; done) | (simp [*]; done)), (by first | rfl | (simp; done) | (simp [*]; done)), H', ⟨by have := HJ4.out; have := HK2.out; have := HK3.out; omega⟩, ⟨by (with_reducible repeat (first | apply Kd.R_alloc | apply Kd.R_drewN | apply Kd.R_drew)); exact HO_401001.out⟩, ⟨by (with_reducible repeat (first | apply Kd.R_alloc | apply Kd.R_drewN | apply Kd.R_drew)); exact HO_401002.out⟩, ⟨by (with_reducible repeat (first | apply Kd.R_alloc | apply Kd.R_drewN | apply Kd.R_drew)); exact HO_410001.out⟩, ⟨by (with_reducible repeat (first | apply Kd.R_alloc | apply Kd.R_drewN | apply Kd.R_drew)); exact HO_410002.out⟩, ⟨by (with_reducible repeat (first | refine blk_drewN ?_ _ | refine blk_drew ?_ | refine blk_alloc ?_ _)); exact BK400.out⟩, ⟨by (with_reducible repeat (first | refine blk_drewN ?_ _ | refine blk_drew ?_ | refine blk_alloc ?_ _)); exact BK409.out⟩, ⟨by repeat (first | (with_reducible first | exact HB.out | apply below_alloc | apply pw_below_drewN | apply below_drew1 | refine below_set ?_ GE400.out | refine below_set ?_ GE409.out) | exact HB.out)⟩⟩
            ·rw [if_neg c23] at H
             exact absurd H (by simp)
           ·rw [if_neg c22] at H
            exact absurd H (by simp)
          ·rw [if_neg c21] at H
           exact absurd H (by simp)
         ·rw [if_neg c20] at H
          have c20b0 : decide ((wrap64 (x34_2 + x12_3)) < (a0.size : Int)) = false := decide_eq_false c20
          clear c20
          have H' := Aside0.mk H
          clear H
          try go_wp2
          have n0_ := Aside0.mk (Kd.R_drew HO_401001.out)
          have n1_ := Aside0.mk (Kd.R_drew HO_401002.out)
          have n2_ := Aside0.mk (Kd.R_drew HO_410001.out)
          have n3_ := Aside0.mk (Kd.R_drew HO_410002.out)
          have n4_ := Aside0.mk (blk_drew BK400.out)
          have n5_ := Aside0.mk (blk_drew BK409.out)
          have n6_ := Aside0.mk (below_drew1 HB.out)
          clear HO_401001
          clear HO_401002
          clear HO_410001
          clear HO_410002
          clear BK400
          clear BK409
          clear HB
          have HO_401001 := n0_
          have HO_401002 := n1_
          have HO_410001 := n2_
          have HO_410002 := n3_
          have BK400 := n4_
          have BK409 := n5_
          have HB := n6_
          clear n0_ n1_ n2_ n3_ n4_ n5_ n6_
          refine start_ (n := 18) (S := fun w' => True) (ds := []) #[false, false, false, false, false, false, false, false, false, false, false, false, false, false, false, false, false, false] (by kernel_rfl) rfl rfl trivial (fun hHeld => ?_); refine with_tabW find_Common.tab9 find_Common.bits9 (fun HT_ HW_ => ?_)
          generalize wr.drew = w30 at HO_401001 HO_401002 HO_410001 HO_410002 BK400 BK409 HB hHeld ⊢
          refine pure_ (i := 0) (N := some 37) (v := ?_) (a' := ?_) #[true, false, false, false, false, false, false, false, false, false, false, false, false, false, false, false, false, false] rfl rfl (any_of HT_.out (by kernel_rfl)) (fun _ _ _ h => h) (Or.inl ⟨by rfl, ?_⟩) ?_ ?_
          rotate_left
          ·intro w'
           go_simp
           with_reducible rfl
          rotate_left
          ·simp only [Act.put, List.setIfInBounds_toArray, List.set_cons_zero, List.set_cons_succ, i64_w, i32_w]
           rfl
          refine pure_ (i := 1) (N := some 38) (v := ?_) (a' := ?_) #[true, true, false, false, false, false, false, false, false, false, false, false, false, false, false, false, false, false] rfl rfl (any_of HT_.out (by kernel_rfl)) (fun _ _ _ h => h) (Or.inl ⟨by rfl, ?_⟩) ?_ ?_
          rotate_left
          ·intro w'
           go_simp
           with_reducible rfl
          rotate_left
          ·simp only [Act.put, List.setIfInBounds_toArray, List.set_cons_zero, List.set_cons_succ, i64_w, i32_w]
           rfl
          refine pure_ (i := 2) (N := some 39) (v := ?_) (a' := ?_) #[true, true, true, false, false, false, false, false, false, false, false, false, false, false, false, false, false, false] rfl rfl (any_of HT_.out (by kernel_rfl)) (fun _ _ _ h => h) (Or.inl ⟨by rfl, ?_⟩) ?_ ?_
          rotate_left
          ·intro w'
           go_simp
           with_reducible rfl
          rotate_left
          ·simp only [Act.put, List.setIfInBounds_toArray, List.set_cons_zero, List.set_cons_succ, i64_w, i32_w]
           rfl
          refine pure_ (i := 3) (N := some 40) (v := ?_) (a' := ?_) #[true, true, true, true, false, false, false, false, false, false, false, false, false, false, false, false, false, false] rfl rfl (any_of HT_.out (by kernel_rfl)) (fun _ _ _ h => h) (Or.inl ⟨by rfl, ?_⟩) ?_ ?_
          rotate_left
          ·intro w'
           go_simp
           with_reducible rfl
          rotate_left
          ·simp only [Act.put, List.setIfInBounds_toArray, List.set_cons_zero, List.set_cons_succ, i64_w, i32_w]
           rfl
          refine pure_ (i := 4) (N := some 41) (v := ?_) (a' := ?_) #[true, true, true, true, true, false, false, false, false, false, false, false, false, false, false, false, false, false] rfl rfl (any_of HT_.out (by kernel_rfl)) (fun _ _ _ h => h) (Or.inl ⟨by rfl, ?_⟩) ?_ ?_
          rotate_left
          ·intro w'
           go_simp
           with_reducible rfl
          rotate_left
          ·simp only [Act.put, List.setIfInBounds_toArray, List.set_cons_zero, List.set_cons_succ, i64_w, i32_w]
           rfl
          refine pure_ (i := 5) (N := some 42) (v := ?_) (a' := ?_) #[true, true, true, true, true, true, false, false, false, false, false, false, false, false, false, false, false, false] rfl rfl (any_of HT_.out (by kernel_rfl)) (fun _ _ _ h => h) (Or.inl ⟨by rfl, ?_⟩) ?_ ?_
          rotate_left
          ·intro w'
           go_simp
           with_reducible rfl
          rotate_left
          ·simp only [Act.put, List.setIfInBounds_toArray, List.set_cons_zero, List.set_cons_succ, i64_w, i32_w]
           rfl
          refine pure_ (i := 6) (N := some 43) (v := ?_) (a' := ?_) #[true, true, true, true, true, true, true, false, false, false, false, false, false, false, false, false, false, false] rfl rfl (any_of HT_.out (by kernel_rfl)) (fun _ _ _ h => h) (Or.inl ⟨by rfl, ?_⟩) ?_ ?_
          rotate_left
          ·intro w'
           go_simp
           with_reducible rfl
          rotate_left
          ·simp only [Act.put, List.setIfInBounds_toArray, List.set_cons_zero, List.set_cons_succ, i64_w, i32_w]
           rfl
          refine pure_ (i := 7) (N := some 44) (v := undef) (a' := ?_) #[true, true, true, true, true, true, true, true, false, false, false, false, false, false, false, false, false, false] rfl rfl (any_of HT_.out (by kernel_rfl)) (fun _ _ _ h => h) (Or.inr ⟨by rfl, rfl⟩) ?_ ?_
          rotate_left
          ·simp only [Act.put, List.setIfInBounds_toArray, List.set_cons_zero, List.set_cons_succ, i64_w, i32_w]
           rfl
          refine pure_ (i := 8) (N := some 45) (v := undef) (a' := ?_) #[true, true, true, true, true, true, true, true, true, false, false, false, false, false, false, false, false, false] rfl rfl (any_of HT_.out (by kernel_rfl)) (fun _ _ _ h => h) (Or.inr ⟨by rfl, rfl⟩) ?_ ?_
          rotate_left
          ·simp only [Act.put, List.setIfInBounds_toArray, List.set_cons_zero, List.set_cons_succ, i64_w, i32_w]
           rfl
          refine pure_ (i := 9) (N := some 46) (v := undef) (a' := ?_) #[true, true, true, true, true, true, true, true, true, true, false, false, false, false, false, false, false, false] rfl rfl (any_of HT_.out (by kernel_rfl)) (fun _ _ _ h => h) (Or.inr ⟨by rfl, rfl⟩) ?_ ?_
          rotate_left
          ·simp only [Act.put, List.setIfInBounds_toArray, List.set_cons_zero, List.set_cons_succ, i64_w, i32_w]
           rfl
          refine pure_ (i := 10) (N := some 47) (v := undef) (a' := ?_) #[true, true, true, true, true, true, true, true, true, true, true, false, false, false, false, false, false, false] rfl rfl (any_of HT_.out (by kernel_rfl)) (fun _ _ _ h => h) (Or.inr ⟨by rfl, rfl⟩) ?_ ?_
          rotate_left
          ·simp only [Act.put, List.setIfInBounds_toArray, List.set_cons_zero, List.set_cons_succ, i64_w, i32_w]
           rfl
          refine pure_ (i := 11) (N := some 48) (v := undef) (a' := ?_) #[true, true, true, true, true, true, true, true, true, true, true, true, false, false, false, false, false, false] rfl rfl (any_of HT_.out (by kernel_rfl)) (fun _ _ _ h => h) (Or.inr ⟨by rfl, rfl⟩) ?_ ?_
          rotate_left
          ·simp only [Act.put, List.setIfInBounds_toArray, List.set_cons_zero, List.set_cons_succ, i64_w, i32_w]
           rfl
          refine pure_ (i := 12) (N := some 49) (v := undef) (a' := ?_) #[true, true, true, true, true, true, true, true, true, true, true, true, true, false, false, false, false, false] rfl rfl (any_of HT_.out (by kernel_rfl)) (fun _ _ _ h => h) (Or.inr ⟨by rfl, rfl⟩) ?_ ?_
          rotate_left
          ·simp only [Act.put, List.setIfInBounds_toArray, List.set_cons_zero, List.set_cons_succ, i64_w, i32_w]
           rfl
          refine pure_ (i := 13) (N := some 50) (v := undef) (a' := ?_) #[true, true, true, true, true, true, true, true, true, true, true, true, true, true, false, false, false, false] rfl rfl (any_of HT_.out (by kernel_rfl)) (fun _ _ _ h => h) (Or.inr ⟨by rfl, rfl⟩) ?_ ?_
          rotate_left
          ·simp only [Act.put, List.setIfInBounds_toArray, List.set_cons_zero, List.set_cons_succ, i64_w, i32_w]
           rfl
          refine pure_ (i := 14) (N := some 51) (v := undef) (a' := ?_) #[true, true, true, true, true, true, true, true, true, true, true, true, true, true, true, false, false, false] rfl rfl (any_of HT_.out (by kernel_rfl)) (fun _ _ _ h => h) (Or.inr ⟨by rfl, rfl⟩) ?_ ?_
          rotate_left
          ·simp only [Act.put, List.setIfInBounds_toArray, List.set_cons_zero, List.set_cons_succ, i64_w, i32_w]
           rfl
          refine pure_ (i := 15) (N := some 52) (v := undef) (a' := ?_) #[true, true, true, true, true, true, true, true, true, true, true, true, true, true, true, true, false, false] rfl rfl (any_of HT_.out (by kernel_rfl)) (fun _ _ _ h => h) (Or.inr ⟨by rfl, rfl⟩) ?_ ?_
          rotate_left
          ·simp only [Act.put, List.setIfInBounds_toArray, List.set_cons_zero, List.set_cons_succ, i64_w, i32_w]
           rfl
          refine pure_ (i := 16) (N := some 53) (v := undef) (a' := ?_) #[true, true, true, true, true, true, true, true, true, true, true, true, true, true, true, true, true, false] rfl rfl (any_of HT_.out (by kernel_rfl)) (fun _ _ _ h => h) (Or.inr ⟨by rfl, rfl⟩) ?_ ?_
          rotate_left
          ·simp only [Act.put, List.setIfInBounds_toArray, List.set_cons_zero, List.set_cons_succ, i64_w, i32_w]
           rfl
          refine pure_ (i := 17) (N := some 54) (v := ?_) (a' := ?_) #[true, true, true, true, true, true, true, true, true, true, true, true, true, true, true, true, true, true] rfl rfl (any_of HT_.out (by kernel_rfl)) (fun _ _ _ h => h) (Or.inl ⟨by rfl, ?_⟩) ?_ ?_
          rotate_left
          ·intro w'
           go_simp
           with_reducible rfl
          rotate_left
          ·simp only [Act.put, List.setIfInBounds_toArray, List.set_cons_zero, List.set_cons_succ, i64_w, i32_w]
           rfl
          refine done_ (done_of HT_.out (by kernel_rfl)) ?_
          try go_wp2
          go_roundg k3
          case measure => have := HJ4.out; have := HK2.out; have := HK3.out; omega
          case rel => exact ⟨(x12_3), (x13_3), (wrap64 (x34_2 + 1)), (by first | rfl | (simp; done) | (simp [*]; done)), (by first | rfl | (simp; done) | (simp [*]; done)), (by first | rfl | (simp; done) | (simp [*]; done)), H', ⟨by have := HJ4.out; have := HK2.out; have := HK3.out; omega⟩, ⟨by (with_reducible repeat (first | apply Kd.R_alloc | apply Kd.R_drewN | apply Kd.R_drew)); exact HO_401001.out⟩, ⟨by (with_reducible repeat (first | apply Kd.R_alloc | apply Kd.R_drewN | apply Kd.R_drew)); exact HO_401002.out⟩, ⟨by (with_reducible repeat (first | apply Kd.R_alloc | apply Kd.R_drewN | apply Kd.R_drew)); exact HO_410001.out⟩, ⟨by (with_reducible repeat (first | apply Kd.R_alloc | apply Kd.R_drewN | apply Kd.R_drew)); exact HO_410002.out⟩, ⟨by (with_reducible repeat (first | refine blk_drewN ?_ _ | refine blk_drew ?_ | refine blk_alloc ?_ _)); exact BK400.out⟩, ⟨by (with_reducible repeat (first | refine blk_drewN ?_ _ | refine blk_drew ?_ | refine blk_alloc ?_ _)); exact BK409.out⟩, ⟨by repeat (first | (with_reducible first | exact HB.out | apply below_alloc | apply pw_below_drewN | apply below_drew1 | refine below_set ?_ GE400.out | refine below_set ?_ GE409.out) | exact HB.out)⟩⟩
      ·rw [if_neg c19] at H
       have c19b0 : decide (x34_2 < (a0.size : Int)) = false := decide_eq_false c19
       clear c19
       by_cases c31 : x12_2 = 0
       ·rw [if_pos c31] at H
        have c31b0 : (x12_2 == 0) = true := beq_iff_eq.mpr c31
        have c31b1 : (x12_2 != 0) = false := bne_eq_false_iff_eq.mpr c31
        clear c31
        simp only [Option.some.injEq, Prod.mk.injEq] at H
        obtain ⟨rfl, rfl, rfl, rfl⟩ := H
        go_wp2
        refine bodyPost_ret (results_list (rs := [.tmp 4, .tmp 5, .tmp 6, .tmp 7]) rfl (by simp) (.tmp (.tmp (.tmp (.tmp .nil))))) rfl ?_
        exact ⟨by first | rfl | (simp [errW_none, errW_some] <;> rfl) | (simp [*, errW_none, errW_some] <;> rfl), by repeat (first | (with_reducible first | exact HB.out | apply below_alloc | apply pw_below_drewN | apply below_drew1 | refine below_set ?_ GE400.out | refine below_set ?_ GE409.out) | exact HB.out)⟩
       ·rw [if_neg c31] at H
        have c31b0 : (x12_2 == 0) = false := beq_eq_false_iff_ne.mpr c31
        have c31b1 : (x12_2 != 0) = true := bne_iff_ne.mpr c31
        by_cases c32 : 0 ≤ x13_2
        ·rw [if_pos c32] at H
         have c32b0 := eq_true c32
         have c32b1 : decide (0 ≤ x13_2) = true := decide_eq_true c32
         clear c32
         by_cases c33 : x13_2 ≤ (wrap64 (x13_2 + x12_2))
         ·rw [if_pos c33] at H
          have c33b0 := eq_true c33
          have c33b1 : decide (x13_2 ≤ (wrap64 (x13_2 + x12_2))) = true := decide_eq_true c33
          by_cases c34 : (wrap64 (x13_2 + x12_2)) ≤ (a0.size : Int)
          ·rw [if_pos c34] at H
           have c34b0 := eq_true c34
           have c34b1 : decide ((wrap64 (x13_2 + x12_2)) ≤ (a0.size : Int)) = true := decide_eq_true c34
           replace H := Option.bind_eq_some_iff.mp H
           obtain ⟨t411, A350, H⟩ := H
           replace H : (if 0 < (t411.length : Int) then ((find_Index_Find.f t401 t402 t405 (a0.extract (x13_2 : Int).toNat ((wrap64 (x13_2 + x12_2)) : Int).toNat)).bind fun t415 => (if 0 < (t415.length : Int) then (some (x12_2, rd t411 0, rd t415 0, 0)) else (none))) else (none)) = some (r1, r2, r3, r4) := H
           have A35 := Aside0.mk A350
           clear A350
           by_cases c36 : 0 < (t411.length : Int)
           ·rw [if_pos c36] at H
            have c36b0 : decide (0 < (t411.length : Int)) = true := decide_eq_true c36
            have c36b1 : decide (0 < t411.length) = true := decide_eq_true (by omega)
            clear c36
            replace H := Option.bind_eq_some_iff.mp H
            obtain ⟨t415, A370, H⟩ := H
            replace H : (if 0 < (t415.length : Int) then (some (x12_2, rd t411 0, rd t415 0, 0)) else (none)) = some (r1, r2, r3, r4) := H
            have A37 := Aside0.mk A370
            clear A370
            by_cases c38 : 0 < (t415.length : Int)
            ·rw [if_pos c38] at H
             have c38b0 : decide (0 < (t415.length : Int)) = true := decide_eq_true c38
             have c38b1 : decide (0 < t415.length) = true := decide_eq_true (by omega)
             clear c38
             simp only [Option.some.injEq, Prod.mk.injEq] at H
             obtain ⟨rfl, rfl, rfl, rfl⟩ := H
             try go_wp2
             have n0_ := Aside0.mk (Kd.R_drew HO_401001.out)
             have n1_ := Aside0.mk (Kd.R_drew HO_401002.out)
             have n2_ := Aside0.mk (Kd.R_drew HO_410001.out)
             have n3_ := Aside0.mk (Kd.R_drew HO_410002.out)
             have n4_ := Aside0.mk (blk_drew BK400.out)
             have n5_ := Aside0.mk (blk_drew BK409.out)
             have n6_ := Aside0.mk (below_drew1 HB.out)
             clear HO_401001
             clear HO_401002
             clear HO_410001
             clear HO_410002
             clear BK400
             clear BK409
             clear HB
             have HO_401001 := n0_
             have HO_401002 := n1_
             have HO_410001 := n2_
             have HO_410002 := n3_
             have BK400 := n4_
             have BK409 := n5_
             have HB := n6_
             clear n0_ n1_ n2_ n3_ n4_ n5_ n6_
             refine start_ (n := 15) (S := fun w' => w'.cell? ⟨gb400, 0, none⟩ = some (.string t392) ∧ w'.cell? ⟨gb400, 1, none⟩ = some (.slice Ao9 t393.length co9) ∧ w'.cell? ⟨gb400, 2, none⟩ = some (.slice Ao10 t396.length co10) ∧ w'.cell? ⟨gb409, 0, none⟩ = some (.string t401) ∧ w'.cell? ⟨gb409, 1, none⟩ = some (.slice Ao15 t402.length co15) ∧ w'.cell? ⟨gb409, 2, none⟩ = some (.slice Ao16 t405.length co16)) (ds := []) #[false, false, false, false, false, false, false, false, false, false, false, false, false, false, false] (by kernel_rfl) rfl rfl ⟨(blk_cell BK400.out 0).trans rfl, (blk_cell BK400.out 1).trans rfl, (blk_cell BK400.out 2).trans rfl, (blk_cell BK409.out 0).trans rfl, (blk_cell BK409.out 1).trans rfl, (blk_cell BK409.out 2).trans rfl⟩ (fun hHeld => ?_); refine with_tabW find_Common.tab16 find_Common.bits16 (fun HT_ HW_ => ?_)
             generalize wr.drew = w39 at HO_401001 HO_401002 HO_410001 HO_410002 BK400 BK409 HB hHeld ⊢
             refine pure_ (i := 0) (N := some 67) (v := ?_) (a' := ?_) #[true, false, false, false, false, false, false, false, false, false, false, false, false, false, false] rfl rfl (any_of HT_.out (by kernel_rfl)) (fun _ _ _ h => h) (Or.inl ⟨by rfl, ?_⟩) ?_ ?_
             rotate_left
             ·intro w'
              go_simp
              with_reducible rfl
             rotate_left
             ·simp only [Act.put, List.setIfInBounds_toArray, List.set_cons_zero, List.set_cons_succ, i64_w, i32_w]
              rfl
             refine pure_ (i := 2) (N := some 69) (v := ?_) (a' := ?_) #[true, false, true, false, false, false, false, false, false, false, false, false, false, false, false] rfl rfl (any_of HT_.out (by kernel_rfl)) (fun _ _ _ h => h) (Or.inl ⟨by rfl, ?_⟩) ?_ ?_
             rotate_left
             ·intro w'
              go_simp
              with_reducible rfl
             rotate_left
             ·simp only [Act.put, List.setIfInBounds_toArray, List.set_cons_zero, List.set_cons_succ, i64_w, i32_w]
              rfl
             refine pure_ (i := 7) (N := some 74) (v := ?_) (a' := ?_) #[true, false, true, false, false, false, false, true, false, false, false, false, false, false, false] rfl rfl (any_of HT_.out (by kernel_rfl)) (fun _ _ _ h => h) (Or.inl ⟨by rfl, ?_⟩) ?_ ?_
             rotate_left
             ·intro w'
              go_simp
              with_reducible rfl
             rotate_left
             ·simp only [Act.put, List.setIfInBounds_toArray, List.set_cons_zero, List.set_cons_succ, i64_w, i32_w]
              rfl
             refine take_ (i := 1) (N := some 68) (v := ?_) (a' := ?_) #[true, true, true, false, false, false, false, true, false, false, false, false, false, false, false] rfl rfl (take_ofW HT_.out HW_.out (by kernel_rfl)) (fun _ _ _ h => h) (Or.inl ⟨by rfl, ?_⟩) hHeld ?_ ?_
             rotate_left
             ·rintro w' ⟨s0, s1, s2, s3, s4, s5⟩
              go_simp
              with_reducible rfl
             rotate_left
             ·simp only [Act.put, List.setIfInBounds_toArray, List.set_cons_zero, List.set_cons_succ, i64_w, i32_w]
              rfl
             refine take_ (i := 6) (N := some 73) (v := ?_) (a' := ?_) #[true, true, true, false, false, false, true, true, false, false, false, false, false, false, false] rfl rfl (take_ofW HT_.out HW_.out (by kernel_rfl)) (fun _ _ _ h => h) (Or.inl ⟨by rfl, ?_⟩) hHeld ?_ ?_
             rotate_left
             ·rintro w' ⟨s0, s1, s2, s3, s4, s5⟩
              go_simp
              with_reducible rfl
             rotate_left
             ·simp only [Act.put, List.setIfInBounds_toArray, List.set_cons_zero, List.set_cons_succ, i64_w, i32_w]
              rfl
             refine one_ (i := 3) (N := some 70) #[true, true, true, true, false, false, true, true, false, false, false, false, false, false, false] rfl rfl (one_of HT_.out (by kernel_rfl)) (by decide) (fun K hK => ?_)
             refine goes_ Try.func38 (by kernel_rfl) rfl #[.agg #[.string t392, .slice Ao9 t393.length co9, .slice Ao10 t396.length co10], .string (a0.extract (x13_2 : Int).toNat ((wrap64 (x13_2 + x12_2)) : Int).toNat)] (by rfl) rfl rfl (by (try simp only [List.map_toArray, List.map_cons, List.map_nil]); first | done | rfl | (simp only [List.length_drop, List.length_take]; rfl)) ?_
             with_reducible refine (find_Index_Find.calls t392 _ _ t393 _ _ t396 (a0.extract (x13_2 : Int).toNat ((wrap64 (x13_2 + x12_2)) : Int).toNat) t411 _ ?side1 ?side2 ?side3 ?side4 A35.out).mono ?_
             (case side1 => repeat (first | exact (Kd.R_reads' HO_401001.out).2.2 | (with_reducible refine Kd.C_alloc ?_ _) | (with_reducible refine Kd.C_drewN ?_ _) | (with_reducible refine Kd.C_drew ?_)))
             (case side2 => exact (Kd.R_reads' HO_401001.out).2.1)
             (case side3 => repeat (first | exact (Kd.R_reads' HO_401002.out).2.2 | (with_reducible refine Kd.C_alloc ?_ _) | (with_reducible refine Kd.C_drewN ?_ _) | (with_reducible refine Kd.C_drew ?_)))
             (case side4 => exact (Kd.R_reads' HO_401002.out).2.1)
             rintro e w40 ⟨v412, rfl, ho0, hb⟩
             refine ⟨_, rfl, ?_⟩
             have n0_ := Aside0.mk (Kd.R_elder' (by (with_reducible repeat (first | apply Kd.R_alloc | apply Kd.R_drewN | apply Kd.R_drew)); exact HO_401001.out) (Kd.R_base ho0) hb)
             have n1_ := Aside0.mk (Kd.R_elder' (by (with_reducible repeat (first | apply Kd.R_alloc | apply Kd.R_drewN | apply Kd.R_drew)); exact HO_401002.out) (Kd.R_base ho0) hb)
             have n2_ := Aside0.mk (Kd.R_elder' (by (with_reducible repeat (first | apply Kd.R_alloc | apply Kd.R_drewN | apply Kd.R_drew)); exact HO_410001.out) (Kd.R_base ho0) hb)
             have n3_ := Aside0.mk (Kd.R_elder' (by (with_reducible repeat (first | apply Kd.R_alloc | apply Kd.R_drewN | apply Kd.R_drew)); exact HO_410002.out) (Kd.R_base ho0) hb)
             have n4_ := Aside0.mk (Kd.R_lower (Kd.R_new' (Kd.R_new' (Kd.R_new' (Kd.R_new' ho0 (Kd.R_lt (by (with_reducible repeat (first | apply Kd.R_alloc | apply Kd.R_drewN | apply Kd.R_drew)); exact HO_401001.out))) (Kd.R_lt (by (with_reducible repeat (first | apply Kd.R_alloc | apply Kd.R_drewN | apply Kd.R_drew)); exact HO_401002.out))) (Kd.R_lt (by (with_reducible repeat (first | apply Kd.R_alloc | apply Kd.R_drewN | apply Kd.R_drew)); exact HO_410001.out))) (Kd.R_lt (by (with_reducible repeat (first | apply Kd.R_alloc | apply Kd.R_drewN | apply Kd.R_drew)); exact HO_410002.out))) (below_size (by repeat (first | (with_reducible first | exact HB.out | apply below_alloc | apply pw_below_drewN | apply below_drew1 | refine below_set ?_ GE400.out | refine below_set ?_ GE409.out) | exact HB.out))))
             have n5_ := Aside0.mk (blk_below (g := gb400) (o := .cells #[.string t392, .slice Ao9 t393.length co9, .slice Ao10 t396.length co10] 24 (0, 0)) (by (with_reducible repeat (first | refine blk_drewN ?_ _ | refine blk_drew ?_ | refine blk_alloc ?_ _)); exact BK400.out) hb)
             have n6_ := Aside0.mk (blk_below (g := gb409) (o := .cells #[.string t401, .slice Ao15 t402.length co15, .slice Ao16 t405.length co16] 24 (0, 0)) (by (with_reducible repeat (first | refine blk_drewN ?_ _ | refine blk_drew ?_ | refine blk_alloc ?_ _)); exact BK409.out) hb)
             have n7_ := Aside0.mk (below_step (by repeat (first | (with_reducible first | exact HB.out | apply below_alloc | apply pw_below_drewN | apply below_drew1 | refine below_set ?_ GE400.out | refine below_set ?_ GE409.out) | exact HB.out)) hb)
             clear HO_401001
             clear HO_401002
             clear HO_410001
             clear HO_410002
             clear BK400
             clear BK409
             clear HB
             have HO_401001 := n0_
             have HO_401002 := n1_
             have HO_410001 := n2_
             have HO_410002 := n3_
             have HO413 := n4_
             have BK400 := n5_
             have BK409 := n6_
             have HB := n7_
             clear n0_ n1_ n2_ n3_ n4_ n5_ n6_ n7_
             (try clear hb)
             (try clear hb2)
             (try clear hk)
             (try clear hi)
             (try clear ho0)
             obtain ⟨Ao41, co41, eo41⟩ := Kd.R_slice HO413.out
             (first | subst eo41 | (injection eo41 with f1_ f2_ f3_; have f4_ := f1_.symm; have f5_ := f3_.symm; clear f1_ f2_ f3_; subst f4_; subst f5_))
             have p414 : 0 ≤ (0 : Int) := (by omega)
             have q414 : 0 < (t411.length : Int) := of_decide_eq_true (by first | (with_reducible assumption) | assumption)
             obtain ⟨ad414, e414, hx414_0⟩ := Kd.at_int (Kd.R_reads' HO413.out).2.2 0 p414 q414
             cases e414
             have qi414 : (0 < t411.length) = True := eq_true (by omega)
             (try rw [show ((0 : Int)).toNat = 0 from rfl] at hx414_0)
             (try rw [Addr.add_zero'] at hx414_0)
             replace p414 := eq_true p414
             replace q414 := eq_true q414
             refine hK.out _ _ ⟨(blk_cell BK400.out 0).trans rfl, (blk_cell BK400.out 1).trans rfl, (blk_cell BK400.out 2).trans rfl, (blk_cell BK409.out 0).trans rfl, (blk_cell BK409.out 1).trans rfl, (blk_cell BK409.out 2).trans rfl⟩ (fun hHeld => ?_)
             clear hK K
             have hHeld := And.intro hHeld hx414_0
             refine strong_ (fun w' => (w'.cell? ⟨gb400, 0, none⟩ = some (.string t392) ∧ w'.cell? ⟨gb400, 1, none⟩ = some (.slice Ao9 t393.length co9) ∧ w'.cell? ⟨gb400, 2, none⟩ = some (.slice Ao10 t396.length co10) ∧ w'.cell? ⟨gb409, 0, none⟩ = some (.string t401) ∧ w'.cell? ⟨gb409, 1, none⟩ = some (.slice Ao15 t402.length co15) ∧ w'.cell? ⟨gb409, 2, none⟩ = some (.slice Ao16 t405.length co16)) ∧ w'.cell? ad414 = some (.int .i64 (rd t411 0))) (fun w' h => h.1) hHeld ?_
             refine norm_ (a' := ?_) ?_ ?_
             rotate_left
             ·show Act.put _ (some 70) _ = _
              simp only [Act.put, List.setIfInBounds_toArray, List.set_cons_zero, List.set_cons_succ, i64_w, i32_w]
              rfl
             refine pure_ (i := 4) (N := some 71) (v := ?_) (a' := ?_) #[true, true, true, true, true, false, true, true, false, false, false, false, false, false, false] rfl rfl (any_of HT_.out (by kernel_rfl)) (fun _ _ _ h => h) (Or.inl ⟨by rfl, ?_⟩) ?_ ?_
             rotate_left
             ·intro w'
              go_simp
              with_reducible rfl
             rotate_left
             ·simp only [Act.put, List.setIfInBounds_toArray, List.set_cons_zero, List.set_cons_succ, i64_w, i32_w]
              rfl
             refine take_ (i := 5) (N := some 72) (v := ?_) (a' := ?_) #[true, true, true, true, true, true, true, true, false, false, false, false, false, false, false] rfl rfl (take_ofW HT_.out HW_.out (by kernel_rfl)) (fun _ _ _ h => h) (Or.inl ⟨by rfl, ?_⟩) hHeld ?_ ?_
             rotate_left
             ·rintro w' ⟨⟨s0, s1, s2, s3, s4, s5⟩, s6⟩
              go_simp
              with_reducible rfl
             rotate_left
             ·simp only [Act.put, List.setIfInBounds_toArray, List.set_cons_zero, List.set_cons_succ, i64_w, i32_w]
              rfl
             refine one_ (i := 8) (N := some 75) #[true, true, true, true, true, true, true, true, true, false, false, false, false, false, false] rfl rfl (one_of HT_.out (by kernel_rfl)) (by decide) (fun K hK => ?_)
             refine goes_ Try.func38 (by kernel_rfl) rfl #[.agg #[.string t401, .slice Ao15 t402.length co15, .slice Ao16 t405.length co16], .string (a0.extract (x13_2 : Int).toNat ((wrap64 (x13_2 + x12_2)) : Int).toNat)] (by rfl) rfl rfl (by (try simp only [List.map_toArray, List.map_cons, List.map_nil]); first | done | rfl | (simp only [List.length_drop, List.length_take]; rfl)) ?_
             with_reducible refine (find_Index_Find.calls t401 _ _ t402 _ _ t405 (a0.extract (x13_2 : Int).toNat ((wrap64 (x13_2 + x12_2)) : Int).toNat) t415 _ ?side1 ?side2 ?side3 ?side4 A37.out).mono ?_
             (case side1 => repeat (first | exact (Kd.R_reads' HO_410001.out).2.2 | (with_reducible refine Kd.C_alloc ?_ _) | (with_reducible refine Kd.C_drewN ?_ _) | (with_reducible refine Kd.C_drew ?_)))
             (case side2 => exact (Kd.R_reads' HO_410001.out).2.1)
             (case side3 => repeat (first | exact (Kd.R_reads' HO_410002.out).2.2 | (with_reducible refine Kd.C_alloc ?_ _) | (with_reducible refine Kd.C_drewN ?_ _) | (with_reducible refine Kd.C_drew ?_)))
             (case side4 => exact (Kd.R_reads' HO_410002.out).2.1)
             rintro e w42 ⟨v416, rfl, ho0, hb⟩
             have HS6_ := (hb.cell (World.block_lt_of_cell? _ _ hHeld.2)).trans hHeld.2
             refine ⟨_, rfl, ?_⟩
             have n0_ := Aside0.mk (Kd.R_elder' (by (with_reducible repeat (first | apply Kd.R_alloc | apply Kd.R_drewN | apply Kd.R_drew)); exact HO_401001.out) (Kd.R_base ho0) hb)
             have n1_ := Aside0.mk (Kd.R_elder' (by (with_reducible repeat (first | apply Kd.R_alloc | apply Kd.R_drewN | apply Kd.R_drew)); exact HO_401002.out) (Kd.R_base ho0) hb)
             have n2_ := Aside0.mk (Kd.R_elder' (by (with_reducible repeat (first | apply Kd.R_alloc | apply Kd.R_drewN | apply Kd.R_drew)); exact HO_410001.out) (Kd.R_base ho0) hb)
             have n3_ := Aside0.mk (Kd.R_elder' (by (with_reducible repeat (first | apply Kd.R_alloc | apply Kd.R_drewN | apply Kd.R_drew)); exact HO_410002.out) (Kd.R_base ho0) hb)
             have n4_ := Aside0.mk (Kd.R_elder' (by (with_reducible repeat (first | apply Kd.R_alloc | apply Kd.R_drewN | apply Kd.R_drew)); exact HO413.out) (Kd.R_base ho0) hb)
             have n5_ := Aside0.mk (Kd.R_lower (Kd.R_new' (Kd.R_new' (Kd.R_new' (Kd.R_new' (Kd.R_new' ho0 (Kd.R_lt (by (with_reducible repeat (first | apply Kd.R_alloc | apply Kd.R_drewN | apply Kd.R_drew)); exact HO_401001.out))) (Kd.R_lt (by (with_reducible repeat (first | apply Kd.R_alloc | apply Kd.R_drewN | apply Kd.R_drew)); exact HO_401002.out))) (Kd.R_lt (by (with_reducible repeat (first | apply Kd.R_alloc | apply Kd.R_drewN | apply Kd.R_drew)); exact HO_410001.out))) (Kd.R_lt (by (with_reducible repeat (first | apply Kd.R_alloc | apply Kd.R_drewN | apply Kd.R_drew)); exact HO_410002.out))) (Kd.R_lt (by (with_reducible repeat (first | apply Kd.R_alloc | apply Kd.R_drewN | apply Kd.R_drew)); exact HO413.out))) (below_size (by repeat (first | (with_reducible first | exact HB.out | apply below_alloc | apply pw_below_drewN | apply below_drew1 | refine below_set ?_ GE400.out | refine below_set ?_ GE409.out) | exact HB.out))))
             have n6_ := Aside0.mk (blk_below (g := gb400) (o := .cells #[.string t392, .slice Ao9 t393.length co9, .slice Ao10 t396.length co10] 24 (0, 0)) (by (with_reducible repeat (first | refine blk_drewN ?_ _ | refine blk_drew ?_ | refine blk_alloc ?_ _)); exact BK400.out) hb)
             have n7_ := Aside0.mk (blk_below (g := gb409) (o := .cells #[.string t401, .slice Ao15 t402.length co15, .slice Ao16 t405.length co16] 24 (0, 0)) (by (with_reducible repeat (first | refine blk_drewN ?_ _ | refine blk_drew ?_ | refine blk_alloc ?_ _)); exact BK409.out) hb)
             have n8_ := Aside0.mk (below_step (by repeat (first | (with_reducible first | exact HB.out | apply below_alloc | apply pw_below_drewN | apply below_drew1 | refine below_set ?_ GE400.out | refine below_set ?_ GE409.out) | exact HB.out)) hb)
             clear HO_401001
             clear HO_401002
             clear HO_410001
             clear HO_410002
             clear HO413
             clear BK400
             clear BK409
             clear HB
             have HO_401001 := n0_
             have HO_401002 := n1_
             have HO_410001 := n2_
             have HO_410002 := n3_
             have HO413 := n4_
             have HO417 := n5_
             have BK400 := n6_
             have BK409 := n7_
             have HB := n8_
             clear n0_ n1_ n2_ n3_ n4_ n5_ n6_ n7_ n8_
             (try clear hb)
             (try clear hb2)
             (try clear hk)
             (try clear hi)
             (try clear ho0)
             obtain ⟨Ao43, co43, eo43⟩ := Kd.R_slice HO417.out
             (first | subst eo43 | (injection eo43 with f1_ f2_ f3_; have f4_ := f1_.symm; have f5_ := f3_.symm; clear f1_ f2_ f3_; subst f4_; subst f5_))
             have p418 : 0 ≤ (0 : Int) := (by omega)
             have q418 : 0 < (t415.length : Int) := of_decide_eq_true (by first | (with_reducible assumption) | assumption)
             obtain ⟨ad418, e418, hx418_0⟩ := Kd.at_int (Kd.R_reads' HO417.out).2.2 0 p418 q418
             cases e418
             have qi418 : (0 < t415.length) = True := eq_true (by omega)
             (try rw [show ((0 : Int)).toNat = 0 from rfl] at hx418_0)
             (try rw [Addr.add_zero'] at hx418_0)
             replace p418 := eq_true p418
             replace q418 := eq_true q418
             refine hK.out _ _ ⟨⟨(blk_cell BK400.out 0).trans rfl, (blk_cell BK400.out 1).trans rfl, (blk_cell BK400.out 2).trans rfl, (blk_cell BK409.out 0).trans rfl, (blk_cell BK409.out 1).trans rfl, (blk_cell BK409.out 2).trans rfl⟩, HS6_⟩ (fun hHeld => ?_)
             clear hK K
             have hHeld := And.intro hHeld hx418_0
             refine strong_ (fun w' => ((w'.cell? ⟨gb400, 0, none⟩ = some (.string t392) ∧ w'.cell? ⟨gb400, 1, none⟩ = some (.slice Ao9 t393.length co9) ∧ w'.cell? ⟨gb400, 2, none⟩ = some (.slice Ao10 t396.length co10) ∧ w'.cell? ⟨gb409, 0, none⟩ = some (.string t401) ∧ w'.cell? ⟨gb409, 1, none⟩ = some (.slice Ao15 t402.length co15) ∧ w'.cell? ⟨gb409, 2, none⟩ = some (.slice Ao16 t405.length co16)) ∧ w'.cell? ad414 = some (.int .i64 (rd t411 0))) ∧ w'.cell? ad418 = some (.int .i64 (rd t415 0))) (fun w' h => h.1) hHeld ?_
             refine norm_ (a' := ?_) ?_ ?_
             rotate_left
             ·show Act.put _ (some 75) _ = _
              simp only [Act.put, List.setIfInBounds_toArray, List.set_cons_zero, List.set_cons_succ, i64_w, i32_w]
              rfl
             refine pure_ (i := 9) (N := some 76) (v := ?_) (a' := ?_) #[true, true, true, true, true, true, true, true, true, true, false, false, false, false, false] rfl rfl (any_of HT_.out (by kernel_rfl)) (fun _ _ _ h => h) (Or.inl ⟨by rfl, ?_⟩) ?_ ?_
             rotate_left
             ·intro w'
              go_simp
              with_reducible rfl
             rotate_left
             ·simp only [Act.put, List.setIfInBounds_toArray, List.set_cons_zero, List.set_cons_succ, i64_w, i32_w]
              rfl
             refine pure_ (i := 11) (N := some 4) (v := ?_) (a' := ?_) #[true, true, true, true, true, true, true, true, true, true, false, true, false, false, false] rfl rfl (any_of HT_.out (by kernel_rfl)) (fun _ _ _ h => h) (Or.inl ⟨by rfl, ?_⟩) ?_ ?_
             rotate_left
             ·intro w'
              go_simp
              with_reducible rfl
             rotate_left
             ·simp only [Act.put, List.setIfInBounds_toArray, List.set_cons_zero, List.set_cons_succ, i64_w, i32_w]
              rfl
             refine pure_ (i := 12) (N := some 5) (v := ?_) (a' := ?_) #[true, true, true, true, true, true, true, true, true, true, false, true, true, false, false] rfl rfl (any_of HT_.out (by kernel_rfl)) (fun _ _ _ h => h) (Or.inl ⟨by rfl, ?_⟩) ?_ ?_
             rotate_left
             ·intro w'
              go_simp
              with_reducible rfl
             rotate_left
             ·simp only [Act.put, List.setIfInBounds_toArray, List.set_cons_zero, List.set_cons_succ, i64_w, i32_w]
              rfl
             refine take_ (i := 10) (N := some 77) (v := ?_) (a' := ?_) #[true, true, true, true, true, true, true, true, true, true, true, true, true, false, false] rfl rfl (take_ofW HT_.out HW_.out (by kernel_rfl)) (fun _ _ _ h => h) (Or.inl ⟨by rfl, ?_⟩) hHeld ?_ ?_
             rotate_left
             ·rintro w' ⟨⟨⟨s0, s1, s2, s3, s4, s5⟩, s6⟩, s7⟩
              go_simp
              with_reducible rfl
             rotate_left
             ·simp only [Act.put, List.setIfInBounds_toArray, List.set_cons_zero, List.set_cons_succ, i64_w, i32_w]
              rfl
             refine pure_ (i := 13) (N := some 6) (v := ?_) (a' := ?_) #[true, true, true, true, true, true, true, true, true, true, true, true, true, true, false] rfl rfl (any_of HT_.out (by kernel_rfl)) (fun _ _ _ h => h) (Or.inl ⟨by rfl, ?_⟩) ?_ ?_
             rotate_left
             ·intro w'
              go_simp
              with_reducible rfl
             rotate_left
             ·simp only [Act.put, List.setIfInBounds_toArray, List.set_cons_zero, List.set_cons_succ, i64_w, i32_w]
              rfl
             refine pure_ (i := 14) (N := some 7) (v := ?_) (a' := ?_) #[true, true, true, true, true, true, true, true, true, true, true, true, true, true, true] rfl rfl (any_of HT_.out (by kernel_rfl)) (fun _ _ _ h => h) (Or.inl ⟨by rfl, ?_⟩) ?_ ?_
             rotate_left
             ·intro w'
              go_simp
              with_reducible rfl
             rotate_left
             ·simp only [Act.put, List.setIfInBounds_toArray, List.set_cons_zero, List.set_cons_succ, i64_w, i32_w]
              rfl
             refine done_ (done_of HT_.out (by kernel_rfl)) ?_
             try go_wp2
             refine bodyPost_ret (results_list (rs := [.tmp 4, .tmp 5, .tmp 6, .tmp 7]) rfl (by simp) (.tmp (.tmp (.tmp (.tmp .nil))))) rfl ?_
             exact ⟨by first | rfl | (simp [errW_none, errW_some] <;> rfl) | (simp [*, errW_none, errW_some] <;> rfl), by repeat (first | (with_reducible first | exact HB.out | apply below_alloc | apply pw_below_drewN | apply below_drew1 | refine below_set ?_ GE400.out | refine below_set ?_ GE409.out) | exact HB.out)⟩
            ·rw [if_neg c38] at H
             exact absurd H (by simp)
           ·rw [if_neg c36] at H
            exact absurd H (by simp)
          ·rw [if_neg c34] at H
           exact absurd H (by simp)
         ·rw [if_neg c33] at H
          exact absurd H (by simp)
        ·rw [if_neg c32] at H
         exact absurd H (by simp)

end Go.Proofs.Ytppelnlocfcgfaa.P
namespace Go.Proofs.Ytppelnlocfcgfaa.P
open Go.RowKit Go.Proofs.YtppelnlocfcgfaaW.PrintWords Go.Proofs.YtppelnlocfcgfaaW.PrintLast Go.Proofs.YtppelnlocfcgfaaW.PrintMore
open Go.Proofs.Fnd
theorem find_is (t p : ByteArray) (ht : t.size ≤ 4096) (hp : p.size ≤ 140737488351232) : find_Index_Find.f t (ordI t) (overI t) p = some (nI (occL t.data.toList p.data.toList t.data.toList.length)) := by
  unfold find_Index_Find.f
  rw [if_pos ⟨ht, hp, rfl⟩]; rfl
theorem rd_nI0 (l : List Nat) (j : Nat) (t : List Nat) (h : l = j :: t) : rd (nI l) 0 = (j : Int) ∧ 0 < (nI l).length := by
  subst h
  exact ⟨rfl, by simp [nI]⟩
theorem ext_piece (t : ByteArray) (a m : Nat) : (t.extract a (a + m)).data.toList = piece t.data.toList a m := by
  rw [extract_list, piece, Nat.add_sub_cancel_left]
theorem ext_small (a : ByteArray) (h : a.size ≤ 4096) (i j : Nat) : (a.extract i j).size ≤ 140737488351232 := by
  rw [ByteArray.size_extract]
  exact Nat.le_trans (Nat.sub_le _ _) (Nat.le_trans (Nat.min_le_right j a.size) (Nat.le_trans h (by decide)))
/-- what the program answers -/
def ComV (a b : ByteArray) (r : Int × Int × Int × Int) : Prop :=
  ∃ m f : Nat, InvP a.data.toList b.data.toList a.size m f ∧ ((m = 0 ∧ r = (0, 0, 0, 0)) ∨ (0 < m ∧ ∃ k, k < b.size ∧ KK a.data.toList b.data.toList f k = m ∧ (∀ k', k' < k → KK a.data.toList b.data.toList f k' < m) ∧ r = ((m : Int), (f : Int), (k : Int), 0)))
section
variable (a b : ByteArray) (ha : a.size ≤ 4096) (hb : b.size ≤ 4096)
include ha hb
theorem com_end (m f : Nat) (h : InvP a.data.toList b.data.toList a.size m f) (z : Int) : ∃ r, Ev (fun K => find_Common.l0 K a (m : Int) (f : Int) (a.size : Int) (a.size : Int) a (ordI a) (overI a) b (ordI b) (overI b)) r ∧ ComV a b r := by
  have la := data_length a
  have lb := data_length b
  by_cases h0 : m = 0
  · subst h0
    refine ⟨(0, 0, 0, 0), Ev.step (f := fun _ => some (0, 0, 0, 0)) (fun K => ?_) (Ev.now _), 0, f, h, Or.inl ⟨rfl, rfl⟩⟩
    rw [find_Common.l0, if_neg (by omega), if_pos (by omega)]
  · have h' := h
    rw [← la] at h'
    obtain ⟨hin, ⟨t1, e1⟩, k, hk, hK, hlt, t2, e2⟩ := com_places h' (by omega)
    refine ⟨((m : Int), (f : Int), (k : Int), 0), Ev.step (f := fun _ => some ((m : Int), (f : Int), (k : Int), 0)) (fun K => ?_) (Ev.now _), m, f, h, Or.inr ⟨by omega, k, by omega, hK, hlt, rfl⟩⟩
    have ew : wrap64 ((f : Int) + (m : Int)) = ((f + m : Nat) : Int) := by rw [w64 (by omega) (by omega)]; omega
    have ep := ext_piece a f m
    have f1 := find_is a (a.extract f (f + m)) ha (ext_small a ha _ _)
    have f2 := find_is b (a.extract f (f + m)) hb (ext_small a ha _ _)
    rw [ep] at f1 f2
    have r1 := rd_nI0 _ _ _ e1
    have r2 := rd_nI0 _ _ _ e2
    rw [find_Common.l0, if_neg (by omega), if_neg (by omega), if_pos (by omega), ew, if_pos (by omega), if_pos (by omega), Int.toNat_natCast, Int.toNat_natCast, f1, f2, Option.bind_some, if_pos (by omega), Option.bind_some, if_pos (by omega), r1.1, r2.1]
theorem com_row (i : Nat) (hi : i < a.size) (next : ∀ m f : Nat, InvP a.data.toList b.data.toList (i + 1) m f → ∃ r, Ev (fun K => find_Common.l0 K a (m : Int) (f : Int) (a.size : Int) ((i + 1 : Nat) : Int) a (ordI a) (overI a) b (ordI b) (overI b)) r ∧ ComV a b r) :
    ∀ (d m f : Nat), m + d = a.size → InvP a.data.toList b.data.toList i m f → ∃ r, Ev (fun K => find_Common.l1 K a (m : Int) (f : Int) (i : Int) (a.size : Int) (i : Int) a (ordI a) (overI a) b (ordI b) (overI b)) r ∧ ComV a b r := by
  have la := data_length a
  have lb := data_length b
  have stop : ∀ m f : Nat, m ≤ a.size → ¬ i + m < a.size → InvP a.data.toList b.data.toList i m f → ∃ r, Ev (fun K => find_Common.l1 K a (m : Int) (f : Int) (i : Int) (a.size : Int) (i : Int) a (ordI a) (overI a) b (ordI b) (overI b)) r ∧ ComV a b r := by
    intro m f hm hin h
    obtain ⟨r, hr, hv⟩ := next m f (h.next fun k hk q => by have := KK_le a.data.toList b.data.toList i k; omega)
    refine ⟨r, Ev.step (fun K => ?_) hr, hv⟩
    have e1 : wrap64 ((i : Int) + (m : Int)) = ((i + m : Nat) : Int) := by rw [w64 (by omega) (by omega)]; omega
    have c1 : ¬ ((i + m : Nat) : Int) < (a.size : Int) := by omega
    have e3 : wrap64 ((i : Int) + 1) = ((i + 1 : Nat) : Int) := by rw [w64 (by omega) (by omega)]; omega
    conv => lhs; unfold find_Common.l1
    rw [e1, if_neg c1, e3]
  intro d
  induction d with
  | zero =>
    intro m f hd h
    exact stop m f (by omega) (by omega) h
  | succ d ih =>
    intro m f hd h
    by_cases hin : i + m < a.size
    · have hil : i < a.data.toList.length := by omega
      have hd' : m + 1 + d = a.size := by omega
      have hL : i + (m + 1) ≤ a.data.toList.length := by omega
      have c1 : ((i + m : Nat) : Int) < (a.size : Int) := by omega
      have c2 : (0 : Int) ≤ (i : Int) := by omega
      have c3 : (i : Int) ≤ ((i + (m + 1) : Nat) : Int) := by omega
      have c4 : ((i + (m + 1) : Nat) : Int) ≤ (a.size : Int) := by omega
      have e1 : wrap64 ((i : Int) + (m : Int)) = ((i + m : Nat) : Int) := by rw [w64 (by omega) (by omega)]; omega
      have e2 : wrap64 (((i + m : Nat) : Int) + 1) = ((i + (m + 1) : Nat) : Int) := by
        clear e1
        rw [w64 (by omega) (by omega)]; omega
      have e3 : wrap64 ((i : Int) + 1) = ((i + 1 : Nat) : Int) := by
        clear e1 e2
        rw [w64 (by omega) (by omega)]; omega
      have e4 : wrap64 ((m : Int) + 1) = ((m + 1 : Nat) : Int) := by
        clear e1 e2 e3
        rw [w64 (by omega) (by omega)]; omega
      have hp := occ_pos a.data.toList b.data.toList (i := i) (L := m + 1) hL
      have hc := count_occ b (a.extract i (i + (m + 1))) hb (ext_small a ha _ _)
      rw [ext_piece] at hc
      generalize occN b.data.toList (piece a.data.toList i (m + 1)) = c at hc hp
      by_cases h0 : 0 < c
      · obtain ⟨k, hk, hmk⟩ := hp.1 h0
        obtain ⟨r, hr, hv⟩ := ih (m + 1) i hd' (h.longer hil hk hmk)
        refine ⟨r, Ev.step (fun K => ?_) hr, hv⟩
        conv => lhs; unfold find_Common.l1
        rw [e1, if_pos c1, if_pos c2, e2, if_pos c3, if_pos c4, Int.toNat_natCast, Int.toNat_natCast, hc, Option.bind_some, if_pos (show (c : Int) > 0 by omega), e4]
      · obtain ⟨r, hr, hv⟩ := next m f (h.next fun k hk q => h0 (hp.2 ⟨k, hk, q⟩))
        refine ⟨r, Ev.step (fun K => ?_) hr, hv⟩
        conv => lhs; unfold find_Common.l1
        rw [e1, if_pos c1, if_pos c2, e2, if_pos c3, if_pos c4, Int.toNat_natCast, Int.toNat_natCast, hc, Option.bind_some, if_neg (show ¬ (c : Int) > 0 by omega), e3]
    · exact stop m f (by omega) hin h
theorem com_all : ∀ (d i m f : Nat), i + d = a.size → InvP a.data.toList b.data.toList i m f → m ≤ a.size → ∃ r, Ev (fun K => find_Common.l0 K a (m : Int) (f : Int) (a.size : Int) (i : Int) a (ordI a) (overI a) b (ordI b) (overI b)) r ∧ ComV a b r
  | 0, i, m, f, hi, h, hm => by
    obtain rfl : i = a.size := by omega
    exact com_end a b ha hb m f h 0
  | d + 1, i, m, f, hi, h, hm => by
    have la := data_length a
    have lb := data_length b
    obtain ⟨r, hr, hv⟩ := com_row a b ha hb i (by omega) (fun m f h => com_all d (i + 1) m f (by omega) h (by
      rcases h.hit with ⟨h1, _⟩ | ⟨h1, h2, h3, ⟨k, hk, h4⟩, _⟩
      · omega
      · have := KK_le a.data.toList b.data.toList f k; omega)) (a.size - m) m f (by omega) h
    refine ⟨r, Ev.step (fun K => ?_) hr, hv⟩
    conv => lhs; unfold find_Common.l0
    rw [if_pos (by omega)]
theorem common_ev4 : ∃ r, Ev (fun K => find_Common.f K a b) r ∧ ComV a b r := by
  obtain ⟨r, hr, hv⟩ := com_all a b ha hb a.size 0 0 0 (by omega) (InvP.start _ _) (by omega)
  refine ⟨r, ?_, hv⟩
  unfold find_Common.f
  refine Ev.bind (find_New_ev a ha) (Ev.bind (find_New_ev b hb) (ev_pos rfl ?_))
  refine Ev.step (fun K => ?_) hr
  rw [find_Common.j0, if_neg (by simp)]
  rfl
theorem ref_row (i : Nat) (hi : i < a.size) (next : ∀ n x y : Nat, InvR a.data.toList b.data.toList (i + 1) 0 n x y → ∃ n' x' y' : Nat, Ev (fun K => silversideref07_Longest.l0 K a b (n : Int) (x : Int) (y : Int) ((i + 1 : Nat) : Int)) ((n' : Int), (x' : Int), (y' : Int)) ∧ InvR a.data.toList b.data.toList a.size 0 n' x' y') :
    ∀ (d k n x y : Nat), k + d = b.size → InvR a.data.toList b.data.toList i k n x y → ∃ n' x' y' : Nat, Ev (fun K => silversideref07_Longest.l1 K a b (n : Int) (x : Int) (y : Int) (i : Int) (k : Int)) ((n' : Int), (x' : Int), (y' : Int)) ∧ InvR a.data.toList b.data.toList a.size 0 n' x' y'
  | 0, k, n, x, y, hd, h => by
    have la := data_length a
    have lb := data_length b
    obtain rfl : k = b.size := by omega
    rw [← lb] at h
    obtain ⟨n', x', y', he, hr⟩ := next n x y h.next
    refine ⟨n', x', y', Ev.step (fun K => ?_) he, hr⟩
    conv => lhs; unfold silversideref07_Longest.l1
    rw [if_neg (by omega), w64 (x := (i : Int) + 1) (by omega) (by omega)]
    rfl
  | d + 1, k, n, x, y, hd, h => by
    have la := data_length a
    have lb := data_length b
    have hc := common_ev a b (by omega) (by omega) i k (by omega) (by omega)
    have hkk : cpl (a.data.toList.drop i) (b.data.toList.drop k) = KK a.data.toList b.data.toList i k := rfl
    rw [hkk] at hc
    have e3 : wrap64 ((k : Int) + 1) = ((k + 1 : Nat) : Int) := by rw [w64 (by omega) (by omega)]; omega
    by_cases hn : n < KK a.data.toList b.data.toList i k
    · obtain ⟨n', x', y', he, hr⟩ := ref_row i hi next d (k + 1) _ i k (by omega) (h.more (by omega) (by omega) hn)
      refine ⟨n', x', y', Ev.step (fun K => by rw [silversideref07_Longest.l1, if_pos (by omega), e3]) (Ev.bind hc (ev_pos (show ((KK a.data.toList b.data.toList i k : Nat) : Int) > (n : Int) by omega) he)), hr⟩
    · obtain ⟨n', x', y', he, hr⟩ := ref_row i hi next d (k + 1) n x y (by omega) (h.less hn)
      refine ⟨n', x', y', Ev.step (fun K => by rw [silversideref07_Longest.l1, if_pos (by omega), e3]) (Ev.bind hc (ev_neg (show ¬ ((KK a.data.toList b.data.toList i k : Nat) : Int) > (n : Int) by omega) he)), hr⟩
theorem ref_all : ∀ (d i n x y : Nat), i + d = a.size → InvR a.data.toList b.data.toList i 0 n x y → ∃ n' x' y' : Nat, Ev (fun K => silversideref07_Longest.l0 K a b (n : Int) (x : Int) (y : Int) (i : Int)) ((n' : Int), (x' : Int), (y' : Int)) ∧ InvR a.data.toList b.data.toList a.size 0 n' x' y'
  | 0, i, n, x, y, hi, h => by
    obtain rfl : i = a.size := by omega
    exact ⟨n, x, y, Ev.step (f := fun _ => some ((n : Int), (x : Int), (y : Int))) (fun K => by rw [silversideref07_Longest.l0, if_neg (by omega)]) (Ev.now _), h⟩
  | d + 1, i, n, x, y, hi, h => by
    obtain ⟨n', x', y', he, hr⟩ := ref_row a b ha hb i (by omega) (fun n x y h => ref_all d (i + 1) n x y (by omega) h) b.size 0 n x y (by omega) h
    refine ⟨n', x', y', Ev.step (fun K => ?_) he, hr⟩
    conv => lhs; unfold silversideref07_Longest.l0
    rw [if_pos (by omega)]
    rfl
theorem longest_ev : ∃ n x y : Nat, Ev (fun K => silversideref07_Longest.f K a b) ((n : Int), (x : Int), (y : Int)) ∧ InvR a.data.toList b.data.toList a.size 0 n x y :=
  ref_all a b ha hb a.size 0 0 0 0 (by omega) (InvR.start _ _)
omit ha hb in
/-- the two answers are one -/
theorem com_same {r : Int × Int × Int × Int} {n x y : Nat} (h : ComV a b r) (g : InvR a.data.toList b.data.toList a.size 0 n x y) : r = ((n : Int), (x : Int), (y : Int), 0) := by
  have la := data_length a
  have lb := data_length b
  obtain ⟨m, f, hi, hr⟩ := h
  rw [← la] at hi g
  obtain ⟨rfl, rfl⟩ := both_same hi g
  rcases hr with ⟨rfl, rfl⟩ | ⟨h0, k, hk, hK, hlt, rfl⟩
  · rcases g.hit with ⟨_, h2, rfl⟩ | ⟨h1, _⟩
    · rw [h2]; rfl
    · omega
  · rcases g.hit with ⟨h1, _⟩ | ⟨h1, h2, h3, h4, h5, h6, h7⟩
    · omega
    · have : k = y := by
        rcases Nat.lt_trichotomy k y with c | c | c
        · have := h7 k c; omega
        · exact c
        · have := hlt y c; omega
      rw [this]
end
end Go.Proofs.Ytppelnlocfcgfaa.P
namespace Go.Proofs.Ytppelnlocfcgfaa.Pure
open Go.RowKit Go.Proofs.Ytppelnlocfcgfaa.P Go.Proofs.YtppelnlocfcgfaaW.PrintWords Go.Proofs.YtppelnlocfcgfaaW.PrintLast
open Go.Proofs.Fnd
/-- the i-th suffix begins with a pattern -/
def bgB (s p : List UInt8) (i : Nat) : Bool := decide (beginning s p.length ((sufOrd s).getD i 0) = p)
theorem bg_mono (s p : List UInt8) {a b : Nat} (h : a ≤ b) (hb : b < s.length) : ¬ beginning s p.length ((sufOrd s).getD b 0) < beginning s p.length ((sufOrd s).getD a 0) := take_le _ (order_le s h hb)
theorem bg_conv (s p : List UInt8) {a m b : Nat} (h1 : a ≤ m) (h2 : m ≤ b) (hb : b < s.length) (ha : bgB s p a = true) (hbb : bgB s p b = true) : bgB s p m = true := by
  unfold bgB at *
  rw [decide_eq_true_eq] at *
  have x := bg_mono s p h1 (by omega)
  have y := bg_mono s p h2 hb
  rw [ha] at x
  rw [hbb] at y
  rcases txt_tri (beginning s p.length ((sufOrd s).getD m 0)) p with h | h | h
  · exact absurd h x
  · exact h
  · exact absurd h y
theorem bg_in (s p : List UInt8) {q : Nat} (hq : q < s.length) (h : beginning s p.length q = p) : q + p.length ≤ s.length := by
  have := congrArg List.length h
  unfold beginning at this
  rw [List.length_take, List.length_drop] at this
  omega
/-- how many of the first suffixes begin with a pattern -/
def cntB (s p : List UInt8) (i : Nat) : Nat := (List.range i).countP (bgB s p)
theorem cntB_succ (s p : List UInt8) (i : Nat) : cntB s p (i + 1) = cntB s p i + (if bgB s p i = true then 1 else 0) := by
  unfold cntB
  rw [List.range_succ, List.countP_append]
  cases h : bgB s p i <;> simp [h]
theorem cntB_all (s p : List UInt8) : cntB s p s.length = occN s p := count_order s (fun q => decide (beginning s p.length q = p))
theorem cntB_le (s p : List UInt8) (i : Nat) : cntB s p i ≤ i := by
  have := List.countP_le_length (p := bgB s p) (l := List.range i)
  rwa [List.length_range] at this
theorem w_add {a b : Nat} (h : a + b < 9223372036854775808) : wrap64 ((a : Int) + (b : Int)) = ((a + b : Nat) : Int) := by rw [w64 (by omega) (by omega)]; omega
theorem w_one {a : Nat} (h : a + 1 < 9223372036854775808) : wrap64 ((a : Int) + 1) = ((a + 1 : Nat) : Int) := by rw [w64 (by omega) (by omega)]; omega
theorem w_pred {a : Nat} (h : 0 < a) (h2 : a < 9223372036854775808) : wrap64 ((a : Int) - 1) = ((a - 1 : Nat) : Int) := by rw [w64 (by omega) (by omega)]; omega
theorem w_sub {a b : Nat} (h : b ≤ a) (h2 : a < 9223372036854775808) : wrap64 ((a : Int) - (b : Int)) = ((a - b : Nat) : Int) := by rw [w64 (by omega) (by omega)]; omega
theorem rd_nat (O : List Nat) (j : Nat) (h : j < O.length) : rd (nI O) (j : Int) = ((O[j] : Nat) : Int) := rd_nI O j h
section
variable (t p : ByteArray) (ht : t.size ≤ 4096) (hp : p.size ≤ 140737488351232)
include ht hp
theorem sides_l1 (O : List Nat) (hO : ∀ j (h : j < O.length), O[j] + p.size ≤ t.size ∧ beginning t.data.toList p.data.toList.length O[j] = p.data.toList) (hup : O.Pairwise (· < ·)) (hl : O.length ≤ 4096) :
    ∀ (d i : Nat), i + d = O.length → Ev (fun K => silversidelaw07_FindSides.l1 K t p (nI O) (i : Int)) true
  | 0, i, hi => by
    have c : ¬ (i : Int) < ((nI O).length : Int) := by rw [nI_length]; omega
    exact Ev.step (fun K => by rw [silversidelaw07_FindSides.l1, if_neg c]) (Ev.bind awake_ev (Ev.now _))
  | d + 1, i, hi => by
    have ih := sides_l1 O hO hup hl d (i + 1) (by omega)
    have hlt : i < O.length := by omega
    obtain ⟨hin, hb⟩ := hO i hlt
    have hr := rd_nat O i hlt
    have hpl := piece_list t p O[i] hin
    have c0 : (i : Int) < ((nI O).length : Int) := by rw [nI_length]; omega
    have c1 : (0 : Int) ≤ (i : Int) := by omega
    have prev : 0 < i → ∃ x : Nat, rd (nI O) ((i - 1 : Nat) : Int) = (x : Int) ∧ x < O[i] ∧ ((i - 1 : Nat) : Int) < ((nI O).length : Int) := by
      intro h0
      exact ⟨O[i - 1], rd_nat O (i - 1) (by omega), List.pairwise_iff_getElem.1 hup (i - 1) i (by omega) hlt (by omega), by rw [nI_length]; omega⟩
    generalize O[i] = q at *
    have c2 : ¬ (q : Int) < 0 := by omega
    have c3 : ¬ ((q + p.size : Nat) : Int) > (t.size : Int) := by omega
    have c4 : (0 : Int) ≤ (q : Int) := by omega
    have c5 : (q : Int) ≤ ((q + p.size : Nat) : Int) := by omega
    have c6 : ((q + p.size : Nat) : Int) ≤ (t.size : Int) := by omega
    have c7 : (t.extract q (q + p.size)).toList = p.toList := by rw [hpl, hb, ByteArray.toList_eq]
    have ew := w_add (a := q) (b := p.size) (by omega)
    have e3 := w_one (a := i) (by omega)
    refine Ev.step (fun K => ?_) ih
    conv => lhs; unfold silversidelaw07_FindSides.l1
    rw [if_pos c0, if_pos c1, hr, if_neg c2, ew, if_neg c3, if_pos c4, if_pos c5, if_pos c6, Int.toNat_natCast, Int.toNat_natCast, if_pos c7, e3]
    by_cases h0 : i = 0
    · have c8 : ¬ (i : Int) > 0 := by clear ew e3; omega
      rw [if_neg c8]
    · obtain ⟨x, hx, hxq, hxl⟩ := prev (by clear ew e3; omega)
      have c8 : (i : Int) > 0 := by clear ew e3; omega
      have c9 : (0 : Int) ≤ ((i - 1 : Nat) : Int) := by clear ew e3; omega
      have ca : ¬ (x : Int) ≥ (q : Int) := by clear ew e3; omega
      have e4 := w_pred (a := i) (by clear ew e3; omega) (by clear ew e3; omega)
      rw [if_pos c8, e4, if_pos c9, if_pos hxl, hx, if_neg ca]
omit ht hp in
/-- behind the test of a position: what is told and how it goes on -/
theorem sides_j3 (O : List Nat) (i : Nat) (hi : i < 4096) (seen : List Bool) (runs cnt : Nat) (hrn : runs ≤ 1) (hc : cnt ≤ i) (was is : Bool) (hw : is = true → was = false → runs = 0) (ho ov : List Int)
    (next : Ev (fun K => silversidelaw07_FindSides.l0 K t p ho (nI O) seen ((runs + (if is = true ∧ was = false then 1 else 0) : Nat) : Int) ((cnt + (if is = true then 1 else 0) : Nat) : Int) is ((i + 1 : Nat) : Int) t ho ov) true) :
    Ev (fun K => silversidelaw07_FindSides.j3 K t p ho (nI O) seen (runs : Int) (cnt : Int) was (i : Int) is t ho ov) true := by
  have e3 := w_one (a := i) (by omega)
  have ec := w_one (a := cnt) (by omega)
  have er := w_one (a := runs) (by omega)
  cases is with
  | false =>
    rw [if_neg (by simp), if_neg (by simp), Nat.add_zero, Nat.add_zero] at next
    exact Ev.step (fun K => by rw [silversidelaw07_FindSides.j3, if_neg (by decide)]) (Ev.step (fun K => by rw [silversidelaw07_FindSides.j4, if_neg (by decide), if_neg (by decide), e3]) next)
  | true =>
    cases was with
    | true =>
      rw [if_neg (by simp), if_pos rfl, Nat.add_zero] at next
      exact Ev.step (fun K => by rw [silversidelaw07_FindSides.j3, if_pos rfl]) (Ev.step (fun K => by rw [silversidelaw07_FindSides.j4, if_neg (by decide), if_pos rfl, e3, ec]) next)
    | false =>
      rw [if_pos (by simp), if_pos rfl] at next
      exact Ev.step (fun K => by rw [silversidelaw07_FindSides.j3, if_pos rfl]) (Ev.step (fun K => by rw [silversidelaw07_FindSides.j4, if_pos (by decide), if_pos rfl, e3, ec, er]) next)
/-- what has been met among the first positions -/
structure InvS (s p : List UInt8) (i : Nat) (seen : List Bool) (runs : Nat) : Prop where
  len : seen.length = s.length
  seen : ∀ k, k < s.length → seen.getD k false = true → ∃ j, j < i ∧ (sufOrd s).getD j 0 = k
  runs : (runs = 0 ∧ ∀ j, j < i → bgB s p j = false) ∨ (runs = 1 ∧ ∃ j, j < i ∧ bgB s p j = true)
omit ht hp in
theorem InvS.fresh {s q : List UInt8} {i : Nat} {seen : List Bool} {runs : Nat} (h : InvS s q i seen runs) (hi : i < s.length) : seen.getD ((sufOrd s).getD i 0) false = false := by
  rw [← Bool.not_eq_true]
  intro hs
  obtain ⟨j, hj, hjk⟩ := h.seen _ (ord_lt s i hi) hs
  have := ord_inj s (a := j) (b := i) (by omega) hi hjk
  omega
omit ht hp in
theorem InvS.next {s q : List UInt8} {i : Nat} {seen : List Bool} {runs : Nat} (h : InvS s q i seen runs) (hi : i < s.length) :
    InvS s q (i + 1) (seen.set ((sufOrd s).getD i 0) true) (runs + (if bgB s q i = true ∧ (decide (0 < i) && bgB s q (i - 1)) = false then 1 else 0)) ∧ (bgB s q i = true → (decide (0 < i) && bgB s q (i - 1)) = false → runs = 0) := by
  have key : bgB s q i = true → (decide (0 < i) && bgB s q (i - 1)) = false → runs = 0 ∧ ∀ j, j < i → bgB s q j = false := by
    intro h1 h2
    rcases h.runs with h3 | ⟨h3, j, hj, hb⟩
    · exact h3
    · have := bg_conv s q (a := j) (m := i - 1) (b := i) (by omega) (by omega) hi hb h1
      rw [this, decide_eq_true (show 0 < i by omega)] at h2
      simp at h2
  refine ⟨⟨by rw [List.length_set]; exact h.len, fun k hk hs => ?_, ?_⟩, fun h1 h2 => (key h1 h2).1⟩
  · by_cases e : (sufOrd s).getD i 0 = k
    · exact ⟨i, by omega, e⟩
    · rw [List.getD_eq_getElem?_getD, List.getElem?_set_ne e, ← List.getD_eq_getElem?_getD] at hs
      obtain ⟨j, hj, hjk⟩ := h.seen k hk hs
      exact ⟨j, by omega, hjk⟩
  · by_cases hB : bgB s q i = true
    · by_cases hw : (decide (0 < i) && bgB s q (i - 1)) = false
      · obtain ⟨h0, _⟩ := key hB hw
        rw [if_pos ⟨hB, hw⟩, h0]
        exact Or.inr ⟨rfl, i, by omega, hB⟩
      · rw [if_neg (fun z => hw z.2)]
        rw [Bool.not_eq_false, Bool.and_eq_true, decide_eq_true_eq] at hw
        rcases h.runs with ⟨_, h2⟩ | ⟨h1, _⟩
        · have := h2 (i - 1) (by omega); rw [hw.2] at this; simp at this
        · exact Or.inr ⟨h1, i, by omega, hB⟩
    · rw [if_neg (fun z => hB z.1), Nat.add_zero]
      rw [Bool.not_eq_true] at hB
      rcases h.runs with ⟨h1, h2⟩ | ⟨h1, j, hj, hb⟩
      · refine Or.inl ⟨h1, fun j hj => ?_⟩
        rcases Nat.lt_or_ge j i with c | c
        · exact h2 j c
        · obtain rfl : j = i := by omega
          exact hB
      · exact Or.inr ⟨h1, j, by omega, hb⟩
theorem sides_l0 (O : List Nat) (hOc : (O.length : Int) = (occN t.data.toList p.data.toList : Int)) (hend : Ev (fun K => silversidelaw07_FindSides.l1 K t p (nI O) 0) true) : ∀ (d i : Nat) (seen : List Bool) (runs : Nat), i + d = t.size → InvS t.data.toList p.data.toList i seen runs →
    Ev (fun K => silversidelaw07_FindSides.l0 K t p (ordI t) (nI O) seen (runs : Int) (cntB t.data.toList p.data.toList i : Int) (decide (0 < i) && bgB t.data.toList p.data.toList (i - 1)) (i : Int) t (ordI t) (overI t)) true
  | 0, i, seen, runs, hi, hI => by
    have lt := data_length t
    have h4 := ordI_length t
    obtain rfl : i = t.size := by omega
    have hr : runs ≤ 1 := by rcases hI.runs with ⟨h, _⟩ | ⟨h, _⟩ <;> omega
    have c0 : ¬ ((t.size : Nat) : Int) < ((ordI t).length : Int) := by omega
    have c1 : ¬ (runs : Int) > 1 := by omega
    have hc := count_occ t p ht hp
    have he := cntB_all t.data.toList p.data.toList
    rw [lt] at he
    have hb : (((nI O).length : Int) != (occN t.data.toList p.data.toList : Int)) = false := by rw [nI_length, hOc]; simp
    refine Ev.step (fun K => by rw [silversidelaw07_FindSides.l0, if_neg c0, if_neg c1, hc, Option.bind_some, he, if_pos rfl, hb]) ?_
    exact Ev.step (fun K => by rw [silversidelaw07_FindSides.j5, if_neg (by decide)]) hend
  | d + 1, i, seen, runs, hi, hI => by
    have lt := data_length t
    have lp := data_length p
    have h4 := ordI_length t
    have hlt : i < t.size := by omega
    have his : i < t.data.toList.length := by omega
    have hrn : runs ≤ 1 := by rcases hI.runs with ⟨h, _⟩ | ⟨h, _⟩ <;> omega
    have hcle := cntB_le t.data.toList p.data.toList i
    have hfr := hI.fresh his
    obtain ⟨hI', hz⟩ := hI.next his
    have ih := sides_l0 O hOc hend d (i + 1) _ _ (by omega) hI'
    rw [cntB_succ, decide_eq_true (show 0 < i + 1 by omega), Bool.true_and, Nat.add_sub_cancel] at ih
    have j3 := sides_j3 t p O i (by omega) _ runs _ hrn hcle (decide (0 < i) && bgB t.data.toList p.data.toList (i - 1)) (bgB t.data.toList p.data.toList i) hz (ordI t) (overI t) ih
    have hk := ord_lt t.data.toList i his
    have hrd := rd_ordI t i hlt
    have hbg : bgB t.data.toList p.data.toList i = decide (beginning t.data.toList p.data.toList.length ((sufOrd t.data.toList).getD i 0) = p.data.toList) := rfl
    have hlen : seen.length = t.size := hI.len.trans lt
    have prev : 0 < i → ∃ x : Nat, rd (ordI t) ((i - 1 : Nat) : Int) = (x : Int) ∧ x < t.size ∧ t.data.toList.drop x < t.data.toList.drop ((sufOrd t.data.toList).getD i 0) := by
      intro h0
      have hk1 := ord_lt t.data.toList (i - 1) (by omega)
      exact ⟨(sufOrd t.data.toList).getD (i - 1) 0, rd_ordI t (i - 1) (by omega), by omega, (suf_lt t.data.toList _ _).2 ⟨_, ord_up t.data.toList (a := i - 1) (b := i) (by omega) his⟩⟩
    clear ih hI' hI hz
    have hin : ∀ q, q < t.size → beginning t.data.toList p.data.toList.length q = p.data.toList → q + p.size ≤ t.size := by
      intro q hq h
      have := bg_in t.data.toList p.data.toList (q := q) (by omega) h
      omega
    generalize (sufOrd t.data.toList).getD i 0 = q at *
    have hq : q < t.size := by omega
    have hj2 : Ev (fun K => silversidelaw07_FindSides.j2 K t p (ordI t) (nI O) seen (runs : Int) (cntB t.data.toList p.data.toList i : Int) (decide (0 < i) && bgB t.data.toList p.data.toList (i - 1)) (i : Int) (q : Int) false t (ordI t) (overI t)) true := by
      have c0 : (0 : Int) ≤ (q : Int) := by omega
      have c1 : (q : Int) < (seen.length : Int) := by omega
      have es := w_sub (a := t.size) (b := q) (by omega) (by omega)
      have ew := w_add (a := q) (b := p.size) (by clear es; omega)
      refine Ev.step (fun K => by rw [silversidelaw07_FindSides.j2, if_neg (by decide), if_pos c0, if_pos c1, Int.toNat_natCast, Option.bind_some, es, ew]) ?_
      clear es ew
      by_cases hle : q + p.size ≤ t.size
      · have hpl := piece_list t p q hle
        have d0 : ((t.size - q : Nat) : Int) ≥ (p.size : Int) := by omega
        have d1 : (q : Int) ≤ ((q + p.size : Nat) : Int) := by omega
        have d2 : ((q + p.size : Nat) : Int) ≤ (t.size : Int) := by omega
        refine ev_pos d0 (ev_pos d1 (ev_pos d2 ?_))
        have : (beginning t.data.toList p.data.toList.length q == p.data.toList) = bgB t.data.toList p.data.toList i := by
          rw [hbg, Bool.eq_iff_iff, beq_iff_eq, decide_eq_true_eq]
        rw [Int.toNat_natCast, hpl, ByteArray.toList_eq, this]
        exact j3
      · have d0 : ¬ ((t.size - q : Nat) : Int) ≥ (p.size : Int) := by omega
        refine ev_neg d0 ?_
        have : bgB t.data.toList p.data.toList i = false := by
          rw [hbg, decide_eq_false_iff_not]
          exact fun h => hle (hin q hq h)
        rw [this] at j3
        exact j3
    have c0 : (i : Int) < ((ordI t).length : Int) := by omega
    have c1 : (0 : Int) ≤ (i : Int) := by omega
    have c2 : ¬ (q : Int) < 0 := by omega
    have c3 : ¬ (q : Int) ≥ (t.size : Int) := by omega
    have c4 : (0 : Int) ≤ (q : Int) := by omega
    have c5 : (q : Int) < (seen.length : Int) := by omega
    have hrf : rdOf false seen (q : Int) = false := by unfold rdOf; rw [Int.toNat_natCast]; exact hfr
    have c6 : ¬ rdOf false seen (q : Int) = true := by rw [hrf]; decide
    refine Ev.step (fun K => by rw [silversidelaw07_FindSides.l0, if_pos c0, if_pos c1, hrd, if_neg c2, if_neg c3, if_pos c4, if_pos c5, if_neg c6]) ?_
    by_cases h0 : i = 0
    · have c7 : ¬ (i : Int) > 0 := by omega
      exact ev_neg c7 hj2
    · obtain ⟨x, hx, hxt, hxd⟩ := prev (by omega)
      have c7 : (i : Int) > 0 := by omega
      have c8 : (0 : Int) ≤ ((i - 1 : Nat) : Int) := by omega
      have c9 : ((i - 1 : Nat) : Int) < ((ordI t).length : Int) := by omega
      have ca : (0 : Int) ≤ (x : Int) := by omega
      have cb : (x : Int) ≤ (t.size : Int) := by omega
      have cc : (q : Int) ≤ (t.size : Int) := by omega
      have e4 := w_pred (a := i) (by omega) (by omega)
      have hdl : ∀ a, (t.extract a t.size).toList = t.data.toList.drop a := by
        intro a
        rw [ByteArray.toList_eq, extract_list, List.take_of_length_le (by rw [List.length_drop, lt]; exact Nat.le_refl _)]
      refine ev_pos c7 ?_
      rw [e4, hx]
      refine ev_pos c8 (ev_pos c9 (ev_pos ca (ev_pos cb (ev_pos cc ?_))))
      rw [Int.toNat_natCast, Int.toNat_natCast, hdl, hdl, bytesLess_is, decide_eq_true hxd]
      exact hj2
end
theorem FindSides : silversidelaw07_FindSides.Pure := by
  intro a0 a1 _ hp
  refine Ev.rounds ?_
  unfold silversidelaw07_FindSides.f
  have hm := mn_nat a0.size 500
  rw [show ((500 : Nat) : Int) = 500 from rfl] at hm
  rw [hm]
  refine ev_pos (by omega) (ev_pos (by omega) ?_)
  rw [Int.toNat_natCast]
  have ht : (a0.extract 0 (min a0.size 500)).size ≤ 4096 := by rw [ByteArray.size_extract]; omega
  generalize a0.extract 0 (min a0.size 500) = t at *
  have h4 := ordI_length t
  have hf := find_is t a1 ht hp
  refine Ev.bind (find_New_ev t ht) ?_
  simp only [find_Index_Order.f, slices_Clone_int.f, hf]
  rw [if_pos (by omega)]
  simp only [Option.bind_some]
  refine ev_pos (by trivial) ?_
  rw [show (((ordI t).length : Int) != (t.size : Int)) = false by rw [h4]; simp]
  refine Ev.step (fun K => by rw [silversidelaw07_FindSides.j0, if_neg (by decide), if_pos (by omega), Int.toNat_natCast, if_pos (by omega)]) ?_
  have lt := data_length t
  have lp := data_length a1
  have hO : ∀ j (h : j < (occL t.data.toList a1.data.toList t.data.toList.length).length), (occL t.data.toList a1.data.toList t.data.toList.length)[j] + a1.size ≤ t.size ∧ beginning t.data.toList a1.data.toList.length (occL t.data.toList a1.data.toList t.data.toList.length)[j] = a1.data.toList := by
    intro j h
    have h1 := List.getElem_mem h
    generalize (occL t.data.toList a1.data.toList t.data.toList.length)[j] = q at h1 ⊢
    unfold occL at h1
    rw [List.mem_filter, List.mem_range, decide_eq_true_eq] at h1
    have := bg_in t.data.toList a1.data.toList h1.1 h1.2
    exact ⟨by rw [← lt, ← lp]; exact this, h1.2⟩
  have hup : (occL t.data.toList a1.data.toList t.data.toList.length).Pairwise (· < ·) := (List.pairwise_lt_range).filter _
  have hle := occL_le t.data.toList a1.data.toList t.data.toList.length
  have hl := occL_len t.data.toList a1.data.toList
  have hend := sides_l1 t a1 ht hp _ hO hup (Nat.le_trans hle (by rw [lt]; exact ht)) _ 0 (Nat.zero_add _)
  exact sides_l0 t a1 ht hp _ (by rw [hl]) hend t.size 0 (List.replicate t.size false) 0 (Nat.zero_add _) ⟨by rw [List.length_replicate, lt], fun k hk h => by
    rw [List.getD_eq_getElem?_getD, List.getElem?_replicate] at h
    split at h <;> simp at h, Or.inl ⟨rfl, fun j hj => by omega⟩⟩
end Go.Proofs.Ytppelnlocfcgfaa.Pure
