/- Proved here: what functions that the law reaches compute, and plain laws of that. Put together by a program; a part was printed by one (wip/printplus.py). -/
import Derived.Test.YthaklbjcjoolcaaBPlaneOwn3
import Derived.Test.YthaklbjcjoolcaaCPlaneOwn1
import Derived.Test.YthaklbjcjoolcaaBPlaneOwn1
import Derived.Outline
import Derived.Deep.DeepMust
import Derived.Laws.EntriesVeiled
import Derived.BigRegion
import Derived.BigQuiet
import Derived.Deep.RegionLawGrows
import Derived.Test.YthaklbjcjoolcaaBPlaneOwn4
set_option linter.unusedVariables false
set_option linter.unusedSimpArgs false
namespace Go.Proofs.Ythaklbjcjoolcaa.P
open Go.RowKit Go.Shelf Go.Sort YthaklbjcjoolcaaW.PrintWords YthaklbjcjoolcaaW.PrintLast YthaklbjcjoolcaaW.PrintMore
def rgt (x y : Int) : Prop := 0 < x ∨ x = 0 ∧ 0 < y
def cr (ax ay bx b_y : Int) : Int := ax * b_y - ay * bx
theorem cr_key (ax ay bx b_y cx cy : Int) : bx * cr ax ay cx cy = ax * cr bx b_y cx cy + cx * cr ax ay bx b_y := by unfold cr; grind
theorem cr_swap (ax ay bx b_y : Int) : cr bx b_y ax ay = - cr ax ay bx b_y := by unfold cr; grind
theorem nn_of {b t : Int} (hb : 0 < b) (h : 0 ≤ b * t) : 0 ≤ t := by
  rcases Int.lt_or_le t 0 with h1 | h1
  · have := Int.mul_neg_of_pos_of_neg hb h1; omega
  · exact h1
theorem pos_of {b t : Int} (hb : 0 < b) (h : 0 < b * t) : 0 < t := by
  rcases Int.lt_or_le 0 t with h1 | h1
  · exact h1
  · have := Int.mul_le_mul_of_nonneg_left h1 (Int.le_of_lt hb); omega
theorem nn_mul {a b : Int} (ha : 0 ≤ a) (hb : 0 ≤ b) : 0 ≤ a * b := Int.mul_nonneg ha hb
theorem ps_mul {a b : Int} (ha : 0 < a) (hb : 0 < b) : 0 < a * b := Int.mul_pos ha hb
theorem cr_trans {ax ay bx b_y cx cy : Int} (ha : rgt ax ay) (hb : rgt bx b_y) (hc : rgt cx cy) (h1 : 0 ≤ cr ax ay bx b_y) (h2 : 0 ≤ cr bx b_y cx cy) : 0 ≤ cr ax ay cx cy := by
  have hax : 0 ≤ ax := by unfold rgt at ha; omega
  have hcx : 0 ≤ cx := by unfold rgt at hc; omega
  rcases hb with hb | ⟨rfl, hb⟩
  · refine nn_of hb ?_
    rw [cr_key ax ay bx b_y cx cy]
    have := nn_mul hax h2; have := nn_mul hcx h1; omega
  · unfold cr at h1 h2
    have h3 : 0 ≤ ax * b_y := by grind
    have h4 : 0 ≤ -(b_y * cx) := by grind
    have hcx0 : cx = 0 := by
      rcases Int.lt_or_le 0 cx with h | h
      · have := ps_mul hb h; omega
      · omega
    subst hcx0
    have hcy : 0 < cy := by unfold rgt at hc; omega
    unfold cr
    have := nn_mul hax (Int.le_of_lt hcy)
    grind
theorem cr_trans_lt {ax ay bx b_y cx cy : Int} (ha : rgt ax ay) (hb : rgt bx b_y) (hc : rgt cx cy) (h1 : 0 ≤ cr ax ay bx b_y) (h2 : 0 ≤ cr bx b_y cx cy) (h3 : 0 < cr ax ay bx b_y ∨ 0 < cr bx b_y cx cy) : 0 < cr ax ay cx cy := by
  have hax : 0 ≤ ax := by unfold rgt at ha; omega
  have hcx : 0 ≤ cx := by unfold rgt at hc; omega
  rcases hb with hb | ⟨rfl, hb⟩
  · refine pos_of hb ?_
    rw [cr_key ax ay bx b_y cx cy]
    have m1 := nn_mul hax h2; have m2 := nn_mul hcx h1
    rcases h3 with h3 | h3
    · rcases Int.lt_or_le 0 cx with h | h
      · have := ps_mul h h3; omega
      · have hcx0 : cx = 0 := by omega
        subst hcx0
        have hcy : 0 < cy := by unfold rgt at hc; omega
        have h4 : 0 < cr bx b_y 0 cy := by unfold cr; have := ps_mul hb hcy; grind
        rcases Int.lt_or_le 0 ax with h5 | h5
        · have := ps_mul h5 h4; omega
        · have hax0 : ax = 0 := by omega
          subst hax0
          have hay : 0 < ay := by unfold rgt at ha; omega
          unfold cr at h3
          have := ps_mul hay hb
          grind
    · rcases Int.lt_or_le 0 ax with h | h
      · have := ps_mul h h3; omega
      · have hax0 : ax = 0 := by omega
        subst hax0
        have hay : 0 < ay := by unfold rgt at ha; omega
        unfold cr at h1
        have := ps_mul hay hb
        grind
  · unfold cr at h1 h2 h3
    have h4 : 0 ≤ -(b_y * cx) := by grind
    have hcx0 : cx = 0 := by
      rcases Int.lt_or_le 0 cx with h | h
      · have := ps_mul hb h; omega
      · omega
    subst hcx0
    have hcy : 0 < cy := by unfold rgt at hc; omega
    have hax1 : 0 < ax := by
      rcases h3 with h3 | h3
      · rcases Int.lt_or_le 0 ax with h | h
        · exact h
        · have : ax = 0 := by omega
          subst this; grind
      · grind
    unfold cr
    have := ps_mul hax1 hcy
    grind
theorem crs_cr (a b c : S31) : crs a b c = cr (b.f0 - a.f0) (b.f1 - a.f1) (c.f0 - a.f0) (c.f1 - a.f1) := rfl
theorem ltP_rgt {a b : S31} : ltP a b = true ↔ rgt (b.f0 - a.f0) (b.f1 - a.f1) := by unfold ltP rgt; rw [decide_eq_true_eq]; omega
theorem crs_turn (a b c : S31) : crs a b c = cr (b.f0 - a.f0) (b.f1 - a.f1) (c.f0 - b.f0) (c.f1 - b.f1) := by unfold crs cr; grind
theorem crs_swap (a b c : S31) : crs a c b = - crs a b c := by unfold crs; grind
theorem ltP_trans {a b c : S31} (h1 : ltP a b = true) (h2 : ltP b c = true) : ltP a c = true := by unfold ltP at *; rw [decide_eq_true_eq] at *; omega
theorem ltP_irr (a : S31) : ¬ ltP a a = true := by unfold ltP; rw [decide_eq_true_eq]; omega
theorem ltP_tot (a b : S31) : ltP a b = true ∨ a = b ∨ ltP b a = true := by
  unfold ltP; rw [decide_eq_true_eq, decide_eq_true_eq]
  by_cases h : a = b
  · exact Or.inr (Or.inl h)
  · have : a.f0 ≠ b.f0 ∨ a.f1 ≠ b.f1 := by
      by_cases h0 : a.f0 = b.f0
      · exact Or.inr (fun h1 => h (S31.ext' h0 h1))
      · exact Or.inl h0
    omega
theorem turn_far {a b c q : S31} (h1 : ltP a b = true) (h2 : ltP b c = true) (h3 : ltP c q = true) (ht1 : 0 < crs a b c) (ht2 : 0 < crs b c q) : 0 < crs a b q := by
  have ha := ltP_rgt.1 h1; have hb := ltP_rgt.1 h2; have hc := ltP_rgt.1 h3
  rw [crs_turn] at ht1 ht2
  have := cr_trans_lt ha hb hc (Int.le_of_lt ht1) (Int.le_of_lt ht2) (Or.inl ht1)
  have e : crs a b q = cr (b.f0 - a.f0) (b.f1 - a.f1) (c.f0 - b.f0) (c.f1 - b.f1) + cr (b.f0 - a.f0) (b.f1 - a.f1) (q.f0 - c.f0) (q.f1 - c.f1) := by unfold crs cr; grind
  omega
theorem turn_back_pt {w u p r : S31} (h1 : ltP w u = true) (h2 : ltP u p = true) (h3 : ltP r u = true) (ht1 : 0 ≤ crs w u r) (ht2 : 0 < crs w u p) : 0 < crs u p r := by
  have ha := ltP_rgt.1 h1; have hb := ltP_rgt.1 h2; have hc := ltP_rgt.1 h3
  rw [crs_turn] at ht2
  have e : cr (u.f0 - r.f0) (u.f1 - r.f1) (u.f0 - w.f0) (u.f1 - w.f1) = crs w u r := by unfold crs cr; grind
  have := cr_trans_lt hc ha hb (by rw [e]; exact ht1) (Int.le_of_lt ht2) (Or.inr ht2)
  have e2 : crs u p r = cr (u.f0 - r.f0) (u.f1 - r.f1) (p.f0 - u.f0) (p.f1 - u.f1) := by unfold crs cr; grind
  omega
theorem turn_on {u v p r : S31} (h1 : ltP u v = true) (h2 : ltP u p = true) (h3 : ltP u r = true) (ht1 : 0 ≤ crs u v r) (ht2 : crs u v p ≤ 0) : 0 ≤ crs u p r := by
  have ha := ltP_rgt.1 h1; have hb := ltP_rgt.1 h2; have hc := ltP_rgt.1 h3
  rw [crs_cr] at *
  exact cr_trans hb ha hc (by rw [cr_swap]; omega) ht1
theorem pt_app_l (A B : List S31) (i : Nat) (h : i < A.length) : pt (A ++ B) i = pt A i := by
  unfold pt; rw [List.getD_eq_getElem?_getD, List.getD_eq_getElem?_getD, List.getElem?_append_left h]
theorem pt_app_r (A B : List S31) (i : Nat) (h : A.length ≤ i) : pt (A ++ B) i = pt B (i - A.length) := by
  unfold pt; rw [List.getD_eq_getElem?_getD, List.getD_eq_getElem?_getD, List.getElem?_append_right h]
theorem pt_take (A : List S31) (n i : Nat) (h : i < n) : pt (A.take n) i = pt A i := by
  unfold pt; rw [List.getD_eq_getElem?_getD, List.getD_eq_getElem?_getD, List.getElem?_take, if_pos h]
theorem pt_mem (A : List S31) (i : Nat) (h : i < A.length) : pt A i ∈ A := by rw [pt_eq A i h]; exact List.getElem_mem _
theorem mem_pt {A : List S31} {p : S31} (h : p ∈ A) : ∃ i, i < A.length ∧ pt A i = p := by
  obtain ⟨i, hi, e⟩ := List.mem_iff_getElem.1 h
  exact ⟨i, hi, by rw [pt_eq A i hi, e]⟩
def Up (a b r : S31) : Prop := 0 ≤ crs a b r ∧ (crs a b r = 0 → ¬ ltP r a = true ∧ ¬ ltP b r = true)
structure Ch (R out : List S31) : Prop where
  pos : 0 < out.length
  inc : ∀ i, i + 1 < out.length → ltP (pt out i) (pt out (i + 1)) = true
  mem : ∀ i, i < out.length → pt out i ∈ R
  ed : ∀ i, i + 1 < out.length → ∀ r ∈ R, Up (pt out i) (pt out (i + 1)) r
  trn : ∀ i, i + 2 < out.length → 0 < crs (pt out i) (pt out (i + 1)) (pt out (i + 2))
  hd : ∀ r ∈ R, ¬ ltP r (pt out 0) = true
  lst : ∀ r ∈ R, ¬ ltP (pt out (out.length - 1)) r = true
theorem popN_spec (out : List S31) (p : S31) : ∀ m, 1 ≤ m → 1 ≤ popN out p m ∧ (2 ≤ popN out p m → 0 < crs (pt out (popN out p m - 2)) (pt out (popN out p m - 1)) p) ∧ (popN out p m < m → crs (pt out (popN out p m - 1)) (pt out (popN out p m)) p ≤ 0)
  | 0, h => by omega
  | 1, _ => by simp [popN]
  | m + 2, _ => by
    have ih := popN_spec out p (m + 1) (by omega)
    have hle := popN_le out p (m + 1)
    unfold popN
    by_cases h : crs (pt out m) (pt out (m + 1)) p ≤ 0
    · rw [if_pos h]
      refine ⟨ih.1, ih.2.1, fun _ => ?_⟩
      rcases Nat.lt_or_ge (popN out p (m + 1)) (m + 1) with h1 | h1
      · exact ih.2.2 h1
      · have e : popN out p (m + 1) = m + 1 := by omega
        rw [e]; exact h
    · rw [if_neg h]
      refine ⟨by omega, fun _ => ?_, fun h1 => by omega⟩
      show 0 < crs (pt out m) (pt out (m + 1)) p
      omega
theorem crs_same (a b : S31) : crs a b a = 0 := by unfold crs; grind
theorem crs_end (a b : S31) : crs a b b = 0 := by unfold crs; grind
theorem ltP_asym {a b : S31} (h : ltP a b = true) : ¬ ltP b a = true := fun h1 => ltP_irr a (ltP_trans h h1)
theorem Ch.step {R out : List S31} {p : S31} (H : Ch R out) (hp : ∀ r ∈ R, ltP r p = true) : Ch (R ++ [p]) (chStep out p) := by
  obtain ⟨hn1, hn2, hn3⟩ := popN_spec out p out.length H.pos
  have hnl := popN_le out p out.length
  have hlen : (chStep out p).length = popN out p out.length + 1 := by unfold chStep; rw [List.length_append, List.length_take]; simp; omega
  have hold : ∀ i, i < popN out p out.length → pt (chStep out p) i = pt out i := by
    intro i hi
    unfold chStep
    rw [pt_app_l _ _ _ (by rw [List.length_take]; omega), pt_take _ _ _ hi]
  have hnew : pt (chStep out p) (popN out p out.length) = p := by
    unfold chStep
    rw [pt_app_r _ _ _ (by rw [List.length_take]; omega), List.length_take, Nat.min_eq_left hnl, Nat.sub_self]; rfl
  generalize chStep out p = O at *
  generalize popN out p out.length = n at *
  have far : ∀ d i, i + 2 + d = n → 0 < crs (pt out i) (pt out (i + 1)) p := by
    intro d
    induction d with
    | zero => intro i hi; obtain rfl : n = i + 2 := by omega
              exact hn2 (by omega)
    | succ d ih =>
      intro i hi
      exact turn_far (H.inc i (by omega)) (H.inc (i + 1) (by omega)) (hp _ (H.mem (i + 2) (by omega))) (H.trn i (by omega)) (ih (i + 1) (by omega))
  refine ⟨by omega, ?_, ?_, ?_, ?_, ?_, ?_⟩
  · intro i hi
    rw [hold i (by omega)]
    rcases Nat.lt_or_ge (i + 1) n with h | h
    · rw [hold _ h]; exact H.inc i (by omega)
    · obtain rfl : n = i + 1 := by omega
      rw [hnew]; exact hp _ (H.mem i (by omega))
  · intro i hi
    rcases Nat.lt_or_ge i n with h | h
    · rw [hold i h]; exact List.mem_append_left _ (H.mem i (by omega))
    · obtain rfl : n = i := by omega
      rw [hnew]; simp
  · intro i hi r hr
    rw [hold i (by omega)]
    rw [List.mem_append, List.mem_singleton] at hr
    rcases Nat.lt_or_ge (i + 1) n with h | h
    · rw [hold _ h]
      rcases hr with hr | rfl
      · exact H.ed i (by omega) r hr
      · have := far (n - (i + 2)) i (by omega)
        exact ⟨by omega, fun h => by omega⟩
    · obtain rfl : n = i + 1 := by omega
      rw [hnew]
      rcases hr with hr | rfl
      · rcases ltP_tot r (pt out i) with h1 | rfl | h1
        · have hi0 : 0 < i := by
            rcases Nat.eq_zero_or_pos i with rfl | h2
            · exact absurd h1 (H.hd r hr)
            · exact h2
          obtain ⟨j, rfl⟩ : ∃ j, i = j + 1 := ⟨i - 1, by omega⟩
          have h3 := turn_back_pt (H.inc j (by omega)) (hp _ (H.mem (j + 1) (by omega))) h1 (H.ed j (by omega) r hr).1 (far 0 j (by omega))
          exact ⟨by omega, fun h => by omega⟩
        · rw [Up, crs_same]
          exact ⟨Int.le_refl 0, fun _ => ⟨ltP_irr _, ltP_asym (hp _ hr)⟩⟩
        · have hl : i + 1 < out.length := by
            rcases Nat.lt_or_ge (i + 1) out.length with h2 | h2
            · exact h2
            · have e : out.length - 1 = i := by omega
              have := H.lst r hr; rw [e] at this; exact absurd h1 this
          refine ⟨turn_on (H.inc i hl) (hp _ (H.mem i (by omega))) h1 (H.ed i hl r hr).1 (hn3 (by omega)), fun _ => ⟨ltP_asym h1, ltP_asym (hp _ hr)⟩⟩
      · rw [Up, crs_end]
        exact ⟨Int.le_refl 0, fun _ => ⟨ltP_asym (hp _ (H.mem i (by omega))), ltP_irr _⟩⟩
  · intro i hi
    rw [hold i (by omega), hold (i + 1) (by omega)]
    rcases Nat.lt_or_ge (i + 2) n with h | h
    · rw [hold _ h]; exact H.trn i (by omega)
    · obtain rfl : n = i + 2 := by omega
      rw [hnew]; exact far 0 i (by omega)
  · intro r hr
    rw [hold 0 (by omega)]
    rw [List.mem_append, List.mem_singleton] at hr
    rcases hr with hr | rfl
    · exact H.hd r hr
    · exact ltP_asym (hp _ (H.mem 0 (by omega)))
  · intro r hr
    have e : O.length - 1 = n := by omega
    rw [e, hnew]
    rw [List.mem_append, List.mem_singleton] at hr
    rcases hr with hr | rfl
    · exact ltP_asym (hp _ hr)
    · exact ltP_irr _
theorem Ch.one (p : S31) : Ch [p] [p] := by
  refine ⟨by simp, by simp, by simp [pt], by simp, by simp, ?_, ?_⟩
  · intro r hr; rw [List.mem_singleton] at hr; subst hr; exact ltP_irr _
  · intro r hr; rw [List.mem_singleton] at hr; subst hr; exact ltP_irr _
def Asc (l : List S31) : Prop := ∀ i j, i < j → j < l.length → ltP (pt l i) (pt l j) = true
theorem chain_ch (l : List S31) (h : Asc l) (h1 : 0 < l.length) : Ch l (chainL l) := by
  have key : ∀ k, k < l.length → Ch (l.take (k + 1)) (chainL (l.take (k + 1))) := by
    intro k
    induction k with
    | zero =>
      intro hk
      have e : l.take (0 + 1) = [pt l 0] := by rw [take_pt l 0 hk]; rfl
      rw [e]; exact Ch.one _
    | succ k ih =>
      intro hk
      rw [take_pt l (k + 1) hk, chainL_snoc]
      refine (ih (by omega)).step ?_
      intro r hr
      obtain ⟨i, hi, rfl⟩ := mem_pt hr
      rw [List.length_take] at hi
      rw [pt_take _ _ _ (by omega)]
      exact h i (k + 1) (by omega) hk
  have := key (l.length - 1) (by omega)
  rw [show l.length - 1 + 1 = l.length by omega, List.take_length] at this
  exact this
theorem sortP_asc (l : List S31) (i j : Nat) (hij : i < j) (hj : j < (sortP l).length) : ¬ ltP (pt (sortP l) j) (pt (sortP l) i) = true := by
  have hp : (sortP l).Pairwise (fun x y => (!ltP y x) = true) := by
    unfold sortP
    refine List.pairwise_mergeSort ?_ ?_ l
    · intro a b c h1 h2
      simp only [Bool.not_eq_true', ltP, decide_eq_false_iff_not] at *
      omega
    · intro a b
      simp only [Bool.or_eq_true, Bool.not_eq_true', ltP, decide_eq_false_iff_not]
      omega
  have := List.pairwise_iff_getElem.1 hp i j (by omega) hj hij
  rw [pt_eq _ _ hj, pt_eq _ _ (by omega)]
  simpa using this
theorem sortP_mem (l : List S31) (p : S31) : p ∈ sortP l ↔ p ∈ l := (List.mergeSort_perm _ _).mem_iff
theorem asc_snoc {L : List S31} {p : S31} (h : Asc L) (hp : ∀ r ∈ L, ltP r p = true) : Asc (L ++ [p]) := by
  intro i j hij hj
  rw [List.length_append, List.length_singleton] at hj
  rw [pt_app_l L _ i (by omega)]
  rcases Nat.lt_or_ge j L.length with h1 | h1
  · rw [pt_app_l L _ j h1]; exact h i j hij h1
  · obtain rfl : j = L.length := by omega
    rw [pt_app_r L _ _ (Nat.le_refl _), Nat.sub_self]
    exact hp _ (pt_mem L i (by omega))
theorem ddL_facts (xs : List S31) (hs : ∀ i j, i < j → j < xs.length → ¬ ltP (pt xs j) (pt xs i) = true) : ∀ k, 1 ≤ k → k ≤ xs.length →
    Asc (ddL xs k) ∧ 0 < (ddL xs k).length ∧ (∀ r ∈ ddL xs k, r = pt xs (k - 1) ∨ ltP r (pt xs (k - 1)) = true) ∧ (∀ i, i < k → pt xs i ∈ ddL xs k)
  | 0, h, _ => by omega
  | 1, _, _ => by
    refine ⟨fun i j hij hj => ?_, by simp [ddL], by simp [ddL], ?_⟩
    · simp [ddL] at hj; omega
    · intro i hi; obtain rfl : i = 0 := by omega
      simp [ddL]
  | k + 2, _, hk => by
    obtain ⟨a1, a2, a3, a4⟩ := ddL_facts xs hs (k + 1) (by omega) (by omega)
    unfold ddL
    rw [show k + 1 - 1 = k by omega] at a3
    rw [show k + 2 - 1 = k + 1 by omega]
    by_cases he : pt xs (k + 1) = pt xs k
    · rw [if_pos he]
      refine ⟨a1, a2, by rw [he]; exact a3, fun i hi => ?_⟩
      rcases Nat.lt_or_ge i (k + 1) with h | h
      · exact a4 i h
      · obtain rfl : i = k + 1 := by omega
        rw [he]; exact a4 k (by omega)
    · rw [if_neg he]
      have hlt : ltP (pt xs k) (pt xs (k + 1)) = true := by
        rcases ltP_tot (pt xs k) (pt xs (k + 1)) with h | h | h
        · exact h
        · exact absurd h.symm he
        · exact absurd h (hs k (k + 1) (by omega) (by omega))
      have hall : ∀ r ∈ ddL xs (k + 1), ltP r (pt xs (k + 1)) = true := by
        intro r hr
        rcases a3 r hr with rfl | h
        · exact hlt
        · exact ltP_trans h hlt
      refine ⟨asc_snoc a1 hall, by simp, ?_, ?_⟩
      · intro r hr
        rw [List.mem_append, List.mem_singleton] at hr
        rcases hr with hr | rfl
        · exact Or.inr (hall r hr)
        · exact Or.inl rfl
      · intro i hi
        rcases Nat.lt_or_ge i (k + 1) with h | h
        · exact List.mem_append_left _ (a4 i h)
        · obtain rfl : i = k + 1 := by omega
          simp
theorem ddL_mem (xs : List S31) : ∀ k, k ≤ xs.length → ∀ p, p ∈ ddL xs k → p ∈ xs
  | 0, _, p, h => by simp [ddL] at h
  | 1, hk, p, h => by
    simp only [ddL, List.mem_singleton] at h
    rw [h]; exact pt_mem xs 0 (by omega)
  | k + 2, hk, p, h => by
    unfold ddL at h
    split at h
    · exact ddL_mem xs (k + 1) (by omega) p h
    · rw [List.mem_append, List.mem_singleton] at h
      rcases h with h | h
      · exact ddL_mem xs (k + 1) (by omega) p h
      · rw [h]; exact pt_mem xs (k + 1) (by omega)
theorem sortP_length (xs : List S31) : (sortP xs).length = xs.length := List.length_mergeSort ..
theorem sortedS_asc (l : List S31) (h : 0 < l.length) : Asc (sortedS l) ∧ 0 < (sortedS l).length := by
  have := ddL_facts (sortP l) (fun i j h1 h2 => sortP_asc l i j h1 h2) (sortP l).length (by rw [sortP_length]; exact h) (Nat.le_refl _)
  exact ⟨this.1, this.2.1⟩
theorem sortedS_mem (l : List S31) (p : S31) : p ∈ sortedS l ↔ p ∈ l := by
  rw [← sortP_mem l p]
  constructor
  · exact ddL_mem _ _ (Nat.le_refl _) p
  · intro h
    obtain ⟨i, hi, rfl⟩ := mem_pt h
    have := ddL_facts (sortP l) (fun i j h1 h2 => sortP_asc l i j h1 h2) (sortP l).length (by omega) (Nat.le_refl _)
    exact this.2.2.2 i hi
def neg (p : S31) : S31 := ⟨-p.f0, -p.f1⟩
theorem neg_neg (p : S31) : neg (neg p) = p := by unfold neg; cases p; simp
theorem crs_neg (a b c : S31) : crs (neg a) (neg b) (neg c) = crs a b c := by unfold crs neg; grind
theorem ltP_neg (a b : S31) : ltP (neg a) (neg b) = ltP b a := by
  rw [Bool.eq_iff_iff]; unfold ltP neg; rw [decide_eq_true_eq, decide_eq_true_eq]
  show (-a.f0 < -b.f0 ∨ -a.f0 = -b.f0 ∧ -a.f1 < -b.f1) ↔ _
  omega
theorem pt_neg (l : List S31) (i : Nat) : pt (l.map neg) i = neg (pt l i) := by
  unfold pt
  rw [List.getD_eq_getElem?_getD, List.getD_eq_getElem?_getD, List.getElem?_map]
  cases l[i]? <;> rfl
theorem popN_neg (out : List S31) (p : S31) : ∀ m, popN (out.map neg) (neg p) m = popN out p m
  | 0 => rfl
  | 1 => rfl
  | m + 2 => by unfold popN; rw [pt_neg, pt_neg, crs_neg, popN_neg out p (m + 1)]
theorem chain_neg (l : List S31) : chainL (l.map neg) = (chainL l).map neg := by
  have key : ∀ (xs out : List S31), (xs.map neg).foldl chStep (out.map neg) = (xs.foldl chStep out).map neg := by
    intro xs
    induction xs with
    | nil => intro out; rfl
    | cons p xs ih =>
      intro out
      rw [List.map_cons, List.foldl_cons, List.foldl_cons, ← ih]
      congr 1
      unfold chStep
      rw [List.length_map, popN_neg, List.map_append, List.map_take]; rfl
  exact key l []
theorem pt_rev (l : List S31) (i : Nat) (h : i < l.length) : pt l.reverse i = pt l (l.length - 1 - i) := by
  rw [pt_eq _ _ (by rw [List.length_reverse]; exact h), pt_eq _ _ (by omega), List.getElem_reverse]
theorem upper_ch (l : List S31) (h : Asc l) (h1 : 0 < l.length) : Ch (l.reverse.map neg) ((chainL l.reverse).map neg) := by
  rw [← chain_neg]
  refine chain_ch _ ?_ (by simpa using h1)
  intro i j hij hj
  rw [List.length_map, List.length_reverse] at hj
  rw [pt_neg, pt_neg, ltP_neg, pt_rev l j hj, pt_rev l i (by omega)]
  exact h _ _ (by omega) (by omega)
theorem onB_iff (a b r : S31) : onB a b r = true ↔ crs a b r = 0 ∧ (mn a.f0 b.f0 ≤ r.f0 ∧ r.f0 ≤ mx a.f0 b.f0) ∧ (mn a.f1 b.f1 ≤ r.f1 ∧ r.f1 ≤ mx a.f1 b.f1) := by
  unfold onB; simp only [Bool.and_eq_true, decide_eq_true_eq, and_assoc]
theorem btw (a b r : Int) : (mn a b ≤ r ∧ r ≤ mx a b) ↔ (a ≤ r ∧ r ≤ b ∨ b ≤ r ∧ r ≤ a) := by unfold mn mx; split <;> omega
theorem onB_iff' (a b r : S31) : onB a b r = true ↔ crs a b r = 0 ∧ (a.f0 ≤ r.f0 ∧ r.f0 ≤ b.f0 ∨ b.f0 ≤ r.f0 ∧ r.f0 ≤ a.f0) ∧ (a.f1 ≤ r.f1 ∧ r.f1 ≤ b.f1 ∨ b.f1 ≤ r.f1 ∧ r.f1 ≤ a.f1) := by rw [onB_iff, btw, btw]
theorem onB_neg (a b r : S31) : onB (neg a) (neg b) (neg r) = onB a b r := by
  rw [Bool.eq_iff_iff, onB_iff', onB_iff', crs_neg]
  unfold neg; simp only
  constructor <;> (intro ⟨h1, h2, h3⟩; exact ⟨h1, by omega, by omega⟩)
def Lf (a b r : S31) : Prop := 0 < crs a b r ∨ onB a b r = true
theorem Lf.nn {a b r : S31} (h : Lf a b r) : 0 ≤ crs a b r := by
  rcases h with h | h
  · omega
  · have := ((onB_iff a b r).1 h).1; omega
theorem Up.lf {a b r : S31} (h : Up a b r) (hab : ltP a b = true) : Lf a b r := by
  obtain ⟨h1, h2⟩ := h
  rcases Int.lt_or_eq_of_le h1 with h3 | h3
  · exact Or.inl h3
  · right
    obtain ⟨h4, h5⟩ := h2 h3.symm
    rw [onB_iff']
    refine ⟨h3.symm, ?_⟩
    have hc := h3.symm
    unfold crs at hc
    unfold ltP at hab h4 h5
    rw [decide_eq_true_eq] at hab h4 h5
    rcases hab with hab | ⟨ha, hab⟩
    · have hx0 : a.f0 ≤ r.f0 := by omega
      have hx1 : r.f0 ≤ b.f0 := by omega
      refine ⟨Or.inl ⟨hx0, hx1⟩, ?_⟩
      have hd : 0 < b.f0 - a.f0 := by omega
      rcases Int.le_total a.f1 b.f1 with hy | hy
      · left
        have m1 := nn_mul (a := b.f1 - a.f1) (b := r.f0 - a.f0) (by omega) (by omega)
        have m2 := nn_mul (a := b.f1 - a.f1) (b := b.f0 - r.f0) (by omega) (by omega)
        have e1 := nn_of (t := r.f1 - a.f1) hd (by omega)
        have e2 := nn_of (t := b.f1 - r.f1) hd (by grind)
        omega
      · right
        have m1 := nn_mul (a := a.f1 - b.f1) (b := r.f0 - a.f0) (by omega) (by omega)
        have m2 := nn_mul (a := a.f1 - b.f1) (b := b.f0 - r.f0) (by omega) (by omega)
        have e1 := nn_of (t := a.f1 - r.f1) hd (by grind)
        have e2 := nn_of (t := r.f1 - b.f1) hd (by grind)
        omega
    · have hx : r.f0 = a.f0 := by omega
      exact ⟨by omega, by omega⟩
def sqd (a b : S31) : Int := (a.f0 - b.f0) * (a.f0 - b.f0) + (a.f1 - b.f1) * (a.f1 - b.f1)
theorem sq_mono {s t : Int} (h : 0 ≤ s ∧ s ≤ t ∨ t ≤ s ∧ s ≤ 0) : s * s ≤ t * t := by
  rcases h with h | h
  · have := nn_mul (a := t - s) (b := t + s) (by omega) (by omega); grind
  · have := nn_mul (a := s - t) (b := -(t + s)) (by omega) (by omega); grind
theorem sq_mono_lt {s t : Int} (h : 0 ≤ s ∧ s < t ∨ t < s ∧ s ≤ 0) : s * s < t * t := by
  rcases h with h | h
  · have := ps_mul (a := t - s) (b := t + s) (by omega) (by omega); grind
  · have := ps_mul (a := s - t) (b := -(t + s)) (by omega) (by omega); grind
theorem on_sq {a b r : S31} (h : onB a b r = true) (hr : r ≠ b) : sqd a r < sqd a b := by
  obtain ⟨_, h1, h2⟩ := (onB_iff' a b r).1 h
  unfold sqd
  have hne : r.f0 ≠ b.f0 ∨ r.f1 ≠ b.f1 := by
    by_cases h0 : r.f0 = b.f0
    · exact Or.inr (fun h1 => hr (S31.ext' h0 h1))
    · exact Or.inl h0
  have m1 : (a.f0 - r.f0) * (a.f0 - r.f0) ≤ (a.f0 - b.f0) * (a.f0 - b.f0) := sq_mono (by omega)
  have m2 : (a.f1 - r.f1) * (a.f1 - r.f1) ≤ (a.f1 - b.f1) * (a.f1 - b.f1) := sq_mono (by omega)
  rcases hne with h3 | h3
  · have m3 : (a.f0 - r.f0) * (a.f0 - r.f0) < (a.f0 - b.f0) * (a.f0 - b.f0) := sq_mono_lt (by omega)
    omega
  · have m3 : (a.f1 - r.f1) * (a.f1 - r.f1) < (a.f1 - b.f1) * (a.f1 - b.f1) := sq_mono_lt (by omega)
    omega
def scStep (at_ tq p : S31) : S31 := if p = at_ then tq else if tq = at_ ∨ crs at_ tq p < 0 ∨ (crs at_ tq p = 0 ∧ sqd at_ tq < sqd at_ p) then p else tq
theorem scan_is (at_ b : S31) (hb : b ≠ at_) : ∀ (l : List S31) (tq : S31), (∀ p ∈ l, Lf at_ b p) → (tq = at_ ∨ Lf at_ b tq) → (b ∈ l ∨ tq = b) → l.foldl (scStep at_) tq = b := by
  intro l
  induction l with
  | nil => intro tq _ _ h; rcases h with h | h
           · simp at h
           · exact h
  | cons p l ih =>
    intro tq hl ht hb'
    rw [List.foldl_cons]
    have hp := hl p (by simp)
    by_cases hto : tq = b
    · refine ih _ (fun q hq => hl q (by simp [hq])) ?_ (Or.inr ?_)
      · unfold scStep; split
        · exact ht
        · split
          · exact Or.inr hp
          · exact ht
      · subst hto
        unfold scStep
        split
        · rfl
        · rename_i hpa
          rw [if_neg]
          rintro (h | h | ⟨h1, h2⟩)
          · exact hb h
          · have := hp.nn; omega
          · rcases hp with h | h
            · omega
            · by_cases he : p = tq
              · rw [he] at h2; omega
              · have := on_sq h he; omega
    · by_cases hpb : p = b
      · subst hpb
        refine ih _ (fun q hq => hl q (by simp [hq])) ?_ (Or.inr ?_)
        · unfold scStep; split
          · exact ht
          · split
            · exact Or.inr hp
            · exact ht
        · unfold scStep
          rw [if_neg hb]
          by_cases hta : tq = at_
          · rw [if_pos (Or.inl hta)]
          · rw [if_pos]
            rcases ht with h | h
            · exact absurd h hta
            · have e := crs_swap at_ p tq
              rcases h with h | h
              · right; left; omega
              · right; right
                have h0 := ((onB_iff at_ p tq).1 h).1
                exact ⟨by omega, on_sq h hto⟩
      · have hbl : b ∈ l := by
          rcases hb' with h | h
          · rw [List.mem_cons] at h
            rcases h with h | h
            · exact absurd h.symm hpb
            · exact h
          · exact absurd h hto
        refine ih _ (fun q hq => hl q (by simp [hq])) ?_ (Or.inl hbl)
        unfold scStep; split
        · exact ht
        · split
          · exact Or.inr hp
          · exact ht
def nxt (i n : Nat) : Nat := if i + 1 < n then i + 1 else 0
structure IsHull (l H : List S31) : Prop where
  pos : 0 < H.length
  mem : ∀ i, i < H.length → pt H i ∈ l
  least : ∀ r ∈ l, ¬ ltP r (pt H 0) = true
  one : H.length = 1 → ∀ r ∈ l, r = pt H 0
  ed : ∀ i, i < H.length → ∀ r ∈ l, Lf (pt H i) (pt H (nxt i H.length)) r
  ne : ∀ i, 0 < i → i < H.length → pt H i ≠ pt H 0
  ner : ∀ i, i + 1 < H.length → pt H i ≠ pt H (i + 1)
theorem onB_self (a : S31) : onB a a a = true := by rw [onB_iff']; refine ⟨crs_same a a, by omega, by omega⟩
theorem Ch.mono {R out : List S31} (H : Ch R out) : ∀ j i, i < j → j < out.length → ltP (pt out i) (pt out j) = true
  | 0, i, h, _ => by omega
  | j + 1, i, h, hj => by
    rcases Nat.lt_or_ge i j with h1 | h1
    · exact ltP_trans (Ch.mono H j i h1 (by omega)) (H.inc j hj)
    · obtain rfl : i = j := by omega
      exact H.inc i hj
theorem pt_dropLast (l : List S31) (i : Nat) (h : i + 1 < l.length) : pt l.dropLast i = pt l i := by
  rw [pt_eq _ _ (by rw [List.length_dropLast]; omega), pt_eq _ _ (by omega), List.getElem_dropLast]
theorem neg_inj {a b : S31} (h : neg a = neg b) : a = b := by rw [← neg_neg a, h, neg_neg]
theorem corners_hull (l : List S31) (h : 0 < l.length) : IsHull l (cornersS l) := by
  obtain ⟨has, hpos⟩ := sortedS_asc l h
  have hm := sortedS_mem l
  unfold cornersS
  generalize sortedS l = S at *
  by_cases h3 : S.length < 3
  · rw [if_pos h3]
    by_cases h2 : S.length = 1
    · have hone : ∀ r ∈ l, r = pt S 0 := by
        intro r hr
        obtain ⟨i, hi, rfl⟩ := mem_pt ((hm r).2 hr)
        obtain rfl : i = 0 := by omega
        rfl
      refine ⟨hpos, fun i hi => (hm _).1 (pt_mem S i hi), ?_, fun _ => hone, ?_, by omega, by omega⟩
      · intro r hr; rw [hone r hr]; exact ltP_irr _
      · intro i hi r hr
        obtain rfl : i = 0 := by omega
        have : nxt 0 S.length = 0 := by unfold nxt; rw [if_neg (by omega)]
        rw [this, hone r hr]; exact Or.inr (onB_self _)
    · have h2' : S.length = 2 := by omega
      have hlt := has 0 1 (by omega) (by omega)
      have htwo : ∀ r ∈ l, r = pt S 0 ∨ r = pt S 1 := by
        intro r hr
        obtain ⟨i, hi, rfl⟩ := mem_pt ((hm r).2 hr)
        have : i = 0 ∨ i = 1 := by omega
        rcases this with rfl | rfl
        · exact Or.inl rfl
        · exact Or.inr rfl
      refine ⟨hpos, fun i hi => (hm _).1 (pt_mem S i hi), ?_, by omega, ?_, ?_, ?_⟩
      · intro r hr
        rcases htwo r hr with rfl | rfl
        · exact ltP_irr _
        · exact ltP_asym hlt
      · have ends : ∀ a b : S31, Lf a b a ∧ Lf a b b := by
          intro a b
          exact ⟨Or.inr ((onB_iff' a b a).2 ⟨crs_same a b, by omega, by omega⟩), Or.inr ((onB_iff' a b b).2 ⟨crs_end a b, by omega, by omega⟩)⟩
        intro i hi r hr
        have : i = 0 ∨ i = 1 := by omega
        rcases this with rfl | rfl
        · rw [show nxt 0 S.length = 1 by unfold nxt; rw [if_pos (by omega)]]
          rcases htwo r hr with rfl | rfl
          · exact (ends _ _).1
          · exact (ends _ _).2
        · rw [show nxt 1 S.length = 0 by unfold nxt; rw [if_neg (by omega)]]
          rcases htwo r hr with rfl | rfl
          · exact (ends _ _).2
          · exact (ends _ _).1
      · intro i h0 hi e
        obtain rfl : i = 1 := by omega
        rw [e] at hlt; exact ltP_irr _ hlt
      · intro i hi e
        obtain rfl : i = 0 := by omega
        rw [e] at hlt; exact ltP_irr _ hlt
  · rw [if_neg h3]
    have hl := chain_ch S has hpos
    have hu := upper_ch S has hpos
    have hl0 := hl.lst
    generalize chainL S = A at *
    generalize chainL S.reverse = B at *
    have hBl : (B.map neg).length = B.length := List.length_map ..
    have hmR : ∀ r, r ∈ S → neg r ∈ S.reverse.map neg := fun r hr => List.mem_map.2 ⟨r, List.mem_reverse.2 hr, rfl⟩
    have hmR' : ∀ r, neg r ∈ S.reverse.map neg → r ∈ S := by
      intro r hr
      obtain ⟨q, hq, e⟩ := List.mem_map.1 hr
      rw [← neg_inj e]; exact List.mem_reverse.1 hq
    have e0 : pt A 0 = pt S 0 := by
      rcases ltP_tot (pt A 0) (pt S 0) with h1 | h1 | h1
      · obtain ⟨i, hi, e⟩ := mem_pt (hl.mem 0 hl.pos)
        rw [← e] at h1
        rcases Nat.eq_zero_or_pos i with rfl | h2
        · exact absurd h1 (ltP_irr _)
        · exact absurd h1 (ltP_asym (has 0 i h2 hi))
      · exact h1
      · exact absurd h1 (hl.hd _ (pt_mem S 0 hpos))
    have e1 : pt A (A.length - 1) = pt S (S.length - 1) := by
      rcases ltP_tot (pt A (A.length - 1)) (pt S (S.length - 1)) with h1 | h1 | h1
      · exact absurd h1 (hl.lst _ (pt_mem S _ (by omega)))
      · exact h1
      · obtain ⟨i, hi, e⟩ := mem_pt (hl.mem (A.length - 1) (by have := hl.pos; omega))
        rw [← e] at h1
        rcases Nat.lt_or_ge i (S.length - 1) with h2 | h2
        · exact absurd h1 (ltP_asym (has i _ h2 (by omega)))
        · rw [show i = S.length - 1 by omega] at h1; exact absurd h1 (ltP_irr _)
    have hBp : 0 < B.length := by have := hu.pos; rwa [hBl] at this
    have ninc : ∀ i, i + 1 < B.length → ltP (pt B (i + 1)) (pt B i) = true := by
      intro i hi; have := hu.inc i (by rw [hBl]; exact hi); rwa [pt_neg, pt_neg, ltP_neg] at this
    have nmono : ∀ i j, i < j → j < B.length → ltP (pt B j) (pt B i) = true := by
      intro i j hij hj; have := hu.mono j i hij (by rw [hBl]; exact hj); rwa [pt_neg, pt_neg, ltP_neg] at this
    have nmem : ∀ i, i < B.length → pt B i ∈ S := by
      intro i hi; have := hu.mem i (by rw [hBl]; exact hi); rw [pt_neg] at this; exact hmR' _ this
    have e2 : pt B 0 = pt S (S.length - 1) := by
      rcases ltP_tot (pt B 0) (pt S (S.length - 1)) with h1 | h1 | h1
      · have := hu.hd _ (hmR _ (pt_mem S (S.length - 1) (by omega)))
        rw [pt_neg, ltP_neg] at this; exact absurd h1 this
      · exact h1
      · obtain ⟨i, hi, e⟩ := mem_pt (nmem 0 hBp)
        rw [← e] at h1
        rcases Nat.lt_or_ge i (S.length - 1) with h2 | h2
        · exact absurd h1 (ltP_asym (has i _ h2 (by omega)))
        · rw [show i = S.length - 1 by omega] at h1; exact absurd h1 (ltP_irr _)
    have e3 : pt B (B.length - 1) = pt S 0 := by
      rcases ltP_tot (pt B (B.length - 1)) (pt S 0) with h1 | h1 | h1
      · obtain ⟨i, hi, e⟩ := mem_pt (nmem (B.length - 1) (by omega))
        rw [← e] at h1
        rcases Nat.eq_zero_or_pos i with rfl | h2
        · exact absurd h1 (ltP_irr _)
        · exact absurd h1 (ltP_asym (has 0 i h2 hi))
      · exact h1
      · have := hu.lst _ (hmR _ (pt_mem S 0 hpos))
        rw [pt_neg, ltP_neg, hBl] at this; exact absurd h1 this
    have hS := has 0 (S.length - 1) (by omega) (by omega)
    have hA2 : 2 ≤ A.length := by
      rcases Nat.lt_or_ge A.length 2 with h1 | h1
      · have h2 := hl.pos
        rw [show A.length - 1 = 0 by omega, e0] at e1
        rw [← e1] at hS; exact absurd hS (ltP_irr _)
      · exact h1
    have hB2 : 2 ≤ B.length := by
      rcases Nat.lt_or_ge B.length 2 with h1 | h1
      · rw [show B.length - 1 = 0 by omega, e2] at e3
        rw [e3] at hS; exact absurd hS (ltP_irr _)
      · exact h1
    have hlen : (A.dropLast ++ B.dropLast).length = A.length - 1 + (B.length - 1) := by rw [List.length_append, List.length_dropLast, List.length_dropLast]
    have hA : ∀ i, i < A.length - 1 → pt (A.dropLast ++ B.dropLast) i = pt A i := by
      intro i hi
      rw [pt_app_l _ _ _ (by rw [List.length_dropLast]; exact hi), pt_dropLast _ _ (by omega)]
    have hB : ∀ i, i < B.length - 1 → pt (A.dropLast ++ B.dropLast) (A.length - 1 + i) = pt B i := by
      intro i hi
      rw [pt_app_r _ _ _ (by rw [List.length_dropLast]; omega), List.length_dropLast, Nat.add_sub_cancel_left, pt_dropLast _ _ (by omega)]
    have hA' : pt (A.dropLast ++ B.dropLast) (A.length - 1) = pt A (A.length - 1) := by
      have := hB 0 (by omega); rw [Nat.add_zero] at this; rw [this, e2, e1]
    have h0 : pt (A.dropLast ++ B.dropLast) 0 = pt S 0 := by rw [hA 0 (by omega), e0]
    generalize A.dropLast ++ B.dropLast = H at *
    have part : ∀ i, i < H.length → i < A.length - 1 ∨ ∃ j, i = A.length - 1 + j ∧ j < B.length - 1 := by
      intro i hi
      rcases Nat.lt_or_ge i (A.length - 1) with h1 | h1
      · exact Or.inl h1
      · exact Or.inr ⟨i - (A.length - 1), by omega, by omega⟩
    have edA : ∀ i, i + 1 < A.length → ∀ r ∈ l, Lf (pt A i) (pt A (i + 1)) r := fun i hi r hr => (hl.ed i hi r ((hm r).2 hr)).lf (hl.inc i hi)
    have edB : ∀ i, i + 1 < B.length → ∀ r ∈ l, Lf (pt B i) (pt B (i + 1)) r := by
      intro i hi r hr
      have h4 := (hu.ed i (by rw [hBl]; exact hi) _ (hmR r ((hm r).2 hr))).lf (hu.inc i (by rw [hBl]; exact hi))
      rw [pt_neg, pt_neg] at h4
      unfold Lf at h4
      rw [crs_neg, onB_neg] at h4
      exact h4
    refine ⟨by omega, ?_, ?_, by omega, ?_, ?_, ?_⟩
    · intro i hi
      rcases part i hi with h1 | ⟨j, rfl, h1⟩
      · rw [hA i h1]; exact (hm _).1 (hl.mem i (by omega))
      · rw [hB j h1]; exact (hm _).1 (nmem j (by omega))
    · intro r hr
      rw [h0, ← e0]; exact hl.hd r ((hm r).2 hr)
    · intro i hi r hr
      rcases part i hi with h1 | ⟨j, rfl, h1⟩
      · rw [show nxt i H.length = i + 1 by unfold nxt; rw [if_pos (by omega)], hA i h1]
        have e : pt H (i + 1) = pt A (i + 1) := by
          rcases Nat.lt_or_ge (i + 1) (A.length - 1) with h2 | h2
          · exact hA _ h2
          · rw [show i + 1 = A.length - 1 by omega]; exact hA'
        rw [e]; exact edA i (by omega) r hr
      · rw [hB j h1]
        rcases Nat.lt_or_ge (j + 1) (B.length - 1) with h2 | h2
        · rw [show nxt (A.length - 1 + j) H.length = A.length - 1 + (j + 1) by unfold nxt; rw [if_pos (by omega)]; omega, hB _ h2]
          exact edB j (by omega) r hr
        · rw [show nxt (A.length - 1 + j) H.length = 0 by unfold nxt; rw [if_neg (by omega)], h0, ← e3, show B.length - 1 = j + 1 by omega]
          exact edB j (by omega) r hr
    · intro i h4 hi
      rw [h0]
      intro e
      rcases part i hi with h1 | ⟨j, rfl, h1⟩
      · rw [hA i h1] at e
        have := hl.mono i 0 h4 (by omega)
        rw [e, e0] at this; exact ltP_irr _ this
      · rw [hB j h1] at e
        have := nmono j (B.length - 1) h1 (by omega)
        rw [e, e3] at this; exact ltP_irr _ this
    · intro i hi e
      rcases part i (by omega) with h1 | ⟨j, rfl, h1⟩
      · rw [hA i h1] at e
        have e' : pt H (i + 1) = pt A (i + 1) := by
          rcases Nat.lt_or_ge (i + 1) (A.length - 1) with h2 | h2
          · exact hA _ h2
          · rw [show i + 1 = A.length - 1 by omega]; exact hA'
        rw [e'] at e
        have := hl.inc i (by omega)
        rw [e] at this; exact ltP_irr _ this
      · rw [hB j h1, Nat.add_assoc, hB (j + 1) (by omega)] at e
        have := ninc j (by omega)
        rw [e] at this; exact ltP_irr _ this
theorem hull_next {l H : List S31} (h : IsHull l H) (i : Nat) (hi : i < H.length) : l.foldl (scStep (pt H i)) (pt H i) = pt H (nxt i H.length) := by
  by_cases h1 : H.length = 1
  · obtain rfl : i = 0 := by omega
    rw [show nxt 0 H.length = 0 by unfold nxt; rw [if_neg (by omega)]]
    have hall := h.one h1
    generalize pt H 0 = a at *
    clear h h1 hi
    induction l with
    | nil => rfl
    | cons p l ih =>
      rw [List.foldl_cons, show scStep a a p = a by unfold scStep; rw [if_pos (hall p (by simp))]]
      exact ih (fun r hr => hall r (by simp [hr]))
  · have hb : pt H (nxt i H.length) ≠ pt H i := by
      unfold nxt
      split
      · rename_i h2; exact fun e => h.ner i h2 e.symm
      · rename_i h2; exact fun e => h.ne i (by omega) hi e.symm
    have hm : pt H (nxt i H.length) ∈ l := by
      refine h.mem _ ?_
      unfold nxt; split <;> omega
    exact scan_is _ _ hb l _ (h.ed i hi) (Or.inl rfl) (Or.inl hm)
end Go.Proofs.Ythaklbjcjoolcaa.P
namespace Go.Proofs.Ythaklbjcjoolcaa.P
open Go.RowKit YthaklbjcjoolcaaW.PrintWords YthaklbjcjoolcaaW.PrintLast YthaklbjcjoolcaaW.PrintMore
attribute [local go_sem] max2_int min2_int max_two min_two max_three min_three max_four min_four

def R1_Square.f (a0_0 : Int) (a0_1 : Int) (a1_0 : Int) (a1_1 : Int) : Option (Int) := some (wrap64 ((wrap64 ((wrap64 (a0_0 - a1_0)) * (wrap64 (a0_0 - a1_0)))) + (wrap64 ((wrap64 (a0_1 - a1_1)) * (wrap64 (a0_1 - a1_1))))))
set_option maxHeartbeats 8000000 in
set_option maxRecDepth 100000 in
theorem R1_Square.calls (a0_0 : Int) (a0_1 : Int) (a1_0 : Int) (a1_1 : Int) (r : Int) (w : World) (h : R1_Square.f a0_0 a0_1 a1_0 a1_1 = some r) :
  Calls Try.prog 65 #[.agg #[.int .i64 a0_0, .int .i64 a0_1], .agg #[.int .i64 a1_0, .int .i64 a1_1]] w fun e w' => e = .returned (.int .i64 r) ∧ Below w.heap.size w w' := by
 have hu31 := Try.underlying31
 have HB := Aside0.mk (Below.refl w.heap.size w)
 have H : (some (wrap64 ((wrap64 ((wrap64 (a0_0 - a1_0)) * (wrap64 (a0_0 - a1_0)))) + (wrap64 ((wrap64 (a0_1 - a1_1)) * (wrap64 (a0_1 - a1_1))))))) = some r := h
 clear h
 obtain rfl := Option.some.inj H
 go_enter Try.func65, Try.ntmps65
 go_wp2_with (first | ((with_reducible refine gate_dst (N := 2) rfl ?_); refine bxe 2 #[.int .i64 a0_0, .int .i64 a0_1] 31 ?_; intro gb602 hg w3 hbox hb; have n0_ := Aside0.mk (below_step lB hb); have n1_ := Aside0.mk (hbox); have n2_ := Aside0.mk (lG (w := w) hg); have n3_ := Aside0.mk (lG (w := w) hg); clear HB; have HB := n0_; have BK602 := n1_; have GW602 := n2_; have GE602 := n3_; clear n0_ n1_ n2_ n3_; clear hb hbox hg) | ((with_reducible refine gate_dst (N := 3) rfl ?_); refine bxe 3 #[.int .i64 a1_0, .int .i64 a1_1] 31 ?_; intro gb603 hg w4 hbox hb; have n0_ := Aside0.mk (blk_below (g := gb602) (o := .cells #[.int .i64 a0_0, .int .i64 a0_1] 31 (0, 0)) (kX BK602.out) hb); have n1_ := Aside0.mk (below_step lB hb); have n2_ := Aside0.mk (hbox); have n3_ := Aside0.mk (lG (w := w) hg); have n4_ := Aside0.mk (lG (w := w) hg); have n5_ := Aside0.mk ((by rw [hg]; exact Nat.ne_of_lt (blk_lt (g := gb602) (o := .cells #[.int .i64 a0_0, .int .i64 a0_1] 31 (0, 0)) (kX BK602.out)) : gb602 ≠ gb603)); have n6_ := Aside0.mk ((by rw [hg]; exact Nat.ne_of_gt (blk_lt (g := gb602) (o := .cells #[.int .i64 a0_0, .int .i64 a0_1] 31 (0, 0)) (kX BK602.out)) : gb603 ≠ gb602)); clear BK602; clear HB; have BK602 := n0_; have HB := n1_; have BK603 := n2_; have GW603 := n3_; have GE603 := n4_; have NB602_603 := n5_; have NB603_602 := n6_; clear n0_ n1_ n2_ n3_ n4_ n5_ n6_; clear hb hbox hg; have hnb5 := NB602_603.out; have hnc5 := NB603_602.out; have hcz6_0 : w4.cell? ⟨gb602, 0, none⟩ = some (.int .i64 a0_0) := (blk_cell BK602.out 0).trans rfl; have hcz6_1 : w4.cell? ⟨gb602, 1, none⟩ = some (.int .i64 a0_1) := (blk_cell BK602.out 1).trans rfl; have hfz6_0 := blk_frozen BK602.out 0; have hfz6_1 := blk_frozen BK602.out 1; have hcz7_0 : w4.cell? ⟨gb603, 0, none⟩ = some (.int .i64 a1_0) := (blk_cell BK603.out 0).trans rfl; have hcz7_1 : w4.cell? ⟨gb603, 1, none⟩ = some (.int .i64 a1_1) := (blk_cell BK603.out 1).trans rfl; have hfz7_0 := blk_frozen BK603.out 0; have hfz7_1 := blk_frozen BK603.out 1))
 go_ret
 exact en

end Go.Proofs.Ythaklbjcjoolcaa.P
namespace Go.Proofs.Ythaklbjcjoolcaa.P
open Go.RowKit Go.Shelf Go.Sort YthaklbjcjoolcaaW.PrintWords YthaklbjcjoolcaaW.PrintLast YthaklbjcjoolcaaW.PrintMore
attribute [local go_sem high] eqA31
theorem refturn_is {a b c : S31} (ha : okPt a = true) (hb : okPt b = true) (hc : okPt c = true) : R1_Turn.f a.f0 a.f1 b.f0 b.f1 c.f0 c.f1 = some (sgn (crs a b c)) := by
  rw [← turn_is ha hb hc]
  unfold R1_Turn.f plane_turn.f R1_cross.f plane_cross.f
  simp only [Option.bind_some, compare_is]
  unfold R1_Sign.f cmpI
  generalize wrap64 _ = x
  by_cases h : x > 0
  · rw [if_pos h, if_neg (by omega), if_pos h]
    rfl
  · rw [if_neg h]
    by_cases h2 : x < 0
    · rw [if_pos h2, if_pos h2]; rfl
    · rw [if_neg h2, if_neg h2, if_neg h]; rfl
theorem eqB' (p q : S31) : ((p.f0 == q.f0 && p.f1 == q.f1) = true) ↔ p = q := by rw [eqB, decide_eq_true_eq]
def lsStep (f p : S31) : S31 := if ltP p f = true then p else f
theorem foldl_snoc (l : List S31) (g : S31 → S31 → S31) (a : S31) (k : Nat) (h : k < l.length) : (l.take (k + 1)).foldl g a = g ((l.take k).foldl g a) (pt l k) := by rw [take_pt l k h, List.foldl_append]; rfl
theorem ls_is : ∀ (l : List S31) (f : S31), ¬ ltP f (l.foldl lsStep f) = true ∧ (∀ r ∈ l, ¬ ltP r (l.foldl lsStep f) = true) ∧ (l.foldl lsStep f = f ∨ l.foldl lsStep f ∈ l)
  | [], f => ⟨ltP_irr f, by simp, Or.inl rfl⟩
  | p :: l, f => by
    rw [List.foldl_cons]
    obtain ⟨h1, h2, h3⟩ := ls_is l (lsStep f p)
    have key : ∀ q, (q = f ∨ q = p) → ¬ ltP q (l.foldl lsStep (lsStep f p)) = true := by
      intro q hq h
      refine h1 ?_
      by_cases hc : ltP p f = true
      · have e : lsStep f p = p := by unfold lsStep; rw [if_pos hc]
        rcases hq with rfl | rfl
        · rw [e] at h ⊢; exact ltP_trans hc h
        · rw [e] at h ⊢; exact h
      · have e : lsStep f p = f := by unfold lsStep; rw [if_neg hc]
        rcases hq with rfl | rfl
        · rw [e] at h ⊢; exact h
        · rw [e] at h ⊢
          rcases ltP_tot f q with h4 | h4 | h4
          · exact ltP_trans h4 h
          · subst h4; exact h
          · exact absurd h4 hc
    refine ⟨key f (Or.inl rfl), ?_, ?_⟩
    · intro r hr
      rw [List.mem_cons] at hr
      rcases hr with rfl | hr
      · exact key _ (Or.inr rfl)
      · exact h2 r hr
    · rcases h3 with h3 | h3
      · rw [h3]
        unfold lsStep; split
        · right; simp
        · left; rfl
      · right; simp [h3]
theorem least_first (l : List S31) (h0 : 1 ≤ l.length) : l.foldl lsStep (pt l 0) = pt (cornersS l) 0 := by
  have hH := corners_hull l h0
  obtain ⟨h1, h2, h3⟩ := ls_is l (pt l 0)
  have hm : l.foldl lsStep (pt l 0) ∈ l := by
    rcases h3 with h3 | h3
    · rw [h3]; exact pt_mem l 0 h0
    · exact h3
  rcases ltP_tot (l.foldl lsStep (pt l 0)) (pt (cornersS l) 0) with h | h | h
  · exact absurd h (hH.least _ hm)
  · exact h
  · exact absurd h (h2 _ (hH.mem 0 hH.pos))
theorem cornersS_len' (l : List S31) : (cornersS l).length ≤ 2 * l.length := by
  have h1 := sortedS_len l
  unfold cornersS
  split
  · omega
  · have h2 := chainL_len (sortedS l)
    have h3 := chainL_len (sortedS l).reverse
    rw [List.length_reverse] at h3
    rw [List.length_append, List.length_dropLast, List.length_dropLast]; omega
def refhull_T : Bool × List (List Nat × List Nat) := (true, [([], []), ([], []), ([0, 1], [0, 1]), ([2], [2]), ([3], [3]), ([4, 3], [3, 4]), ([3, 5], [3, 5]), ([6, 3], [6]), ([7], [7]), ([8, 7], [7, 8]), ([9, 7, 7], [7, 9]), ([10], [10]), ([10], [10]), ([11, 12, 10, 10], [10, 11, 12]), ([10], [10]), ([10], [10]), ([14, 15, 13, 10], [10, 14, 15]), ([13, 16, 10], [10, 13, 16]), ([10, 17, 7], [7, 10, 17]), ([7, 18], [7, 18])])
def refhull_B : List Nat := [0, 0, 3, 7, 15, 31, 63, 127, 255, 511, 1023, 2047, 2047, 8191, 2047, 2047, 65535, 131071, 262143, 524287]
theorem refhull_tab : rtab .any (opsOf Try.f35 17) = refhull_T := by kernel_rfl
theorem refhull_bits : waitsOk refhull_T.2 refhull_B = true := by kernel_rfl
theorem sqd_is {a b : S31} (ha : okPt a = true) (hb : okPt b = true) : R1_Square.f a.f0 a.f1 b.f0 b.f1 = some (sqd a b) := by
  rw [okPt_iff] at ha hb
  have h1 := mul_bd (a := a.f0 - b.f0) (b := a.f0 - b.f0) (m := 8192) (n := 8192) (by omega) (by omega)
  have h2 := mul_bd (a := a.f1 - b.f1) (b := a.f1 - b.f1) (m := 8192) (n := 8192) (by omega) (by omega)
  unfold R1_Square.f sqd
  rw [w64i (x := a.f0 - b.f0) (by omega) (by omega), w64i (x := a.f1 - b.f1) (by omega) (by omega), w64i (x := (a.f0 - b.f0) * (a.f0 - b.f0)) (by omega) (by omega), w64i (x := (a.f1 - b.f1) * (a.f1 - b.f1)) (by omega) (by omega), w64i (by omega) (by omega)]
set_option maxHeartbeats 4000000 in
set_option maxRecDepth 100000 in
theorem refhull_calls (A0 : Option Addr) (c0 : Nat) (l0 : List S31) (w : World) (hr0 : Kd.C k31 w A0 l0.length l0) (hc0 : l0.length ≤ c0) (hl1 : 1 ≤ l0.length) (hsz : l0.length ≤ 4096) (hok : allOk l0 = true) :
    Calls Try.prog 35 #[.slice A0 l0.length c0] w fun e w' => ∃ v, e = .returned v ∧ Kd.R k31 31 w' w.heap.size (fun _ => True) v (cornersS l0) ∧ Below w.heap.size w w' := by
  obtain ⟨i0, hi, hz0, hz1, hz2⟩ := info_parts info31
  have HI0 := Aside0.mk (show Try.prog.info? 31 = some i0 ∧ i0.zero = some (.agg #[.int .i64 0, .int .i64 0]) ∧ i0.size = 2 ∧ i0.bytes = 16 from ⟨hi, hz0, hz1, hz2⟩)
  have HR0 := Aside0.mk hr0
  have HB0 := Aside0.mk (Below.refl w.heap.size w)
  have HOK := Aside0.mk hok
  obtain ⟨ad, rfl, hx0, hx1⟩ := at_T31 hr0 (0 : Int) (by omega) (by omega)
  rw [show rd_T31 l0 0 = pt l0 0 from rfl] at hx0 hx1
  simp only [Int.toNat_zero, Nat.zero_mul, Addr.add_zero'] at hx0 hx1
  have hlI : (0 : Int) < ((l0.length : Nat) : Int) := by omega
  have BF0 := Aside0.mk (heap_alloc_new w (Obj.cells #[.int .i64 (pt l0 0).f0, .int .i64 (pt l0 0).f1] 31))
  have HB1 := Aside0.mk (below_alloc (Below.refl w.heap.size w) (Obj.cells #[.int .i64 (pt l0 0).f0, .int .i64 (pt l0 0).f1] 31))
  clear hr0 hok hi hz0 hz1 hz2
  have HE0 := Aside0.mk (least_first l0 hl1)
  have HLN := Aside0.mk (show (cornersS l0).length ≤ 8192 by have := cornersS_len' l0; omega)
  generalize hp0 : pt l0 0 = p0 at *
  have HP0 := Aside0.mk hp0
  clear hp0
  go_enter Try.func35, Try.ntmps35
  go_wp2
  go_loopw [4] (fun v4 wr => ∃ k : Nat, k ≤ l0.length ∧ v4 = .int .i64 k ∧ Aside0 (wr.heap[w.heap.size]? = some (.cells #[.int .i64 ((l0.take k).foldl lsStep p0).f0, .int .i64 ((l0.take k).foldl lsStep p0).f1] 31 (0, 0))) ∧ Aside0 (Below w.heap.size w wr)) (fun v4 _ => l0.length - (intOf v4).toNat)
  case atStart => exact ⟨0, by omega, rfl, BF0, HB1⟩
  case round =>
    obtain ⟨k, hk, rfl, BF, HB⟩ := hrel
    clear BF0 HB1 HB0 hx0 hx1
    by_cases hlt : k < l0.length
    · obtain ⟨ad', had', hx0, hx1⟩ := at_T31 (Kd.C_below HR0.out HB.out) (k : Int) (by omega) (by omega)
      cases had'
      rw [rd_pt, Int.toNat_natCast] at hx0 hx1
      have hltI : ((k : Nat) : Int) < ((l0.length : Nat) : Int) := by omega
      have HF := Aside0.mk (foldl_snoc l0 lsStep p0 k hlt)
      generalize pt l0 k = p at *
      generalize (l0.take k).foldl lsStep p0 = f at *
      have b0 : wr.cell? ⟨w.heap.size, 0, none⟩ = some (.int .i64 f.f0) := blk_cell BF.out 0
      have b1 : wr.cell? ⟨w.heap.size, 1, none⟩ = some (.int .i64 f.f1) := blk_cell BF.out 1
      have g0 := blk_frozen BF.out 0
      have g1 := blk_frozen BF.out 1
      by_cases c1 : p.f0 < f.f0
      · have d1 : decide (p.f0 < f.f0) = true := decide_eq_true c1
        have HL := Aside0.mk (show lsStep f p = p by unfold lsStep ltP; rw [if_pos (by rw [decide_eq_true_eq]; exact Or.inl c1)])
        go_wp2
        go_quiet (fail)
        go_wp2
        go_roundw
        case rel => exact ⟨k + 1, by omega, by go_num, ⟨by rw [HF.out, HL.out]; exact blk_put (blk_put (kN BF.out nq) 0 _ rfl) 1 _ rfl⟩, ⟨lS (lS (lN HB.out nq) (Nat.le_refl _)) (Nat.le_refl _)⟩⟩
        case measure => simp [intOf]; omega
      · have d1 : decide (p.f0 < f.f0) = false := decide_eq_false c1
        by_cases c2 : p.f0 = f.f0
        · have d2 : (p.f0 == f.f0) = true := by rw [beq_iff_eq]; exact c2
          by_cases c3 : p.f1 < f.f1
          · have d3 : decide (p.f1 < f.f1) = true := decide_eq_true c3
            have HL := Aside0.mk (show lsStep f p = p by unfold lsStep ltP; rw [if_pos (by rw [decide_eq_true_eq]; exact Or.inr ⟨c2, c3⟩)])
            go_wp2
            go_quiet (fail)
            go_wp2
            go_roundw
            case rel => exact ⟨k + 1, by omega, by go_num, ⟨by rw [HF.out, HL.out, c2]; exact blk_put (blk_put (kN BF.out nq) 0 _ rfl) 1 _ rfl⟩, ⟨lS (lS (lN HB.out nq) (Nat.le_refl _)) (Nat.le_refl _)⟩⟩
            case measure => simp [intOf]; omega
          · have d3 : decide (p.f1 < f.f1) = false := decide_eq_false c3
            have HL := Aside0.mk (show lsStep f p = f by unfold lsStep ltP; rw [if_neg (by rw [decide_eq_true_eq]; omega)])
            go_wp2
            go_quiet (fail)
            go_wp2
            go_roundw
            case rel => exact ⟨k + 1, by omega, by go_num, ⟨by rw [HF.out, HL.out]; exact kN BF.out nq⟩, ⟨lN HB.out nq⟩⟩
            case measure => simp [intOf]; omega
        · have d2 : (p.f0 == f.f0) = false := by rw [beq_eq_false_iff_ne]; exact c2
          have HL := Aside0.mk (show lsStep f p = f by unfold lsStep ltP; rw [if_neg (by rw [decide_eq_true_eq]; omega)])
          go_wp2
          go_quiet (fail)
          go_wp2
          go_roundw
          case rel => exact ⟨k + 1, by omega, by go_num, ⟨by rw [HF.out, HL.out]; exact kN BF.out nq⟩, ⟨lN HB.out nq⟩⟩
          case measure => simp [intOf]; omega
    · obtain rfl : k = l0.length := by omega
      rw [List.take_length] at BF
      rw [HE0.out] at BF
      obtain ⟨gF, hgF⟩ : ∃ g, g = w.heap.size := ⟨_, rfl⟩
      have HGF := Aside0.mk (show w.heap.size ≤ gF by omega)
      rw [← hgF] at BF
      rw [← hgF]
      clear hgF HP0
      have b0 : wr.cell? ⟨gF, 0, none⟩ = some (.int .i64 (pt (cornersS l0) 0).f0) := blk_cell BF.out 0
      have b1 : wr.cell? ⟨gF, 1, none⟩ = some (.int .i64 (pt (cornersS l0) 0).f1) := blk_cell BF.out 1
      have HH := Aside0.mk (corners_hull l0 (by omega))
      have hHl := HH.out.pos
      generalize hH : cornersS l0 = H at *
      have HHE := Aside0.mk hH
      clear hH
      have hHl2 : H.length ≤ 8192 := HLN.out
      generalize hf : pt H 0 = f at *
      have HPF := Aside0.mk hf
      clear hf
      go_wp2_with (first | ((with_reducible refine gate_builtin (b := .append) (xs := #[.tmp 52, .tmp 54]) rfl ?_); at_builtin; refine Kd.R_append k31 (w0 := w) w.heap.size rfl (.tmp 52) (.tmp 54) 22 31 (.agg #[(.int .i64 0), (.int .i64 0)]) 16 rfl Try.underlying22 info31 rfl (by decide) (by omega) (.slice none 0 0) ([] : List S31) f [.int .i64 f.f0, .int .i64 f.f1] (fun k_ => k_ ≠ gF) (fun _ => False) rfl rfl ?aP (fun _ hk => hk.elim) ?aF ?aO ?aB ?aS ?aL ?_; (case aP => exact k31_mkM _ _ _ f); (case aB => exact HB.out); (case aF => exact (fun k_ hk => Kd.freshB (g := gF) (kX BF.out) k_ hk)); (case aO => exact ((Kd.R_nil _ _ _ _ (fun k_ => k_ ≠ gF)))); (case aS => exact (below_size HB.out)); (case aL => simp only [List.length_nil]; omega); intro v5 w5 ho hb hg hat; have BF5 := Aside0.mk (blk_grown (g := gF) (kX BF.out) hg (by simp [Value.ownBlock])); have HB5 := Aside0.mk hb; have HO5 := Aside0.mk ho; clear BF HB ho hb hg hat; have b50 : w5.cell? ⟨gF, 0, none⟩ = some (.int .i64 f.f0) := blk_cell BF5.out 0; have b51 : w5.cell? ⟨gF, 1, none⟩ = some (.int .i64 f.f1) := blk_cell BF5.out 1))
      have BA5 := Aside0.mk (heap_alloc_new w5 (Obj.cells #[.int .i64 f.f0, .int .i64 f.f1] 31))
      have HLF := Aside0.mk (blk_lt BF5.out)
      have HLW := Aside0.mk (below_size HB5.out)
      have HT1 := Aside0.mk (show H.take 1 = [] ++ [f] by rw [show (1 : Nat) = 0 + 1 from rfl, take_pt H 0 hHl, HPF.out]; rfl)
      go_loopg [5, 6] H.length (fun kq v5 v6 wr => ∃ (i gA : Nat), i + kq = H.length ∧ i < H.length ∧ v6 = .pointer (some ⟨gA, 0, none⟩) ∧ Aside0 (w.heap.size ≤ gA ∧ gF ≠ gA) ∧ Aside0 (Kd.R k31 31 wr w.heap.size (fun k_ => k_ ≠ gF ∧ k_ ≠ gA) v5 (H.take (i + 1))) ∧ Aside0 (wr.heap[gF]? = some (.cells #[.int .i64 f.f0, .int .i64 f.f1] 31 (0, 0))) ∧ Aside0 (wr.heap[gA]? = some (.cells #[.int .i64 (pt H i).f0, .int .i64 (pt H i).f1] 31 (0, 0))) ∧ Aside0 (Below w.heap.size w wr))
      case atStart =>
        refine ⟨0, w5.heap.size, by omega, hHl, rfl, ⟨by have := HLW.out; omega, by have := HLF.out; omega⟩, ⟨?_⟩, ⟨?_⟩, ⟨?_⟩, ⟨?_⟩⟩
        · rw [show 0 + 1 = 1 from rfl, HT1.out]
          exact Kd.R_mono (Kd.R_alloc (Kd.R_elderB HO5.out w5.heap.size (Nat.le_refl _)) _) (fun k_ hk => hk)
        · exact kA BF5.out _
        · rw [HPF.out]; exact BA5.out
        · exact lA HB5.out _
      case round =>
        clear HO5 BF5 HB5 BA5 b0 b1 b50 b51 HT1
        obtain ⟨i, gA, hik, hi, rfl, HGA, HO, BF, BA, HB⟩ := hrel
        have a0 : wr.cell? ⟨gA, 0, none⟩ = some (.int .i64 (pt H i).f0) := blk_cell BA.out 0
        have a1 : wr.cell? ⟨gA, 1, none⟩ = some (.int .i64 (pt H i).f1) := blk_cell BA.out 1
        have HNX := Aside0.mk (hull_next HH.out i hi)
        have HOA := Aside0.mk (show okPt (pt H i) = true from List.all_eq_true.1 HOK.out _ (HH.out.mem i hi))
        have HNE := Aside0.mk (show (i + 1 < H.length → nxt i H.length = i + 1 ∧ pt H (i + 1) ≠ pt H i ∧ pt H (i + 1) ≠ f) ∧ (¬ i + 1 < H.length → nxt i H.length = 0) from ⟨fun h => ⟨by unfold nxt; rw [if_pos h], fun e => HH.out.ner i h e.symm, by rw [← HPF.out]; exact HH.out.ne (i + 1) (by omega) h⟩, fun h => by unfold nxt; rw [if_neg h]⟩)
        generalize hat : pt H i = at' at *
        clear hat
        obtain ⟨gT, hgT⟩ : ∃ g, g = wr.heap.size := ⟨_, rfl⟩
        have HLF := Aside0.mk (blk_lt BF.out)
        have HLA := Aside0.mk (blk_lt BA.out)
        have HLW := Aside0.mk (below_size HB.out)
        have HGT := Aside0.mk (show w.heap.size ≤ gT ∧ gF ≠ gT ∧ gA ≠ gT from ⟨by have := HLW.out; omega, by have := HLF.out; omega, by have := HLA.out; omega⟩)
        have BT0 := Aside0.mk (heap_alloc_new wr (Obj.cells #[.int .i64 at'.f0, .int .i64 at'.f1] 31))
        have HO0 := Aside0.mk (Kd.R_alloc (Kd.R_elderB HO.out wr.heap.size (Nat.le_refl _)) (Obj.cells #[.int .i64 at'.f0, .int .i64 at'.f1] 31))
        have BF0 := Aside0.mk (kA BF.out (Obj.cells #[.int .i64 at'.f0, .int .i64 at'.f1] 31))
        have BA0 := Aside0.mk (kA BA.out (Obj.cells #[.int .i64 at'.f0, .int .i64 at'.f1] 31))
        have HB0 := Aside0.mk (lA HB.out (Obj.cells #[.int .i64 at'.f0, .int .i64 at'.f1] 31))
        rw [← hgT] at BT0 HO0
        clear HO BF BA HB HLF HLA HLW
        go_wp2
        rw [← hgT]
        clear hgT
        go_loopw [8] (fun v8 wx => ∃ j : Nat, j ≤ l0.length ∧ v8 = .int .i64 j ∧ Aside0 (okPt ((l0.take j).foldl (scStep at') at') = true) ∧ Aside0 (wx.heap[gT]? = some (.cells #[.int .i64 ((l0.take j).foldl (scStep at') at').f0, .int .i64 ((l0.take j).foldl (scStep at') at').f1] 31 (0, 0))) ∧ Aside0 (Kd.R k31 31 wx w.heap.size (fun k_ => (k_ ≠ gF ∧ k_ ≠ gA) ∧ k_ ≠ gT) u5 (H.take (i + 1))) ∧ Aside0 (wx.heap[gF]? = some (.cells #[.int .i64 f.f0, .int .i64 f.f1] 31 (0, 0))) ∧ Aside0 (wx.heap[gA]? = some (.cells #[.int .i64 at'.f0, .int .i64 at'.f1] 31 (0, 0))) ∧ Aside0 (Below w.heap.size w wx)) (fun v8 _ => l0.length - (intOf v8).toNat)
        case atStart => exact ⟨0, by omega, rfl, HOA, BT0, HO0, BF0, BA0, HB0⟩
        case round =>
          clear BT0 HO0 BF0 BA0 HB0 a0 a1
          obtain ⟨j, hj, rfl, HOT, BT, HO, BF, BA, HB⟩ := hrel
          have t0 : wr.cell? ⟨gT, 0, none⟩ = some (.int .i64 ((l0.take j).foldl (scStep at') at').f0) := blk_cell BT.out 0
          have t1 : wr.cell? ⟨gT, 1, none⟩ = some (.int .i64 ((l0.take j).foldl (scStep at') at').f1) := blk_cell BT.out 1
          have ft0 := blk_frozen BT.out 0
          have ft1 := blk_frozen BT.out 1
          have a0 : wr.cell? ⟨gA, 0, none⟩ = some (.int .i64 at'.f0) := blk_cell BA.out 0
          have a1 : wr.cell? ⟨gA, 1, none⟩ = some (.int .i64 at'.f1) := blk_cell BA.out 1
          by_cases hlt : j < l0.length
          · obtain ⟨ad', had', hx0, hx1⟩ := at_T31 (Kd.C_below HR0.out HB.out) (j : Int) (by omega) (by omega)
            cases had'
            rw [rd_pt, Int.toNat_natCast] at hx0 hx1
            have hltI : ((j : Nat) : Int) < ((l0.length : Nat) : Int) := by omega
            have HS := Aside0.mk (foldl_snoc l0 (scStep at') at' j hlt)
            have HOP := Aside0.mk (show okPt (pt l0 j) = true from List.all_eq_true.1 HOK.out _ (pt_mem l0 j hlt))
            generalize pt l0 j = p at *
            generalize (l0.take j).foldl (scStep at') at' = tq at *
            obtain ⟨gP, hgP⟩ : ∃ g, g = wr.heap.size := ⟨_, rfl⟩
            have HLF := Aside0.mk (blk_lt BF.out)
            have HLA := Aside0.mk (blk_lt BA.out)
            have HLT := Aside0.mk (blk_lt BT.out)
            have BP1 := Aside0.mk (heap_alloc_new wr (Obj.cells #[.int .i64 p.f0, .int .i64 p.f1] 31))
            have BT1 := Aside0.mk (kA BT.out (Obj.cells #[.int .i64 p.f0, .int .i64 p.f1] 31))
            have HO1 := Aside0.mk (Kd.R_alloc HO.out (Obj.cells #[.int .i64 p.f0, .int .i64 p.f1] 31))
            have BF1 := Aside0.mk (kA BF.out (Obj.cells #[.int .i64 p.f0, .int .i64 p.f1] 31))
            have BA1 := Aside0.mk (kA BA.out (Obj.cells #[.int .i64 p.f0, .int .i64 p.f1] 31))
            have HB1 := Aside0.mk (lA HB.out (Obj.cells #[.int .i64 p.f0, .int .i64 p.f1] 31))
            have a0' : (wr.alloc (Obj.cells #[.int .i64 p.f0, .int .i64 p.f1] 31)).cell? ⟨gA, 0, none⟩ = some (.int .i64 at'.f0) := blk_cell BA1.out 0
            have a1' : (wr.alloc (Obj.cells #[.int .i64 p.f0, .int .i64 p.f1] 31)).cell? ⟨gA, 1, none⟩ = some (.int .i64 at'.f1) := blk_cell BA1.out 1
            have t0' : (wr.alloc (Obj.cells #[.int .i64 p.f0, .int .i64 p.f1] 31)).cell? ⟨gT, 0, none⟩ = some (.int .i64 tq.f0) := blk_cell BT1.out 0
            have t1' : (wr.alloc (Obj.cells #[.int .i64 p.f0, .int .i64 p.f1] 31)).cell? ⟨gT, 1, none⟩ = some (.int .i64 tq.f1) := blk_cell BT1.out 1
            by_cases e1 : p = at'
            · have d1 : (p.f0 == at'.f0 && p.f1 == at'.f1) = true := (eqB' p at').2 e1
              have HSS := Aside0.mk (show scStep at' tq p = tq by unfold scStep; rw [if_pos e1])
              clear e1
              go_wp2
              go_roundw
              case rel => exact ⟨j + 1, by omega, by go_num, ⟨by rw [HS.out, HSS.out]; exact HOT.out⟩, ⟨by rw [HS.out, HSS.out]; exact BT1.out⟩, HO1, BF1, BA1, HB1⟩
              case measure => simp [intOf]; omega
            · have d1 : (p.f0 == at'.f0 && p.f1 == at'.f1) = false := by rw [eqB, decide_eq_false_iff_not]; exact e1
              have HSS := Aside0.mk (show scStep at' tq p = if tq = at' ∨ crs at' tq p < 0 ∨ (crs at' tq p = 0 ∧ sqd at' tq < sqd at' p) then p else tq by unfold scStep; rw [if_neg e1])
              have HPT := Aside0.mk (show okPt (scStep at' tq p) = true by unfold scStep; split; exact HOT.out; split; exact HOP.out; exact HOT.out)
              clear e1
              have HTU := Aside0.mk (refturn_is HOA.out HOT.out HOP.out)
              generalize hcr : crs at' tq p = cr at *
              clear hcr
              go_wp2_with (first | (go_at_call 31; go_must (refine (R1_Turn.calls at'.f0 at'.f1 tq.f0 tq.f1 p.f0 p.f1 _ _ HTU.out).mono ?_); rintro e w3 ⟨rfl, hb3⟩; have HO3 := Aside0.mk (Kd.R_below HO1.out hb3); have BF3 := Aside0.mk (blk_below BF1.out hb3); have BA3 := Aside0.mk (blk_below BA1.out hb3); have BT3 := Aside0.mk (blk_below BT1.out hb3); have BP3 := Aside0.mk (blk_below BP1.out hb3); have HB3 := Aside0.mk (below_step HB1.out hb3); clear hb3))
              rw [← hgP] at BP3
              rw [← hgP]
              have GP := Aside0.mk (show w.heap.size ≤ gP ∧ gF ≠ gP ∧ gA ≠ gP ∧ gT ≠ gP from ⟨by have := below_size HB.out; omega, by have := HLF.out; omega, by have := HLA.out; omega, by have := HLT.out; omega⟩)
              clear hgP a0 a1 t0 t1 a0' a1' t0' t1' ft0 ft1 HO1 BF1 BA1 BT1 BP1 HB1 HO BF BA BT HB HLF HLA HLT hx0 hx1
              have a0 : w3.cell? ⟨gA, 0, none⟩ = some (.int .i64 at'.f0) := blk_cell BA3.out 0
              have a1 : w3.cell? ⟨gA, 1, none⟩ = some (.int .i64 at'.f1) := blk_cell BA3.out 1
              have t0 : w3.cell? ⟨gT, 0, none⟩ = some (.int .i64 tq.f0) := blk_cell BT3.out 0
              have t1 : w3.cell? ⟨gT, 1, none⟩ = some (.int .i64 tq.f1) := blk_cell BT3.out 1
              have p0' : w3.cell? ⟨gP, 0, none⟩ = some (.int .i64 p.f0) := blk_cell BP3.out 0
              have p1' : w3.cell? ⟨gP, 1, none⟩ = some (.int .i64 p.f1) := blk_cell BP3.out 1
              have ft0 := blk_frozen BT3.out 0
              have ft1 := blk_frozen BT3.out 1
              have HSG := Aside0.mk (show (cr < 0 ↔ sgn cr < 0) ∧ (cr = 0 ↔ sgn cr = 0) from ⟨sgn_neg.symm, sgn_zero.symm⟩)
              have HQ1 := Aside0.mk (sqd_is HOA.out HOP.out)
              have HQ2 := Aside0.mk (sqd_is HOA.out HOT.out)
              generalize sgn cr = sg at *
              by_cases e2 : tq = at'
              · have d2 : (tq.f0 == at'.f0 && tq.f1 == at'.f1) = true := (eqB' tq at').2 e2
                have HS2 := Aside0.mk (show scStep at' tq p = p by rw [HSS.out, if_pos (Or.inl e2)])
                clear HSS e2
                go_quiet (fail)
                go_wp2
                go_roundw
                case rel => exact ⟨j + 1, by omega, by go_num, ⟨by rw [HS.out]; exact HPT.out⟩, ⟨by rw [HS.out, HS2.out]; exact blk_put (blk_put (kN BT3.out nq) 0 _ rfl) 1 _ rfl⟩, ⟨Kd.R_far (p := ⟨gT, 1, none⟩) (Kd.R_far (p := ⟨gT, 0, none⟩) (Kd.R_drewN HO3.out nq) (fun _ h => h.2) _) (fun _ h => h.2) _⟩, ⟨blk_far (blk_far (kN BF3.out nq) HGT.out.2.1 _) HGT.out.2.1 _⟩, ⟨blk_far (blk_far (kN BA3.out nq) HGT.out.2.2 _) HGT.out.2.2 _⟩, ⟨lS (lS (lN HB3.out nq) HGT.out.1) HGT.out.1⟩⟩
                case measure => simp [intOf]; omega
              · have d2 : (tq.f0 == at'.f0 && tq.f1 == at'.f1) = false := by rw [eqB, decide_eq_false_iff_not]; exact e2
                by_cases e3 : sg < 0
                · have d3 : decide (sg < 0) = true := decide_eq_true e3
                  have HS2 := Aside0.mk (show scStep at' tq p = p by rw [HSS.out, if_pos (Or.inr (Or.inl (HSG.out.1.2 e3)))])
                  clear HSS e2 e3
                  go_quiet (fail)
                  go_wp2
                  go_roundw
                  case rel => exact ⟨j + 1, by omega, by go_num, ⟨by rw [HS.out]; exact HPT.out⟩, ⟨by rw [HS.out, HS2.out]; exact blk_put (blk_put (kN BT3.out nq) 0 _ rfl) 1 _ rfl⟩, ⟨Kd.R_far (p := ⟨gT, 1, none⟩) (Kd.R_far (p := ⟨gT, 0, none⟩) (Kd.R_drewN HO3.out nq) (fun _ h => h.2) _) (fun _ h => h.2) _⟩, ⟨blk_far (blk_far (kN BF3.out nq) HGT.out.2.1 _) HGT.out.2.1 _⟩, ⟨blk_far (blk_far (kN BA3.out nq) HGT.out.2.2 _) HGT.out.2.2 _⟩, ⟨lS (lS (lN HB3.out nq) HGT.out.1) HGT.out.1⟩⟩
                  case measure => simp [intOf]; omega
                · have d3 : decide (sg < 0) = false := decide_eq_false e3
                  by_cases e4 : sg = 0
                  · have d4 : (sg == 0) = true := beq_iff_eq.2 e4
                    have HS2 := Aside0.mk (show scStep at' tq p = if sqd at' tq < sqd at' p then p else tq by
                      rw [HSS.out]
                      by_cases h : sqd at' tq < sqd at' p
                      · rw [if_pos h, if_pos (Or.inr (Or.inr ⟨HSG.out.2.2 e4, h⟩))]
                      · rw [if_neg h, if_neg (by rintro (h1 | h1 | h1); exact e2 h1; exact e3 (HSG.out.1.1 h1); exact h h1.2)])
                    clear HSS e2 e3 e4
                    obtain ⟨b, hbq⟩ : ∃ b, decide (sqd at' tq < sqd at' p) = b := ⟨_, rfl⟩
                    have HBQ := Aside0.mk hbq
                    have HO3 := Aside0.mk (Kd.R_drew HO3.out)
                    have BF3 := Aside0.mk (kD BF3.out)
                    have BA3 := Aside0.mk (kD BA3.out)
                    have BT3 := Aside0.mk (kD BT3.out)
                    have BP3 := Aside0.mk (kD BP3.out)
                    have HB3 := Aside0.mk (lD HB3.out)
                    clear a0 a1 t0 t1 p0' p1' ft0 ft1
                    refine start_ (n := 20) (S := fun w' => w'.cell? ⟨gT, 0, none⟩ = some (.int .i64 tq.f0) ∧ w'.cell? ⟨gT, 1, none⟩ = some (.int .i64 tq.f1) ∧ w'.cell? ⟨gA, 0, none⟩ = some (.int .i64 at'.f0) ∧ w'.cell? ⟨gA, 1, none⟩ = some (.int .i64 at'.f1) ∧ w'.cell? ⟨gP, 0, none⟩ = some (.int .i64 p.f0) ∧ w'.cell? ⟨gP, 1, none⟩ = some (.int .i64 p.f1)) (ds := []) (Bs 0 20) (by kernel_rfl) rfl rfl ⟨(blk_cell BT3.out 0).trans rfl, (blk_cell BT3.out 1).trans rfl, (blk_cell BA3.out 0).trans rfl, (blk_cell BA3.out 1).trans rfl, (blk_cell BP3.out 0).trans rfl, (blk_cell BP3.out 1).trans rfl⟩ (fun hHeld => ?_); refine with_tabW refhull_tab refhull_bits (fun HT_ HW_ => ?_)
                    generalize w3.drew = w4 at HO3 BF3 BA3 BT3 BP3 HB3 hHeld ⊢
                    refine ta 0 75 (Bs 1 20) HT_ HW_ hHeld ?_
                    refine ta 1 76 (Bs 2 20) HT_ HW_ hHeld ?_
                    refine pu 2 77 (Bs 3 20) HT_ ?_
                    refine pu 3 78 (Bs 4 20) HT_ ?_
                    refine pu 4 79 (Bs 5 20) HT_ ?_
                    refine pu 5 80 (Bs 6 20) HT_ ?_
                    refine pu 6 81 (Bs 7 20) HT_ ?_
                    refine pu 7 82 (Bs 8 20) HT_ ?_
                    refine pu 8 83 (Bs 9 20) HT_ ?_
                    refine pu 9 84 (Bs 10 20) HT_ ?_
                    refine pu 10 85 (Bs 11 20) HT_ ?_
                    refine ta 11 86 (Bs 12 20) HT_ HW_ hHeld ?_
                    refine ta 12 87 (Bs 13 20) HT_ HW_ hHeld ?_
                    refine ta 14 89 (Br [13,1,1,5]) HT_ HW_ hHeld ?_
                    refine ta 15 90 (Br [13,1,2,4]) HT_ HW_ hHeld ?_
                    refine one_ (i := 13) (N := some 88) (Bs 16 20) rfl rfl (one_of HT_.out (by kernel_rfl)) (by decide) (fun K hK => ?_)
                    refine goes_ Try.func65 (by kernel_rfl) rfl #[.agg #[.int .i64 at'.f0, .int .i64 at'.f1], .agg #[.int .i64 p.f0, .int .i64 p.f1]] (by rfl) rfl rfl (by (try simp only [List.map_toArray, List.map_cons, List.map_nil]); first | done | rfl | (simp only [List.length_drop, List.length_take]; rfl)) ?_
                    with_reducible refine (R1_Square.calls at'.f0 at'.f1 p.f0 p.f1 (sqd at' p) _ HQ1.out).mono ?_
                    rintro e w5 ⟨rfl, hb⟩
                    refine ⟨_, rfl, ?_⟩
                    replace HO3 := Aside0.mk (Kd.R_below HO3.out hb)
                    replace BF3 := Aside0.mk (blk_below (g := gF) BF3.out hb)
                    replace BA3 := Aside0.mk (blk_below (g := gA) BA3.out hb)
                    replace BT3 := Aside0.mk (blk_below (g := gT) BT3.out hb)
                    replace BP3 := Aside0.mk (blk_below (g := gP) BP3.out hb)
                    replace HB3 := Aside0.mk (below_step HB3.out hb)
                    (try clear hb)
                    (try clear hb2)
                    (try clear hk)
                    (try clear hi)
                    refine hK.out _ _ ⟨(blk_cell BT3.out 0).trans rfl, (blk_cell BT3.out 1).trans rfl, (blk_cell BA3.out 0).trans rfl, (blk_cell BA3.out 1).trans rfl, (blk_cell BP3.out 0).trans rfl, (blk_cell BP3.out 1).trans rfl⟩ (fun hHeld => ?_)
                    clear hK K
                    refine nm 88 ?_
                    refine one_ (i := 16) (N := some 91) (Bs 17 20) rfl rfl (one_of HT_.out (by kernel_rfl)) (by decide) (fun K hK => ?_)
                    refine goes_ Try.func65 (by kernel_rfl) rfl #[.agg #[.int .i64 at'.f0, .int .i64 at'.f1], .agg #[.int .i64 tq.f0, .int .i64 tq.f1]] (by rfl) rfl rfl (by (try simp only [List.map_toArray, List.map_cons, List.map_nil]); first | done | rfl | (simp only [List.length_drop, List.length_take]; rfl)) ?_
                    with_reducible refine (R1_Square.calls at'.f0 at'.f1 tq.f0 tq.f1 (sqd at' tq) _ HQ2.out).mono ?_
                    rintro e w6 ⟨rfl, hb⟩
                    refine ⟨_, rfl, ?_⟩
                    replace HO3 := Aside0.mk (Kd.R_below HO3.out hb)
                    replace BF3 := Aside0.mk (blk_below (g := gF) BF3.out hb)
                    replace BA3 := Aside0.mk (blk_below (g := gA) BA3.out hb)
                    replace BT3 := Aside0.mk (blk_below (g := gT) BT3.out hb)
                    replace BP3 := Aside0.mk (blk_below (g := gP) BP3.out hb)
                    replace HB3 := Aside0.mk (below_step HB3.out hb)
                    (try clear hb)
                    (try clear hb2)
                    (try clear hk)
                    (try clear hi)
                    refine hK.out _ _ ⟨(blk_cell BT3.out 0).trans rfl, (blk_cell BT3.out 1).trans rfl, (blk_cell BA3.out 0).trans rfl, (blk_cell BA3.out 1).trans rfl, (blk_cell BP3.out 0).trans rfl, (blk_cell BP3.out 1).trans rfl⟩ (fun hHeld => ?_)
                    clear hK K
                    refine nm 91 ?_
                    refine pu 17 92 (Bs 18 20) HT_ ?_
                    refine pu 18 93 (Bs 19 20) HT_ ?_
                    refine pu 19 94 (Bs 20 20) HT_ ?_
                    refine done_ (done_of HT_.out (by kernel_rfl)) ?_
                    have t0 : w6.cell? ⟨gT, 0, none⟩ = some (.int .i64 tq.f0) := blk_cell BT3.out 0
                    have t1 : w6.cell? ⟨gT, 1, none⟩ = some (.int .i64 tq.f1) := blk_cell BT3.out 1
                    have p0' : w6.cell? ⟨gP, 0, none⟩ = some (.int .i64 p.f0) := blk_cell BP3.out 0
                    have p1' : w6.cell? ⟨gP, 1, none⟩ = some (.int .i64 p.f1) := blk_cell BP3.out 1
                    have ft0 := blk_frozen BT3.out 0
                    have ft1 := blk_frozen BT3.out 1
                    cases b with
                    | true =>
                      have HS2 := Aside0.mk (show scStep at' tq p = p by rw [HS2.out, if_pos (of_decide_eq_true HBQ.out)])
                      go_wp2
                      go_roundw
                      case rel => exact ⟨j + 1, by omega, by go_num, ⟨by rw [HS.out]; exact HPT.out⟩, ⟨by rw [HS.out, HS2.out]; exact blk_put (blk_put BT3.out 0 _ rfl) 1 _ rfl⟩, ⟨Kd.R_far (p := ⟨gT, 1, none⟩) (Kd.R_far (p := ⟨gT, 0, none⟩) HO3.out (fun _ h => h.2) _) (fun _ h => h.2) _⟩, ⟨blk_far (blk_far BF3.out HGT.out.2.1 _) HGT.out.2.1 _⟩, ⟨blk_far (blk_far BA3.out HGT.out.2.2 _) HGT.out.2.2 _⟩, ⟨lS (lS HB3.out HGT.out.1) HGT.out.1⟩⟩
                      case measure => simp [intOf]; omega
                    | false =>
                      have HS2 := Aside0.mk (show scStep at' tq p = tq by rw [HS2.out, if_neg (of_decide_eq_false HBQ.out)])
                      go_wp2
                      go_roundw
                      case rel => exact ⟨j + 1, by omega, by go_num, ⟨by rw [HS.out]; exact HPT.out⟩, ⟨by rw [HS.out, HS2.out]; exact BT3.out⟩, ⟨HO3.out⟩, ⟨BF3.out⟩, ⟨BA3.out⟩, ⟨HB3.out⟩⟩
                      case measure => simp [intOf]; omega
                  · have d4 : (sg == 0) = false := beq_eq_false_iff_ne.2 e4
                    have HS2 := Aside0.mk (show scStep at' tq p = tq by rw [HSS.out, if_neg (by rintro (h1 | h1 | h1); exact e2 h1; exact e3 (HSG.out.1.1 h1); exact e4 (HSG.out.2.1 h1.1))])
                    clear HSS e2 e3 e4
                    go_quiet (fail)
                    go_wp2
                    go_roundw
                    case rel => exact ⟨j + 1, by omega, by go_num, ⟨by rw [HS.out]; exact HPT.out⟩, ⟨by rw [HS.out, HS2.out]; exact (kN BT3.out nq)⟩, ⟨(Kd.R_drewN HO3.out nq)⟩, ⟨(kN BF3.out nq)⟩, ⟨(kN BA3.out nq)⟩, ⟨(lN HB3.out nq)⟩⟩
                    case measure => simp [intOf]; omega
          · obtain rfl : j = l0.length := by omega
            rw [List.take_length, HNX.out] at BT HOT t0 t1
            have f0 : wr.cell? ⟨gF, 0, none⟩ = some (.int .i64 f.f0) := blk_cell BF.out 0
            have f1 : wr.cell? ⟨gF, 1, none⟩ = some (.int .i64 f.f1) := blk_cell BF.out 1
            have HTK := Aside0.mk (show i + 1 < H.length → H.take (i + 1) ++ [pt H (i + 1)] = H.take (i + 1 + 1) from fun h => (take_pt H (i + 1) h).symm)
            by_cases hn : i + 1 < H.length
            · obtain ⟨n1, n2, n3⟩ := HNE.out.1 hn
              have HTK := Aside0.mk (HTK.out hn)
              rw [n1] at BT HOT t0 t1
              have HPN := Aside0.mk (show pt H (i + 1) = pt H (i + 1) from rfl)
              obtain ⟨tq, htq⟩ : ∃ q, q = pt H (i + 1) := ⟨_, rfl⟩
              rw [← htq] at BT HOT t0 t1 n2 n3 HTK
              have HTQ := Aside0.mk htq
              clear htq HPN
              have d1 : (tq.f0 == at'.f0 && tq.f1 == at'.f1) = false := by rw [eqB, decide_eq_false_iff_not]; exact n2
              have d2 : (tq.f0 == f.f0 && tq.f1 == f.f1) = false := by rw [eqB, decide_eq_false_iff_not]; exact n3
              clear n1 n2 n3 HNE HNX
              have hlen : (H.take (i + 1)).length ≤ 8192 := by rw [List.length_take]; omega
              go_wp2_with (first | ((with_reducible refine gate_builtin (b := .append) (xs := #[.tmp 105, .tmp 107]) rfl ?_); at_builtin; refine Kd.R_append k31 (w0 := w) w.heap.size rfl (.tmp 105) (.tmp 107) 22 31 (.agg #[(.int .i64 0), (.int .i64 0)]) 16 rfl Try.underlying22 info31 rfl (by decide) (by omega) u5 (H.take (i + 1)) tq [.int .i64 tq.f0, .int .i64 tq.f1] (fun k_ => (k_ ≠ gF ∧ k_ ≠ gA) ∧ k_ ≠ gT) (fun _ => False) rfl rfl ?aP (fun _ hk => hk.elim) ?aF ?aO ?aB ?aS ?aL ?_; (case aP => exact k31_mkM _ _ _ tq); (case aB => exact HB.out); (case aF => exact (fun k_ hk => ⟨⟨Kd.freshB (g := gF) (kX BF.out) k_ hk, Kd.freshB (g := gA) (kX BA.out) k_ hk⟩, Kd.freshB (g := gT) (kX BT.out) k_ hk⟩)); (case aO => exact HO.out); (case aS => exact (below_size HB.out)); (case aL => omega); intro v5 w5 ho hb hg hat; have BF5 := Aside0.mk (blk_grown (g := gF) (kX BF.out) hg (fun e => (HO.out.1 _ e.symm).1.1 rfl)); have BA5 := Aside0.mk (blk_grown (g := gA) (kX BA.out) hg (fun e => (HO.out.1 _ e.symm).1.2 rfl)); have BT5 := Aside0.mk (blk_grown (g := gT) (kX BT.out) hg (fun e => (HO.out.1 _ e.symm).2 rfl)); have HB5 := Aside0.mk hb; have HO5 := Aside0.mk ho; clear BF BA BT HB HO ho hb hg hat t0 t1 a0 a1 f0 f1 ft0 ft1; have t0 : w5.cell? ⟨gT, 0, none⟩ = some (.int .i64 tq.f0) := blk_cell BT5.out 0; have t1 : w5.cell? ⟨gT, 1, none⟩ = some (.int .i64 tq.f1) := blk_cell BT5.out 1; have a0 : w5.cell? ⟨gA, 0, none⟩ = some (.int .i64 at'.f0) := blk_cell BA5.out 0; have a1 : w5.cell? ⟨gA, 1, none⟩ = some (.int .i64 at'.f1) := blk_cell BA5.out 1; have fa0 := blk_frozen BA5.out 0; have fa1 := blk_frozen BA5.out 1))
              have hsz : ((w5.setCell ⟨gA, 0, none⟩ (.int .i64 tq.f0)).setCell ⟨gA, 1, none⟩ (.int .i64 tq.f1)).heap.size = w5.heap.size := by simp [World.setCell]
              have BN := Aside0.mk (heap_alloc_new ((w5.setCell ⟨gA, 0, none⟩ (.int .i64 tq.f0)).setCell ⟨gA, 1, none⟩ (.int .i64 tq.f1)) (Obj.cells #[.int .i64 tq.f0, .int .i64 tq.f1] 31))
              rw [hsz] at BN
              go_roundg (gk - 1)
              case measure => omega
              case rel => exact ⟨i + 1, w5.heap.size, by omega, hn, rfl, ⟨below_size HB5.out, by have := blk_lt BF5.out; omega⟩, ⟨by rw [← HTK.out]; exact Kd.R_mono (Kd.R_alloc (Kd.R_far (p := ⟨gA, 1, none⟩) (Kd.R_far (p := ⟨gA, 0, none⟩) (Kd.R_elderB HO5.out w5.heap.size (Nat.le_refl _)) (fun _ h => h.1.1.2) _) (fun _ h => h.1.1.2) _) _) (fun _ h => ⟨h.1.1.1, h.2⟩)⟩, ⟨kA (blk_far (blk_far BF5.out HGA.out.2 _) HGA.out.2 _) _⟩, ⟨by rw [← HTQ.out]; exact BN.out⟩, ⟨lA (lS (lS HB5.out HGA.out.1) HGA.out.1) _⟩⟩
            · have h1 : pt H (nxt i H.length) = f := by rw [HNE.out.2 hn]; exact HPF.out
              rw [h1] at BT HOT t0 t1
              have d2 : (f.f0 == f.f0 && f.f1 == f.f1) = true := (eqB' f f).2 rfl
              have HTK2 := Aside0.mk (show H.take (i + 1) = H by rw [show i + 1 = H.length by omega, List.take_length])
              clear h1
              obtain ⟨b, hb⟩ : ∃ b, (f.f0 == at'.f0 && f.f1 == at'.f1) = b := ⟨_, rfl⟩
              cases b with
              | true =>
                go_wp2
                go_ret
                exact ⟨_, rfl, by rw [HHE.out]; rw [HTK2.out] at HO; exact Kd.R_mono HO.out (fun _ _ => trivial), HB.out⟩
              | false =>
                go_wp2
                go_ret
                exact ⟨_, rfl, by rw [HHE.out]; rw [HTK2.out] at HO; exact Kd.R_mono HO.out (fun _ _ => trivial), HB.out⟩
def R1_Hull.f (l0 : List S31) : Option (List S31) := if 1 ≤ l0.length ∧ l0.length ≤ 4096 ∧ allOk l0 = true then some (cornersS l0) else none
theorem R1_Hull.calls (A0 : Option Addr) (c0 : Nat) (l0 : List S31) (r : List S31) (w : World) (hr0 : Kd.C k31 w A0 l0.length l0) (hc0 : l0.length ≤ c0) (h : R1_Hull.f l0 = some r) :
    Calls Try.prog 35 #[.slice A0 l0.length c0] w fun e w' => ∃ v0_ : Value, e = .returned (v0_) ∧ Kd.R k31 31 w' w.heap.size (fun _ => True) v0_ r ∧ Below w.heap.size w w' := by
  unfold R1_Hull.f at h
  split at h
  · rename_i hh
    cases h
    exact refhull_calls A0 c0 l0 w hr0 hc0 hh.1 hh.2.1 hh.2.2
  · cases h
end Go.Proofs.Ythaklbjcjoolcaa.P
namespace Go.Proofs.Ythaklbjcjoolcaa.P
open Go.RowKit YthaklbjcjoolcaaW.PrintWords YthaklbjcjoolcaaW.PrintLast YthaklbjcjoolcaaW.PrintMore
attribute [local go_sem] max2_int min2_int max_two min_two max_three min_three max_four min_four

def R1_Set.f (k : Nat) (l0 : List (S31)) : Option (Bool) := if (l0.length : Int) ≥ 1 then (if (l0.length : Int) ≤ 512 then ((R1_Valids.f k l0).bind fun t306 => (some t306)) else (some false)) else (some false)
theorem R1_Set.mono : ∀ a0 k, LeO (R1_Set.f k a0) (R1_Set.f (k + 1) a0) := by
 intro a0 k
 unfold R1_Set.f
 repeat' first
   | (with_reducible exact R1_Valids.mono _ _)
   | (with_reducible first | exact LeO.refl _ | exact LeO.none _ | refine LeO.ite ?_ ?_ | refine LeO.bind ?_ (fun _ => ?_))
   | exact R1_Valids.mono _ _
   | exact LeO.none _ | refine LeO.ite ?_ ?_ | refine LeO.bind ?_ (fun _ => ?_)
set_option maxHeartbeats 8000000 in
set_option maxRecDepth 100000 in
theorem R1_Set.calls (k : Nat) (A0 : Option Addr) (c0 : Nat) (l0 : List (S31)) (r : Bool) (w : World) (hr0 : Kd.C k31 w A0 l0.length l0) (hc0 : l0.length ≤ c0) (h : R1_Set.f k l0 = some r) :
  Calls Try.prog 33 #[.slice A0 l0.length c0] w fun e w' => e = .returned (.bool r) ∧ Below w.heap.size w w' := by
 have HR0 := Aside0.mk hr0
 have HC0 := Aside0.mk hc0
 clear hr0 hc0
 have HB := Aside0.mk (Below.refl w.heap.size w)
 have H : (if (l0.length : Int) ≥ 1 then (if (l0.length : Int) ≤ 512 then ((R1_Valids.f k l0).bind fun t306 => (some t306)) else (some false)) else (some false)) = some r := h
 clear h
 by_cases c2 : (l0.length : Int) ≥ 1
 ·rw [if_pos c2] at H
  have c2b0 : decide (1 ≤ (l0.length : Int)) = true := decide_eq_true c2
  have c2b1 : decide (1 ≤ l0.length) = true := decide_eq_true (by omega)
  clear c2
  by_cases c3 : (l0.length : Int) ≤ 512
  ·rw [if_pos c3] at H
   have c3b0 : decide ((l0.length : Int) ≤ 512) = true := decide_eq_true c3
   have c3b1 : decide (l0.length ≤ 512) = true := decide_eq_true (by omega)
   clear c3
   replace H := Option.bind_eq_some_iff.mp H
   obtain ⟨t306, A40, H⟩ := H
   replace H : (some t306) = some r := H
   have A4 := Aside0.mk A40
   clear A40
   obtain rfl := Option.some.inj H
   go_enter Try.func33, Try.ntmps33
   go_wp2_with (first | (go_at_call 22; (with_reducible refine (R1_Valids.calls k _ _ l0 t306 _ ?side1 ?side2 A4.out).mono ?_); (case side1 => repeat (first | exact HR0.out | (with_reducible refine Kd.C_alloc ?_ _) | (with_reducible refine Kd.C_drewN ?_ _) | (with_reducible refine Kd.C_drew ?_))); (case side2 => exact HC0.out); rintro e w5 ⟨rfl, hb⟩; have n0_ := Aside0.mk (below_step lB hb); clear HB; have HB := n0_; clear n0_; (try clear hb); (try clear hb2); (try clear hk); (try clear hi)))
   go_ret
   exact en
  rw [if_neg c3] at H
  have c3b0 : decide ((l0.length : Int) ≤ 512) = false := decide_eq_false c3
  have c3b1 : decide (l0.length ≤ 512) = false := decide_eq_false (by omega)
  clear c3
  obtain rfl := Option.some.inj H
  go_enter Try.func33, Try.ntmps33
  go_wp2
  go_ret
  exact en
 rw [if_neg c2] at H
 have c2b0 : decide (1 ≤ (l0.length : Int)) = false := decide_eq_false c2
 have c2b1 : decide (1 ≤ l0.length) = false := decide_eq_false (by omega)
 clear c2
 obtain rfl := Option.some.inj H
 go_enter Try.func33, Try.ntmps33
 go_wp2
 go_ret
 exact en

end Go.Proofs.Ythaklbjcjoolcaa.P
namespace Go.Proofs.Ythaklbjcjoolcaa.P
open Go.RowKit YthaklbjcjoolcaaW.PrintWords YthaklbjcjoolcaaW.PrintLast YthaklbjcjoolcaaW.PrintMore
theorem same_from (l : List S31) (hl : l.length < 9223372036854775807) : ∀ n i : Nat, l.length - i = n → i ≤ l.length → Ev (fun k => L1_same.l0 k l l (i : Int)) true
 | 0, i, hn, hi => by
  refine Ev.step (f := fun _ => some true) (fun k => ?_) (Ev.now _)
  unfold L1_same.l0
  rw [if_neg (by omega)]
 | n + 1, i, hn, hi => by
  refine Ev.step (fun k => ?_) (same_from l hl n (i + 1) (by omega) (by omega))
  conv => lhs; unfold L1_same.l0
  rw [if_pos (by omega), if_pos (by omega), if_pos (by omega), if_neg (by simp), w64i (x := (i : Int) + 1) (by omega) (by omega)]
  rfl
theorem same_ev (l : List S31) (hl : l.length < 9223372036854775807) : Ev (fun k => L1_same.f k l l) true := by
 unfold L1_same.f
 exact ev_pos rfl (same_from l hl (l.length - 0) 0 rfl (by omega))
theorem hull_is {t : List S31} (hs : isSetB t = true) : plane_Hull.f t = some (cornersS t, 0) := by
  obtain ⟨⟨hs1, hs2⟩, hok⟩ := (isSetB_iff t).1 hs
  unfold plane_Hull.f plane_corners.f
  rw [isSet_is, hs, Option.bind_some, if_pos rfl, if_pos ⟨hs1, by omega, hok⟩]; rfl
theorem isSet_of {t : List S31} (h1 : 1 ≤ t.length) (h2 : t.length ≤ 512) (h3 : allOk t = true) : isSetB t = true := (isSetB_iff t).2 ⟨⟨h1, h2⟩, h3⟩
theorem mod41 (a : Int) : ∃ m : Nat, m < 41 ∧ L1_mod.f a 41 = some (m : Int) := by
 have e1 : IntKind.u64.wrap (41 : Int) = 41 := by decide
 have h1 : 0 ≤ IntKind.u64.wrap a := by
  unfold IntKind.wrap
  simp only [IntKind.bits, IntKind.signed]
  exact Int.emod_nonneg _ (by decide)
 unfold L1_mod.f
 rw [e1, if_neg (by omega)]
 generalize IntKind.u64.wrap a = x at *
 rw [Int.tmod_eq_emod_of_nonneg h1]
 have h2 := Int.emod_nonneg x (show (41 : Int) ≠ 0 by decide)
 have h3 := Int.emod_lt_of_pos x (show (0 : Int) < 41 by decide)
 exact ⟨(x % 41).toNat, by omega, by rw [w64i (by omega) (by omega)]; congr 1; omega⟩
theorem grid_is (p : S31) : ∃ q : S31, L1_grid.f p.f0 p.f1 = some (q.f0, q.f1) ∧ okPt q = true ∧ (okPt p = true → q = p) := by
 unfold L1_grid.f
 rw [valid_is, Option.bind_some]
 by_cases h : okPt p = true
 ·rw [if_pos h]; exact ⟨p, rfl, h, fun _ => rfl⟩
 ·rw [if_neg h]
  obtain ⟨m, hm, e⟩ := mod41 p.f0
  obtain ⟨n, hn, e'⟩ := mod41 p.f1
  rw [e, e']
  simp only [Option.bind_some]
  rw [w64i (by omega) (by omega), w64i (by omega) (by omega)]
  exact ⟨⟨(m : Int) - 20, (n : Int) - 20⟩, rfl, (okPt_iff _).2 ⟨by simp only; omega, by simp only; omega⟩, fun h' => absurd h' h⟩
theorem allOk_snoc {l : List S31} {p : S31} (h : allOk l = true) (hp : okPt p = true) : allOk (l ++ [p]) = true := by
 unfold allOk at *
 rw [List.all_append, h, List.all_cons, hp]; rfl
theorem gset_from (l : List S31) (m : Nat) (hm : m ≤ 512) (hm1 : 1 ≤ m) : ∀ (n i : Nat) (out : List S31), l.length - i = n → i ≤ l.length → out.length = i → i ≤ m → allOk out = true →
  ∃ t : List S31, Ev (fun k => L1_set.l0 k l (m : Int) out (i : Int)) t ∧ 1 ≤ t.length ∧ t.length ≤ m ∧ allOk t = true := by
 have fin : ∀ (i : Nat) (out : List S31), out.length = i → i ≤ m → allOk out = true → ∃ t : List S31, Ev (fun _ => if (out.length : Int) = 0 then (if out.length < 8796093022208 then (some (out ++ [(⟨0, 0⟩ : S31)])) else (none)) else (some out)) t ∧ 1 ≤ t.length ∧ t.length ≤ m ∧ allOk t = true := by
  intro i out h1 h2 h3
  by_cases h0 : out.length = 0
  ·refine ⟨_, ev_pos (by omega) (ev_pos (by omega) (Ev.now _)), by simp, by simp only [List.length_append, List.length_singleton]; omega, allOk_snoc h3 (by decide)⟩
  ·exact ⟨out, ev_neg (by omega) (Ev.now _), by omega, by omega, h3⟩
 intro n
 induction n with
 | zero =>
  intro i out hn hi ho him hok
  obtain ⟨t, ht, h1, h2, h3⟩ := fin i out ho him hok
  refine ⟨t, Ev.step (fun k => ?_) ht, h1, h2, h3⟩
  unfold L1_set.l0
  rw [if_neg (by omega)]
 | succ n ih =>
  intro i out hn hi ho him hok
  have hlt : i < l.length := by omega
  by_cases h1 : i < m
  ·obtain ⟨q, hq, hqo, _⟩ := grid_is l[i]
   obtain ⟨t, ht, h2, h3, h4⟩ := ih (i + 1) (out ++ [q]) (by omega) (by omega) (by rw [List.length_append, List.length_singleton, ho]) (by omega) (allOk_snoc hok hqo)
   refine ⟨t, Ev.step (fun k => ?_) ht, h2, h3, h4⟩
   conv => lhs; unfold L1_set.l0
   rw [if_pos (by omega), if_pos (by omega), if_pos (by omega), rd_at l i hlt, hq, Option.bind_some, if_pos (by omega), w64i (x := (i : Int) + 1) (by omega) (by omega)]
   rfl
  ·obtain ⟨t, ht, h2, h3, h4⟩ := fin i out ho him hok
   refine ⟨t, Ev.step (fun k => ?_) ht, h2, h3, h4⟩
   conv => lhs; unfold L1_set.l0
   rw [if_pos (by omega), if_neg (by omega)]
theorem gset_ev (l : List S31) (m : Nat) (hm : m ≤ 512) (hm1 : 1 ≤ m) : ∃ t : List S31, Ev (fun k => L1_set.f k l (m : Int)) t ∧ 1 ≤ t.length ∧ t.length ≤ m ∧ allOk t = true :=
 gset_from l m hm hm1 (l.length - 0) 0 [] rfl (by omega) rfl (by omega) rfl
end Go.Proofs.Ythaklbjcjoolcaa.P
namespace Go.Proofs.Ythaklbjcjoolcaa.Geo

abbrev Pt := Int × Int

def T (a b c : Pt) : Int := (b.1 - a.1) * (c.2 - a.2) - (b.2 - a.2) * (c.1 - a.1)
def aff (i j k : Int) (p : Pt) : Int := i * p.1 + j * p.2 + k

theorem T_cyc (a b c : Pt) : T b c a = T a b c := by unfold T; grind
theorem T_cyc2 (a b c : Pt) : T c a b = T a b c := by unfold T; grind
theorem T_swap (a b c : Pt) : T b a c = - T a b c := by unfold T; grind
theorem T_swap2 (a b c : Pt) : T a c b = - T a b c := by unfold T; grind
theorem T_swap3 (a b c : Pt) : T c b a = - T a b c := by unfold T; grind
theorem T_aba (a b : Pt) : T a b a = 0 := by unfold T; grind
theorem T_abb (a b : Pt) : T a b b = 0 := by unfold T; grind
theorem id4 (i j k : Int) (a b c d : Pt) : T b c d * aff i j k a - T a c d * aff i j k b + T a b d * aff i j k c - T a b c * aff i j k d = 0 := by unfold T aff; grind
theorem sum4 (a b c d : Pt) : T b c d - T a c d + T a b d - T a b c = 0 := by unfold T; grind
theorem id_col (i j k i' j' k' : Int) (a b p : Pt) : (aff i j k p - aff i j k a) * (aff i' j' k' b - aff i' j' k' a) - (aff i' j' k' p - aff i' j' k' a) * (aff i j k b - aff i j k a) = T a b p * (j * i' - i * j') := by unfold T aff; grind
theorem bary (x y a b c q : Pt) : T a b c * T x y q = T b c q * T x y a + T c a q * T x y b + T a b q * T x y c := by unfold T; grind

theorem mpp {x y : Int} (h : 0 < x) (k : 0 < y) : 0 < x * y := Int.mul_pos h k
theorem mpn {x y : Int} (h : 0 < x) (k : y < 0) : x * y < 0 := by
 have := Int.mul_pos h (Int.neg_pos_of_neg k); rw [Int.mul_neg] at this; omega
theorem mnp {x y : Int} (h : x < 0) (k : 0 < y) : x * y < 0 := by rw [Int.mul_comm]; exact mpn k h
theorem mnn {x y : Int} (h : x < 0) (k : y < 0) : 0 < x * y := by
 have := Int.mul_pos (Int.neg_pos_of_neg h) (Int.neg_pos_of_neg k); rw [Int.neg_mul_neg] at this; exact this
theorem mzz {x y : Int} (h : 0 ≤ x) (k : 0 ≤ y) : 0 ≤ x * y := Int.mul_nonneg h k
theorem mzn {x y : Int} (h : 0 ≤ x) (k : y ≤ 0) : x * y ≤ 0 := by
 have := Int.mul_nonneg h (Int.neg_nonneg_of_nonpos k); rw [Int.mul_neg] at this; omega
theorem mnz {x y : Int} (h : x ≤ 0) (k : 0 ≤ y) : x * y ≤ 0 := by rw [Int.mul_comm]; exact mzn k h
theorem mnnz {x y : Int} (h : x ≤ 0) (k : y ≤ 0) : 0 ≤ x * y := by
 have := Int.mul_nonneg (Int.neg_nonneg_of_nonpos h) (Int.neg_nonneg_of_nonpos k); rw [Int.neg_mul_neg] at this; exact this
theorem ps {x c : Int} (hc : 0 < c) (h : 0 < x * c) : 0 < x := by
 by_cases k : 0 < x
 ·exact k
 ·have := mnz (show x ≤ 0 by omega) (show 0 ≤ c by omega); omega
theorem ng {x c : Int} (hc : 0 < c) (h : x * c < 0) : x < 0 := by
 by_cases k : x < 0
 ·exact k
 ·have := mzz (show 0 ≤ x by omega) (show 0 ≤ c by omega); omega
theorem ps' {x c : Int} (hc : c < 0) (h : 0 < x * c) : x < 0 := by
 by_cases k : x < 0
 ·exact k
 ·have := mzn (show 0 ≤ x by omega) (show c ≤ 0 by omega); omega
theorem ng' {x c : Int} (hc : c < 0) (h : x * c < 0) : 0 < x := by
 by_cases k : 0 < x
 ·exact k
 ·have := mnnz (show x ≤ 0 by omega) (show c ≤ 0 by omega); omega

def Bt (u v x : Int) : Prop := u ≤ v ∧ v ≤ x ∨ x ≤ v ∧ v ≤ u
def On (a b p : Pt) : Prop := T a b p = 0 ∧ Bt a.1 p.1 b.1 ∧ Bt a.2 p.2 b.2
def opp (x y : Int) : Prop := x < 0 ∧ 0 < y ∨ 0 < x ∧ y < 0
def Dis (a b c d : Pt) : Prop := ¬ On a b c ∧ ¬ On a b d ∧ ¬ On c d a ∧ ¬ On c d b ∧ ¬ (opp (T a b c) (T a b d) ∧ opp (T c d a) (T c d b))

theorem bt_core {F r G s : Int} (hF : 0 < F) (h0 : 0 ≤ r) (h1 : r ≤ F) (e : s * F = r * G) : 0 ≤ s ∧ s ≤ G ∨ G ≤ s ∧ s ≤ 0 := by
 by_cases hG : 0 ≤ G
 ·refine .inl ⟨?_, ?_⟩
  ·have := mzz h0 hG
   by_cases k : 0 ≤ s
   ·exact k
   ·have := mnp (show s < 0 by omega) hF; omega
  ·have h2 := mzz (show 0 ≤ F - r by omega) hG
   by_cases k : s ≤ G
   ·exact k
   ·have h3 := mpp (show 0 < s - G by omega) hF
    rw [Int.sub_mul] at h2 h3
    have := Int.mul_comm F G; omega
 ·refine .inr ⟨?_, ?_⟩
  ·have h2 := mzn (show 0 ≤ F - r by omega) (show G ≤ 0 by omega)
   by_cases k : G ≤ s
   ·exact k
   ·have h3 := mnp (show s - G < 0 by omega) hF
    rw [Int.sub_mul] at h2 h3
    have := Int.mul_comm F G; omega
  ·have := mzn h0 (show G ≤ 0 by omega)
   by_cases k : s ≤ 0
   ·exact k
   ·have := mpp (show 0 < s by omega) hF; omega

theorem aff_x (p : Pt) : aff 1 0 0 p = p.1 := by unfold aff; omega
theorem aff_y (p : Pt) : aff 0 1 0 p = p.2 := by unfold aff; omega

theorem on_of {a b p : Pt} (i j k : Int) (h : T a b p = 0) (h1 : aff i j k a < aff i j k b) (h2 : aff i j k a ≤ aff i j k p) (h3 : aff i j k p ≤ aff i j k b) : On a b p := by
 have g : ∀ i' j' k', Bt (aff i' j' k' a) (aff i' j' k' p) (aff i' j' k' b) := by
  intro i' j' k'
  have e := id_col i j k i' j' k' a b p
  rw [h, Int.zero_mul] at e
  have := bt_core (F := aff i j k b - aff i j k a) (r := aff i j k p - aff i j k a) (G := aff i' j' k' b - aff i' j' k' a) (s := aff i' j' k' p - aff i' j' k' a) (by omega) (by omega) (by omega) (by omega)
  unfold Bt; omega
 have gx := g 1 0 0; have gy := g 0 1 0
 rw [aff_x, aff_x, aff_x] at gx; rw [aff_y, aff_y, aff_y] at gy
 exact ⟨h, gx, gy⟩
theorem bt_swap {u v x : Int} (h : Bt u v x) : Bt x v u := by unfold Bt at *; omega
theorem On.swap {a b p : Pt} (h : On a b p) : On b a p := ⟨by rw [T_swap, h.1]; rfl, bt_swap h.2.1, bt_swap h.2.2⟩
theorem on_of' {a b p : Pt} (i j k : Int) (h : T a b p = 0) (h1 : aff i j k b < aff i j k a) (h2 : aff i j k b ≤ aff i j k p) (h3 : aff i j k p ≤ aff i j k a) : On a b p :=
 (on_of (a := b) (b := a) i j k (by rw [T_swap, h]; rfl) h1 h2 h3).swap
theorem On.bt {a b p : Pt} (h : On a b p) (i j k : Int) : Bt (aff i j k a) (aff i j k p) (aff i j k b) := by
 obtain ⟨h0, hx, hy⟩ := h
 by_cases e : a = b
 ·subst e
  have : p = a := by
   unfold Bt at hx hy
   apply Prod.ext <;> omega
  subst this; unfold Bt; omega
 ·have key : ∀ i' j' k', aff i' j' k' a ≠ aff i' j' k' b → Bt (aff i' j' k' a) (aff i' j' k' p) (aff i' j' k' b) → Bt (aff i j k a) (aff i j k p) (aff i j k b) := by
   intro i' j' k' hne hb
   have e := id_col i' j' k' i j k a b p
   rw [h0, Int.zero_mul] at e
   unfold Bt at hb ⊢
   rcases Int.lt_or_gt_of_ne hne with h1 | h1
   ·have := bt_core (F := aff i' j' k' b - aff i' j' k' a) (r := aff i' j' k' p - aff i' j' k' a) (G := aff i j k b - aff i j k a) (s := aff i j k p - aff i j k a) (by omega) (by omega) (by omega) (by omega)
    omega
   ·have e2 : (aff i j k p - aff i j k a) * (aff i' j' k' a - aff i' j' k' b) = (aff i' j' k' a - aff i' j' k' p) * (aff i j k b - aff i j k a) := by grind
    have := bt_core (F := aff i' j' k' a - aff i' j' k' b) (r := aff i' j' k' a - aff i' j' k' p) (G := aff i j k b - aff i j k a) (s := aff i j k p - aff i j k a) (by omega) (by omega) (by omega) e2
    omega
  by_cases ex : a.1 = b.1
  ·have ey : a.2 ≠ b.2 := fun h => e (Prod.ext ex h)
   exact key 0 1 0 (by rw [aff_y, aff_y]; exact ey) (by rw [aff_y, aff_y, aff_y]; exact hy)
  ·exact key 1 0 0 (by rw [aff_x, aff_x]; exact ex) (by rw [aff_x, aff_x, aff_x]; exact hx)
theorem on_left (a b : Pt) : On a b a := ⟨T_aba a b, by unfold Bt; omega, by unfold Bt; omega⟩
theorem opp_swap {x y : Int} (h : opp x y) : opp y x := by unfold opp at *; omega
theorem opp_neg {x y : Int} (h : opp (-x) (-y)) : opp x y := by unfold opp at *; omega
theorem Dis.swap {a b c d : Pt} (h : Dis a b c d) : Dis c d a b := ⟨h.2.2.1, h.2.2.2.1, h.1, h.2.1, fun k => h.2.2.2.2 ⟨k.2, k.1⟩⟩
theorem Dis.flip {a b c d : Pt} (h : Dis a b c d) : Dis b a c d :=
 ⟨fun k => h.1 k.swap, fun k => h.2.1 k.swap, h.2.2.2.1, h.2.2.1, fun k => h.2.2.2.2 ⟨by have := k.1; rw [T_swap a b c, T_swap a b d] at this; exact opp_neg this, opp_swap k.2⟩⟩
theorem Dis.flip2 {a b c d : Pt} (h : Dis a b c d) : Dis a b d c := h.swap.flip.swap

def ht (N : Int) (p : Pt) : Int := aff (-1) N 0 p
def w (N X : Int) (a b z : Pt) : Int :=
 if ht N a ≤ ht N z ∧ ht N z < ht N b ∧ 0 < T a b z + X then 1 else if ht N b ≤ ht N z ∧ ht N z < ht N a ∧ 0 < T b a z + X then -1 else 0
theorem w_swap (N X : Int) (a b z : Pt) : w N X b a z = - w N X a b z := by
 unfold w; split <;> split <;> (try split) <;> (try split) <;> omega
def S (N : Int) (q r z : Pt) : Int := if ht N q < ht N z ∧ ht N z < ht N r ∧ T q r z < 0 then 1 else 0

section core
variable {A B Q R a b q r : Int}
theorem c2 (k1 : B * (a - q) - A * (b - q) - Q * (r - q) = 0) (k2 : B * (a - r) - A * (b - r) + R * (q - r) = 0) (h : a < q ∧ q < b ∧ b < r) (n : ¬ (opp Q R ∧ opp A B)) : ¬ (0 < Q ∧ 0 < B) := by
 rintro ⟨hQ, hB⟩
 have p1 := mpn hB (show a - q < 0 by omega)
 have p2 := mpp hQ (show 0 < r - q by omega)
 have hA : A < 0 := ng (c := b - q) (by omega) (by omega)
 have p3 := mpn hB (show a - r < 0 by omega)
 have p4 := mnn hA (show b - r < 0 by omega)
 have hR : R < 0 := ps' (c := q - r) (by omega) (by omega)
 exact n ⟨.inr ⟨hQ, hR⟩, .inl ⟨hA, hB⟩⟩
theorem c3 (k1 : B * (a - q) - A * (b - q) - Q * (r - q) = 0) (k2 : B * (a - r) - A * (b - r) + R * (q - r) = 0) (h : a < q ∧ q < r ∧ r < b) (n : ¬ (opp Q R ∧ opp A B)) : ¬ (0 < Q ∧ R < 0) := by
 rintro ⟨hQ, hR⟩
 have p1 := mpp hQ (show 0 < r - q by omega)
 have p2 := mnn hR (show q - r < 0 by omega)
 rcases Int.lt_trichotomy A 0 with hA | hA | hA
 ·have p3 := mnp hA (show 0 < b - r by omega)
  have hB : 0 < B := ng' (c := a - r) (by omega) (by omega)
  exact n ⟨.inr ⟨hQ, hR⟩, .inl ⟨hA, hB⟩⟩
 ·subst hA
  have hB : B < 0 := ps' (c := a - q) (by omega) (by omega)
  have hB2 : 0 < B := ng' (c := a - r) (by omega) (by omega)
  omega
 ·have p3 := mpp hA (show 0 < b - q by omega)
  have hB : B < 0 := ps' (c := a - q) (by omega) (by omega)
  exact n ⟨.inr ⟨hQ, hR⟩, .inr ⟨hA, hB⟩⟩
theorem c4 (k1 : B * (a - q) - A * (b - q) - Q * (r - q) = 0) (k2 : B * (a - r) - A * (b - r) + R * (q - r) = 0) (h : q < a ∧ a < r ∧ q < b ∧ b < r) (n : ¬ (opp Q R ∧ opp A B)) : ¬ (A < 0 ∧ 0 < B) := by
 rintro ⟨hA, hB⟩
 have p1 := mpp hB (show 0 < a - q by omega)
 have p2 := mnp hA (show 0 < b - q by omega)
 have hQ : 0 < Q := ps (c := r - q) (by omega) (by omega)
 have p3 := mpn hB (show a - r < 0 by omega)
 have p4 := mnn hA (show b - r < 0 by omega)
 have hR : R < 0 := ps' (c := q - r) (by omega) (by omega)
 exact n ⟨.inr ⟨hQ, hR⟩, .inl ⟨hA, hB⟩⟩
theorem c5 (k1 : B * (a - q) - A * (b - q) - Q * (r - q) = 0) (k2 : B * (a - r) - A * (b - r) + R * (q - r) = 0) (h : q < a ∧ a < r ∧ r < b) (n : ¬ (opp Q R ∧ opp A B)) : ¬ (0 < R ∧ 0 < A) := by
 rintro ⟨hR, hA⟩
 have p1 := mpn hR (show q - r < 0 by omega)
 have p2 := mpp hA (show 0 < b - r by omega)
 have hB : B < 0 := ps' (c := a - r) (by omega) (by omega)
 have p3 := mnp hB (show 0 < a - q by omega)
 have p4 := mpp hA (show 0 < b - q by omega)
 have hQ : Q < 0 := ng (c := r - q) (by omega) (by omega)
 exact n ⟨.inl ⟨hQ, hR⟩, .inr ⟨hA, hB⟩⟩
end core
theorem neg_k {A B Q x y z : Int} (k : B * x - A * y - Q * z = 0) : -B * x - -A * y - -Q * z = 0 := by simp only [Int.neg_mul]; omega
theorem neg_k2 {A B R x y z : Int} (k : B * x - A * y + R * z = 0) : -B * x - -A * y + -R * z = 0 := by simp only [Int.neg_mul]; omega
theorem neg_n {Q R A B : Int} (n : ¬ (opp Q R ∧ opp A B)) : ¬ (opp (-Q) (-R) ∧ opp (-A) (-B)) := fun k => n ⟨opp_neg k.1, opp_neg k.2⟩

theorem w_out {N X : Int} {a b z : Pt} (h : ht N a ≤ ht N b) (k : ¬ (ht N a ≤ ht N z ∧ ht N z < ht N b)) : w N X a b z = 0 := by
 unfold w; rw [if_neg (fun c => k ⟨c.1, c.2.1⟩), if_neg (by omega)]
theorem w_one {N X : Int} {a b z : Pt} (k : ht N a ≤ ht N z ∧ ht N z < ht N b) (t : 0 < T a b z + X) : w N X a b z = 1 := by
 unfold w; rw [if_pos ⟨k.1, k.2, t⟩]
theorem w_zero {N X : Int} {a b z : Pt} (h : ht N a ≤ ht N b) (t : ¬ 0 < T a b z + X) : w N X a b z = 0 := by
 unfold w; rw [if_neg (fun c => t c.2.2), if_neg (by omega)]
theorem S_out {N : Int} {q r z : Pt} (h : ¬ (ht N q < ht N z ∧ ht N z < ht N r)) : S N q r z = 0 := if_neg (fun c => h ⟨c.1, c.2.1⟩)
theorem S_one {N : Int} {q r z : Pt} (h : ht N q < ht N z ∧ ht N z < ht N r) (t : T q r z < 0) : S N q r z = 1 := if_pos ⟨h.1, h.2, t⟩
theorem S_zero {N : Int} {q r z : Pt} (t : ¬ T q r z < 0) : S N q r z = 0 := if_neg (fun c => t c.2.2)
theorem strip_up {N X : Int} (hX : X = 0 ∨ X = 1) {a b q r : Pt} (D : Dis a b q r) (hqr : ht N q < ht N r) (hab : ht N a ≤ ht N b)
  (h1 : ht N a ≠ ht N q) (h2 : ht N a ≠ ht N r) (h3 : ht N b ≠ ht N q) (h4 : ht N b ≠ ht N r) :
  w N X a b q - w N X a b r = S N q r b - S N q r a := by
 have k1 : T q r b * (ht N a - ht N q) - T q r a * (ht N b - ht N q) - T a b q * (ht N r - ht N q) = 0 := by
  unfold ht aff T; grind
 have k2 : T q r b * (ht N a - ht N r) - T q r a * (ht N b - ht N r) + T a b r * (ht N q - ht N r) = 0 := by
  unfold ht aff T; grind
 have n := D.2.2.2.2
 have nn := neg_n n
 have oQ : T a b q = 0 → ¬ (ht N a < ht N q ∧ ht N q < ht N b) := fun e k => D.1 (on_of (-1) N 0 e (by unfold ht at *; omega) (Int.le_of_lt k.1) (Int.le_of_lt k.2))
 have oR : T a b r = 0 → ¬ (ht N a < ht N r ∧ ht N r < ht N b) := fun e k => D.2.1 (on_of (-1) N 0 e (by unfold ht at *; omega) (Int.le_of_lt k.1) (Int.le_of_lt k.2))
 have oA : T q r a = 0 → ¬ (ht N q < ht N a ∧ ht N a < ht N r) := fun e k => D.2.2.1 (on_of (-1) N 0 e hqr (Int.le_of_lt k.1) (Int.le_of_lt k.2))
 have oB : T q r b = 0 → ¬ (ht N q < ht N b ∧ ht N b < ht N r) := fun e k => D.2.2.2.1 (on_of (-1) N 0 e hqr (Int.le_of_lt k.1) (Int.le_of_lt k.2))
 clear D
 by_cases x1 : ht N b < ht N q ∨ ht N r < ht N a
 ·rw [w_out hab (by omega), w_out hab (by omega), S_out (by omega), S_out (by omega)]
 by_cases x2 : ht N a < ht N q
 ·by_cases x3 : ht N b < ht N r
  ·have o : ht N a < ht N q ∧ ht N q < ht N b ∧ ht N b < ht N r := ⟨x2, by omega, x3⟩
   have t1 := c2 k1 k2 o n
   have t2 := c2 (neg_k k1) (neg_k2 k2) o nn
   have hQ : T a b q ≠ 0 := fun e => oQ e ⟨o.1, o.2.1⟩
   have hB : T q r b ≠ 0 := fun e => oB e ⟨o.2.1, o.2.2⟩
   clear k1 k2 oQ oR oA oB n nn
   rw [w_out (z := r) hab (by omega), S_out (z := a) (by omega)]
   rcases Int.lt_or_gt_of_ne hQ with s | s
   ·rw [w_zero hab (by omega), S_zero (by omega)]
   ·rw [w_one ⟨by omega, by omega⟩ (by omega), S_one ⟨by omega, by omega⟩ (by omega)]
  ·have o : ht N a < ht N q ∧ ht N q < ht N r ∧ ht N r < ht N b := ⟨x2, hqr, by omega⟩
   have t1 := c3 k1 k2 o n
   have t2 := c3 (neg_k k1) (neg_k2 k2) o nn
   have hQ : T a b q ≠ 0 := fun e => oQ e ⟨by omega, by omega⟩
   have hR : T a b r ≠ 0 := fun e => oR e ⟨by omega, by omega⟩
   clear k1 k2 oQ oR oA oB n nn
   rw [S_out (z := a) (by omega), S_out (z := b) (by omega)]
   rcases Int.lt_or_gt_of_ne hQ with s | s
   ·rw [w_zero (z := q) hab (by omega), w_zero (z := r) hab (by omega)]
   ·rw [w_one (z := q) ⟨by omega, by omega⟩ (by omega), w_one (z := r) ⟨by omega, by omega⟩ (by omega)]; rfl
 ·by_cases x3 : ht N b < ht N r
  ·have o : ht N q < ht N a ∧ ht N a < ht N r ∧ ht N q < ht N b ∧ ht N b < ht N r := ⟨by omega, by omega, by omega, by omega⟩
   have t1 := c4 k1 k2 o n
   have t2 := c4 (neg_k k1) (neg_k2 k2) o nn
   have hA : T q r a ≠ 0 := fun e => oA e ⟨by omega, by omega⟩
   have hB : T q r b ≠ 0 := fun e => oB e ⟨by omega, by omega⟩
   clear k1 k2 oQ oR oA oB n nn
   rw [w_out (z := q) hab (by omega), w_out (z := r) hab (by omega)]
   rcases Int.lt_or_gt_of_ne hA with s | s
   ·rw [S_one (z := a) ⟨by omega, by omega⟩ (by omega), S_one (z := b) ⟨by omega, by omega⟩ (by omega)]; rfl
   ·rw [S_zero (z := a) (by omega), S_zero (z := b) (by omega)]
  ·have o : ht N q < ht N a ∧ ht N a < ht N r ∧ ht N r < ht N b := ⟨by omega, by omega, by omega⟩
   have t1 := c5 k1 k2 o n
   have t2 := c5 (neg_k k1) (neg_k2 k2) o nn
   have hR : T a b r ≠ 0 := fun e => oR e ⟨by omega, by omega⟩
   have hA : T q r a ≠ 0 := fun e => oA e ⟨by omega, by omega⟩
   clear k1 k2 oQ oR oA oB n nn
   rw [w_out (z := q) hab (by omega), S_out (z := b) (by omega)]
   rcases Int.lt_or_gt_of_ne hR with s | s
   ·rw [w_zero (z := r) hab (by omega), S_zero (z := a) (by omega)]
   ·rw [w_one (z := r) ⟨by omega, by omega⟩ (by omega), S_one (z := a) ⟨by omega, by omega⟩ (by omega)]

theorem strip {N X : Int} (hX : X = 0 ∨ X = 1) {a b q r : Pt} (D : Dis a b q r) (hqr : ht N q < ht N r)
  (h1 : ht N a ≠ ht N q) (h2 : ht N a ≠ ht N r) (h3 : ht N b ≠ ht N q) (h4 : ht N b ≠ ht N r) :
  w N X a b q - w N X a b r = S N q r b - S N q r a := by
 rcases Int.le_total (ht N a) (ht N b) with h | h
 ·exact strip_up hX D hqr h h1 h2 h3 h4
 ·have := strip_up hX D.flip hqr h h3 h4 h1 h2
  rw [w_swap N X a b q, w_swap N X a b r] at this; omega

def ed : List Pt → List (Pt × Pt)
 | a :: b :: r => (a, b) :: ed (b :: r)
 | _ => []
def pw (N X : Int) : List Pt → Pt → Int
 | a :: b :: r, z => w N X a b z + pw N X (b :: r) z
 | _, _ => 0
theorem pw_two (N X : Int) (a b : Pt) (r : List Pt) (z : Pt) : pw N X (a :: b :: r) z = w N X a b z + pw N X (b :: r) z := rfl
theorem pw_split (N X : Int) (p : Pt) (B : List Pt) (z : Pt) : ∀ A, pw N X (A ++ p :: B) z = pw N X (A ++ [p]) z + pw N X (p :: B) z
 | [] => by simp [pw]
 | [a] => by simp [pw]
 | a :: b :: r => by
  have := pw_split N X p B z (b :: r)
  simp only [List.cons_append] at this ⊢
  rw [pw_two, pw_two, this]; omega
theorem ed_split (p : Pt) (B : List Pt) : ∀ A, ed (A ++ p :: B) = ed (A ++ [p]) ++ ed (p :: B)
 | [] => by simp [ed]
 | [a] => by simp [ed]
 | a :: b :: r => by
  have := ed_split p B (b :: r)
  simp only [List.cons_append] at this ⊢
  rw [ed, ed, this]; rfl
theorem path_strip {N X : Int} (hX : X = 0 ∨ X = 1) {q r : Pt} (hqr : ht N q < ht N r) : ∀ (l : List Pt) (a : Pt),
  (∀ e ∈ ed (a :: l), Dis e.1 e.2 q r) → (∀ x ∈ a :: l, ht N x ≠ ht N q ∧ ht N x ≠ ht N r) →
  pw N X (a :: l) q - pw N X (a :: l) r = S N q r ((a :: l).getLast (List.cons_ne_nil _ _)) - S N q r a
 | [], a, _, _ => by simp [pw]
 | b :: l, a, h, k => by
  have ih := path_strip hX hqr l b (fun e he => h e (by rw [ed]; exact List.mem_cons_of_mem _ he)) (fun x hx => k x (List.mem_cons_of_mem _ hx))
  have s := strip hX (h (a, b) (by rw [ed]; exact List.mem_cons_self)) hqr (k a (by simp)).1 (k a (by simp)).2 (k b (by simp)).1 (k b (by simp)).2
  rw [pw_two, pw_two, List.getLast_cons (List.cons_ne_nil _ _)]
  simp only at s; omega

theorem sT_aff (s : Int) (x y q : Pt) : s * T x y q = aff (s * (x.2 - y.2)) (s * (y.1 - x.1)) (s * (x.1 * y.2 - y.1 * x.2)) q := by unfold T aff; grind
theorem on_T {s : Int} {u b x y q : Pt} (h : T x y q = 0) (h1 : s * T u b x < s * T u b y) (h2 : s * T u b x ≤ s * T u b q) (h3 : s * T u b q ≤ s * T u b y) : On x y q := by
 rw [sT_aff, sT_aff] at h1 h2 h3
 exact on_of _ _ _ h h1 h2 h3
theorem opp_s {s a b : Int} (hs : s = 1 ∨ s = -1) (h : opp (s * a) (s * b)) : opp a b := by
 rcases hs with rfl | rfl
 ·simpa using h
 ·simp only [Int.neg_mul, Int.one_mul] at h; exact opp_neg h
theorem id4T (s : Int) (u v a b c d : Pt) : T b c d * (s * T u v a) - T a c d * (s * T u v b) + T a b d * (s * T u v c) - T a b c * (s * T u v d) = 0 := by
 rw [sT_aff, sT_aff, sT_aff, sT_aff]; exact id4 _ _ _ a b c d
theorem baryS (s g : Int) (x y a b c q : Pt) : (s * T a b c) * (g * T x y q) = (s * T b c q) * (g * T x y a) + (s * T c a q) * (g * T x y b) + (s * T a b q) * (g * T x y c) := by
 have := bary x y a b c q
 have h : (s * T a b c) * (g * T x y q) = (s * g) * (T a b c * T x y q) := by grind
 rw [h, this]; grind

section core
variable {D ap bp dp ax bx dx ay b_y Lu Lv Lb Lp Kx Ky : Int}
theorem coreA (hLb : 0 < Lb) (hLp : Lp < 0) (hap : 0 < ap) (hbp : 0 < bp) (hdp : 0 ≤ dp) (hD : 0 < D) (hdx : dp < dx) (hx : ¬ (0 ≤ bx ∧ 0 ≤ ax))
  (e1 : D * Lp = ap * Lu + dp * Lb + bp * Lv) (e2 : 0 = ax * Lu + dx * Lb + bx * Lv) (hKx : Kx < 0) (hKy : 0 < Ky)
  (e3 : Ky * bx - Kx * b_y = Lb * bp) (e4 : Ky * ax - Kx * ay = Lb * ap) :
  (bx < 0 ∧ 0 < b_y ∧ Lu ≤ 0) ∨ (ax < 0 ∧ 0 < ay ∧ Lv ≤ 0) := by
 have q1 := mpn hD hLp
 have q2 := mzz hdp (Int.le_of_lt hLb)
 have q3 := mpp (show 0 < dx by omega) hLb
 have q4 := mpp hLb hbp
 have q5 := mpp hLb hap
 have hby : bx < 0 → 0 < b_y := by
  intro h
  have := mpn hKy h
  rw [Int.mul_comm] at e3
  exact ng' (c := Kx) hKx (by rw [Int.mul_comm b_y Kx]; have := Int.mul_comm bx Ky; omega)
 have hay : ax < 0 → 0 < ay := by
  intro h
  have := mpn hKy h
  rw [Int.mul_comm] at e4
  exact ng' (c := Kx) hKx (by rw [Int.mul_comm ay Kx]; have := Int.mul_comm ax Ky; omega)
 by_cases hb : bx < 0
 ·by_cases hu : Lu ≤ 0
  ·exact .inl ⟨hb, hby hb, hu⟩
  ·have r1 := mpp hap (show 0 < Lu by omega)
   have r2 : Lv < 0 := ng (c := bp) hbp (by rw [Int.mul_comm Lv bp]; omega)
   have r3 := mnn hb r2
   have r4 : ax < 0 := ng (c := Lu) (by omega) (by omega)
   exact .inr ⟨r4, hay r4, by omega⟩
 ·have ha : ax < 0 := by omega
  by_cases hv : Lv ≤ 0
  ·exact .inr ⟨ha, hay ha, hv⟩
  ·exfalso
   have r1 := mpp hbp (show 0 < Lv by omega)
   have r2 : Lu < 0 := ng (c := ap) hap (by rw [Int.mul_comm Lu ap]; omega)
   have r3 := mnn ha r2
   have r4 : bx < 0 := ng (c := Lv) (by omega) (by omega)
   omega
theorem coreB (hLu : 0 < Lu) (hLv : Lv < 0) (hD : 0 < D) (hdx : 0 < dx) (hx : ¬ (0 ≤ bx ∧ 0 ≤ ax))
  (e2 : 0 = ax * Lu + dx * Lb + bx * Lv) (hKx : Kx < 0) (hKy : 0 < Ky)
  (e3 : Ky * bx - Kx * b_y = Lu * D) (e4 : Ky * ax - Kx * ay = -(Lv * D)) :
  (bx < 0 ∧ 0 < b_y ∧ Lb < 0) ∨ (ax < 0 ∧ 0 < ay ∧ 0 ≤ Lb) := by
 have q4 := mpp hLu hD
 have q5 := mnp hLv hD
 have hby : bx < 0 → 0 < b_y := by
  intro h
  have := mpn hKy h
  exact ng' (c := Kx) hKx (by rw [Int.mul_comm b_y Kx]; omega)
 have hay : ax < 0 → 0 < ay := by
  intro h
  have := mpn hKy h
  exact ng' (c := Kx) hKx (by rw [Int.mul_comm ay Kx]; omega)
 by_cases hl : Lb < 0
 ·have q3 := mpn hdx hl
  have : bx < 0 := by
   by_cases ha : ax < 0
   ·have := mnp ha hLu
    exact ps' (c := Lv) hLv (by omega)
   ·omega
  exact .inl ⟨this, hby this, hl⟩
 ·have q3 := mzz (Int.le_of_lt hdx) (show 0 ≤ Lb by omega)
  have : ax < 0 := by
   by_cases hb : bx < 0
   ·have := mnn hb hLv
    exact ng (c := Lu) hLu (by omega)
   ·omega
  exact .inr ⟨this, hay this, by omega⟩
end core

def InT (s : Int) (u b v q : Pt) : Prop := 0 ≤ s * T u b q ∧ 0 ≤ s * T b v q ∧ 0 ≤ s * T v u q

theorem diag_half {s g : Int} (hs : s = 1 ∨ s = -1) (hg : g = 1 ∨ g = -1) {u b v p x y : Pt} (hD : 0 < s * T u b v) (ha : 0 < s * T b v p) (hb : 0 < s * T u b p) (hd : 0 ≤ s * T v u p)
  (hx : 0 ≤ s * T u b x → 0 ≤ s * T b v x → s * T v u x ≤ s * T v u p)
  (n1 : x ≠ u → y ≠ u → Dis x y u b) (n2 : x ≠ v → y ≠ v → Dis x y b v)
  (hdx : s * T v u p < s * T v u x) (hLb : 0 < g * T x y b) (hLp : g * T x y p < 0) (hk : opp (T b p x) (T b p y)) : False := by
 have e1 := baryS s g x y u b v p
 have e2 := baryS s g x y u b v x
 rw [T_aba] at e2
 have f3 := id4T s u b x y b p
 have f4 := id4T s b v x y b p
 rw [T_abb, T_cyc y b p |>.symm.trans (by rfl)] at f3
 rw [T_aba] at f4
 have z := sum4 x y b p
 have c1 := T_cyc b p x; have c2 := T_cyc b p y
 have c1' := T_cyc2 b p x; have c2' := T_cyc2 b p y
 have d1 : T y b p = T b p y := T_cyc2 b p y
 have d2 : T x b p = T b p x := T_cyc2 b p x
 rw [d1, d2] at z f4
 have f3' := id4T s u b x y b p
 rw [T_abb, d1, d2] at f3'
 have kk : g * T b p x < 0 ∧ 0 < g * T b p y := by
  unfold opp at hk
  rcases hg with rfl | rfl <;> omega
 have r := coreA (D := s * T u b v) (ap := s * T b v p) (bp := s * T u b p) (dp := s * T v u p) (ax := s * T b v x) (bx := s * T u b x) (dx := s * T v u x) (ay := s * T b v y) (b_y := s * T u b y)
  (Lu := g * T x y u) (Lv := g * T x y v) (Lb := g * T x y b) (Lp := g * T x y p) (Kx := g * T b p x) (Ky := g * T b p y) hLb hLp ha hb hd hD hdx (by intro k; have := hx k.1 k.2; omega) e1 (by rw [Int.mul_zero, Int.mul_zero] at e2; exact e2) kk.1 kk.2
  (by clear e1 e2 f3 f4 z; grind) (by clear e1 e2 f3 f3' z; grind)
 rcases r with ⟨k1, k2, k3⟩ | ⟨k1, k2, k3⟩
 ·have hxu : x ≠ u := by rintro rfl; rw [T_aba] at k1; omega
  have hyu : y ≠ u := by rintro rfl; rw [T_aba] at k2; omega
  have D := n1 hxu hyu
  by_cases h0 : T x y u = 0
  ·exact D.1 (on_T (s := s) (u := u) (b := b) h0 (by omega) (by rw [T_aba]; omega) (by rw [T_aba]; omega))
  ·refine D.2.2.2.2 ⟨?_, opp_s hs (.inl ⟨k1, k2⟩)⟩
   unfold opp; rcases hg with rfl | rfl <;> omega
 ·have hxu : x ≠ v := by rintro rfl; rw [T_abb] at k1; omega
  have hyu : y ≠ v := by rintro rfl; rw [T_abb] at k2; omega
  have D := n2 hxu hyu
  by_cases h0 : T x y v = 0
  ·exact D.2.1 (on_T (s := s) (u := b) (b := v) h0 (by omega) (by rw [T_abb]; omega) (by rw [T_abb]; omega))
  ·refine D.2.2.2.2 ⟨?_, opp_s hs (.inl ⟨k1, k2⟩)⟩
   unfold opp; rcases hg with rfl | rfl <;> omega
theorem tri_sum (s : Int) (u b v p : Pt) : s * T u b v = s * T b v p + s * T v u p + s * T u b p := by
 have := sum4 u b v p
 have e := T_swap v u p
 have e2 : T u b v = T b v p + T v u p + T u b p := by omega
 rw [e2, Int.mul_add, Int.mul_add]
theorem On.eq_end {a b p : Pt} {s u v : Int} {x y : Pt} (h : On a b p) (e : s * T x y p = s * T x y b) (n : s * T x y a ≠ s * T x y b) : p = b := by
 have g : ∀ i' j' k', aff i' j' k' p = aff i' j' k' b := by
  intro i' j' k'
  have c := id_col (s * (x.2 - y.2)) (s * (y.1 - x.1)) (s * (x.1 * y.2 - y.1 * x.2)) i' j' k' a b p
  rw [← sT_aff, ← sT_aff, ← sT_aff, h.1, e, Int.zero_mul] at c
  have c2 : (s * T x y b - s * T x y a) * (aff i' j' k' b - aff i' j' k' p) = 0 := by
   have : (s * T x y b - s * T x y a) * (aff i' j' k' b - aff i' j' k' p) = (s * T x y b - s * T x y a) * (aff i' j' k' b - aff i' j' k' a) - (aff i' j' k' p - aff i' j' k' a) * (s * T x y b - s * T x y a) := by grind
   rw [this]; exact c
  rcases Int.mul_eq_zero.mp c2 with h1 | h1 <;> omega
 have gx := g 1 0 0; have gy := g 0 1 0
 rw [aff_x, aff_x] at gx; rw [aff_y, aff_y] at gy
 exact Prod.ext gx gy
theorem On.btT {a b p : Pt} (h : On a b p) (s : Int) (x y : Pt) : Bt (s * T x y a) (s * T x y p) (s * T x y b) := by
 rw [sT_aff, sT_aff, sT_aff]; exact h.bt _ _ _
theorem diag {s : Int} (hs : s = 1 ∨ s = -1) {u b v p x y : Pt} (hD : 0 < s * T u b v) (ha : 0 < s * T b v p) (hb : 0 < s * T u b p) (hd : 0 ≤ s * T v u p) (hxp : x ≠ p) (hyp : y ≠ p)
  (hx : 0 ≤ s * T u b x → 0 ≤ s * T b v x → s * T v u x ≤ s * T v u p) (hy : 0 ≤ s * T u b y → 0 ≤ s * T b v y → s * T v u y ≤ s * T v u p)
  (n1 : x ≠ u → y ≠ u → Dis x y u b) (n2 : x ≠ v → y ≠ v → Dis x y b v) (o1 : ¬ On x y b) (o2 : ¬ On x y p) : Dis b p x y := by
 have ts := tri_sum s u b v p
 have db : s * T v u b = s * T u b v := by rw [T_cyc2 u b v]
 have no : ∀ q, q ≠ p → (0 ≤ s * T u b q → 0 ≤ s * T b v q → s * T v u q ≤ s * T v u p) → ¬ On b p q := by
  intro q hq hh ho
  have b1 := ho.btT s v u
  have b2 := ho.btT s u b
  have b3 := ho.btT s b v
  rw [T_abb] at b2; rw [T_aba] at b3
  unfold Bt at b1 b2 b3
  have hle := hh (by omega) (by omega)
  exact hq (ho.eq_end (s := s) (x := v) (y := u) (u := 0) (v := 0) (by omega) (by omega))
 refine ⟨no x hxp hx, no y hyp hy, o1, o2, fun k => ?_⟩
 obtain ⟨hk, hl⟩ := k
 obtain ⟨g, hg, hLb, hLp⟩ : ∃ g : Int, (g = 1 ∨ g = -1) ∧ 0 < g * T x y b ∧ g * T x y p < 0 := by
  unfold opp at hl
  rcases hl with h | h
  ·exact ⟨-1, .inr rfl, by omega, by omega⟩
  ·exact ⟨1, .inl rfl, by omega, by omega⟩
 have z := sum4 x y b p
 have d1 : T y b p = T b p y := T_cyc2 b p y
 have d2 : T x b p = T b p x := T_cyc2 b p x
 have f := id4T s v u x y b p
 rw [d1, d2] at z f
 have kk : g * T b p x < 0 ∧ 0 < g * T b p y := by
  unfold opp at hk
  rcases hg with rfl | rfl <;> omega
 by_cases h1 : s * T v u p < s * T v u x
 ·exact diag_half hs hg hD ha hb hd hx n1 n2 h1 hLb hLp hk
 by_cases h2 : s * T v u p < s * T v u y
 ·refine diag_half (g := -g) hs (by omega) hD ha hb hd hy (fun a c => (n1 c a).flip) (fun a c => (n2 c a).flip) h2 ?_ ?_ (opp_swap hk)
  ·rw [T_swap x y b, Int.neg_mul_neg]; exact hLb
  ·rw [T_swap x y p, Int.neg_mul_neg]; exact hLp
 have m1 := mzn (Int.le_of_lt kk.2) (show s * T v u x - s * T v u p ≤ 0 by omega)
 have m2 := mnnz (Int.le_of_lt kk.1) (show s * T v u y - s * T v u p ≤ 0 by omega)
 have m3 := mnp hLp (show 0 < s * T v u b - s * T v u p by omega)
 have : g * T b p y * (s * T v u x - s * T v u p) - g * T b p x * (s * T v u y - s * T v u p) + g * T x y p * (s * T v u b - s * T v u p) = 0 := by
  have e : T x y b = T b p y - T b p x + T x y p := by omega
  rw [e] at f
  clear m1 m2 m3 kk hk hl hLb hLp z
  grind
 omega

theorem cut_half {s g : Int} (hs : s = 1 ∨ s = -1) (hg : g = 1 ∨ g = -1) {u b v x y : Pt} (hD : 0 < s * T u b v) (hx : ¬ InT s u b v x)
  (n1 : x ≠ u → y ≠ u → Dis x y u b) (n2 : x ≠ v → y ≠ v → Dis x y b v)
  (hdx : 0 < s * T v u x) (hLu : 0 < g * T x y u) (hLv : g * T x y v < 0) (hk : opp (T u v x) (T u v y)) : False := by
 have e2 := baryS s g x y u b v x
 rw [T_aba, Int.mul_zero, Int.mul_zero] at e2
 have z := sum4 x y u v
 have d1 : T y u v = T u v y := T_cyc2 u v y
 have d2 : T x u v = T u v x := T_cyc2 u v x
 have f3 := id4T s u b x y u v
 have f4 := id4T s b v x y u v
 rw [d1, d2] at z f3 f4
 rw [T_aba] at f3
 rw [T_abb, T_cyc u b v] at f4
 have kk : g * T u v x < 0 ∧ 0 < g * T u v y := by
  unfold opp at hk
  rcases hg with rfl | rfl <;> omega
 have r := coreB (D := s * T u b v) (ax := s * T b v x) (bx := s * T u b x) (dx := s * T v u x) (ay := s * T b v y) (b_y := s * T u b y)
  (Lu := g * T x y u) (Lv := g * T x y v) (Lb := g * T x y b) (Kx := g * T u v x) (Ky := g * T u v y) hLu hLv hD hdx (by intro k; exact hx ⟨k.1, k.2, Int.le_of_lt hdx⟩) (by omega) kk.1 kk.2
  (by clear e2 f4 z; grind) (by clear e2 f3 z; grind)
 rcases r with ⟨k1, k2, k3⟩ | ⟨k1, k2, k3⟩
 ·have hxu : x ≠ u := by rintro rfl; rw [T_aba] at k1; omega
  have hyu : y ≠ u := by rintro rfl; rw [T_aba] at k2; omega
  have D := n1 hxu hyu
  refine D.2.2.2.2 ⟨?_, opp_s hs (.inl ⟨k1, k2⟩)⟩
  unfold opp; rcases hg with rfl | rfl <;> omega
 ·have hxu : x ≠ v := by rintro rfl; rw [T_abb] at k1; omega
  have hyu : y ≠ v := by rintro rfl; rw [T_abb] at k2; omega
  have D := n2 hxu hyu
  by_cases h0 : T x y b = 0
  ·exact D.1 (on_T (s := s) (u := b) (b := v) h0 (by omega) (by rw [T_aba]; omega) (by rw [T_aba]; omega))
  ·refine D.2.2.2.2 ⟨?_, opp_s hs (.inl ⟨k1, k2⟩)⟩
   unfold opp; rcases hg with rfl | rfl <;> omega
theorem cut {s : Int} (hs : s = 1 ∨ s = -1) {u b v x y : Pt} (hD : 0 < s * T u b v) (hx : ¬ InT s u b v x) (hy : ¬ InT s u b v y)
  (n1 : x ≠ u → y ≠ u → Dis x y u b) (n2 : x ≠ v → y ≠ v → Dis x y b v) (o1 : ¬ On x y u) (o2 : ¬ On x y v) : Dis u v x y := by
 have no : ∀ q, ¬ InT s u b v q → ¬ On u v q := by
  intro q hq ho
  have b1 := ho.btT s u b
  have b2 := ho.btT s b v
  rw [T_aba] at b1; rw [T_abb, T_cyc] at b2
  unfold Bt at b1 b2
  refine hq ⟨by omega, by omega, ?_⟩
  rw [T_swap, ho.1]; omega
 refine ⟨no x hx, no y hy, o1, o2, fun k => ?_⟩
 obtain ⟨hk, hl⟩ := k
 obtain ⟨g, hg, hLb, hLp⟩ : ∃ g : Int, (g = 1 ∨ g = -1) ∧ 0 < g * T x y u ∧ g * T x y v < 0 := by
  unfold opp at hl
  rcases hl with h | h
  ·exact ⟨-1, .inr rfl, by omega, by omega⟩
  ·exact ⟨1, .inl rfl, by omega, by omega⟩
 have e1 := T_swap u v x
 have e2 := T_swap u v y
 by_cases h1 : 0 < s * T v u x
 ·exact cut_half hs hg hD hx n1 n2 h1 hLb hLp hk
 ·refine cut_half (g := -g) hs (by omega) hD hy (fun a c => (n1 c a).flip) (fun a c => (n2 c a).flip) ?_ ?_ ?_ (opp_swap hk)
  ·unfold opp at hk; rcases hs with rfl | rfl <;> omega
  ·rw [T_swap x y u, Int.neg_mul_neg]; exact hLb
  ·rw [T_swap x y v, Int.neg_mul_neg]; exact hLp

def cyc : List Pt → List (Pt × Pt)
 | [] => []
 | a :: r => ed ((a :: r) ++ [a])
def Wd (N X : Int) : List Pt → Pt → Int
 | [], _ => 0
 | a :: r, z => pw N X ((a :: r) ++ [a]) z
theorem ed_snoc (A : List Pt) (p q : Pt) : ed (A ++ [p, q]) = ed (A ++ [p]) ++ [(p, q)] := by
 have := ed_split p [q] A; rw [this]; simp [ed]
theorem pw_snoc (N X : Int) (A : List Pt) (p q z : Pt) : pw N X (A ++ [p, q]) z = pw N X (A ++ [p]) z + w N X p q z := by
 have := pw_split N X p [q] z A; rw [this]; simp [pw]
theorem cyc_two (a b : Pt) (A B : List Pt) : cyc ((a :: A) ++ (b :: B)) = ed ((a :: A) ++ [b]) ++ ed ((b :: B) ++ [a]) := by
 have : cyc ((a :: A) ++ (b :: B)) = ed ((a :: A) ++ b :: (B ++ [a])) := by simp [cyc]
 rw [this, ed_split]; simp
theorem Wd_two (N X : Int) (a b : Pt) (A B : List Pt) (z : Pt) : Wd N X ((a :: A) ++ (b :: B)) z = pw N X ((a :: A) ++ [b]) z + pw N X ((b :: B) ++ [a]) z := by
 have : Wd N X ((a :: A) ++ (b :: B)) z = pw N X ((a :: A) ++ b :: (B ++ [a])) z := by simp [Wd]
 rw [this, pw_split]; simp
theorem mem_cyc_rot (A B : List Pt) (e : Pt × Pt) : e ∈ cyc (A ++ B) → e ∈ cyc (B ++ A) := by
 cases A with
 | nil => simp
 | cons a A =>
  cases B with
  | nil => simp
  | cons b B =>
   rw [cyc_two, cyc_two, List.mem_append, List.mem_append]; exact Or.symm
theorem Wd_rot (N X : Int) (A B : List Pt) (z : Pt) : Wd N X (A ++ B) z = Wd N X (B ++ A) z := by
 cases A with
 | nil => simp
 | cons a A =>
  cases B with
  | nil => simp
  | cons b B => rw [Wd_two, Wd_two]; omega
theorem ed_mem : ∀ (l : List Pt) (e : Pt × Pt), e ∈ ed l → e.1 ∈ l ∧ e.2 ∈ l
 | [], _, h => by simp [ed] at h
 | [_], _, h => by simp [ed] at h
 | a :: b :: r, e, h => by
  rw [ed, List.mem_cons] at h
  rcases h with rfl | h
  ·simp
  ·have := ed_mem (b :: r) e h
   exact ⟨List.mem_cons_of_mem _ this.1, List.mem_cons_of_mem _ this.2⟩
theorem ed_snd (a : Pt) (l : List Pt) (e : Pt × Pt) (h : e ∈ ed (a :: l)) : e.2 ∈ l := by
 cases l with
 | nil => simp [ed] at h
 | cons b r =>
  rw [ed, List.mem_cons] at h
  rcases h with rfl | h
  ·simp
  ·exact (ed_mem _ e h).2
theorem ed_fst (z : Pt) : ∀ (l : List Pt) (e : Pt × Pt), e ∈ ed (l ++ [z]) → e.1 ∈ l
 | [], e, h => by simp [ed] at h
 | [a], e, h => by simp [ed] at h; simp [h]
 | a :: b :: r, e, h => by
  rw [List.cons_append, List.cons_append, ed, List.mem_cons] at h
  rcases h with rfl | h
  ·simp
  ·exact List.mem_cons_of_mem _ (ed_fst z (b :: r) e h)
theorem cyc_mem (l : List Pt) (e : Pt × Pt) (h : e ∈ cyc l) : e.1 ∈ l ∧ e.2 ∈ l := by
 cases l with
 | nil => simp [cyc] at h
 | cons a r =>
  rw [cyc] at h
  refine ⟨ed_fst _ _ _ h, ?_⟩
  have := ed_snd a (r ++ [a]) e h
  simp at this ⊢; rcases this with h | h <;> simp [h]
theorem cyc_from (l : List Pt) (x : Pt) (h : x ∈ l) : ∃ y, (x, y) ∈ cyc l := by
 obtain ⟨A, B, rfl⟩ := List.append_of_mem h
 have : ∃ y, (x, y) ∈ cyc ((x :: B) ++ A) := by
  rw [List.cons_append, cyc]
  cases hl : B ++ A with
  | nil => exact ⟨x, by simp [ed]⟩
  | cons y r => exact ⟨y, by simp [ed]⟩
 obtain ⟨y, hy⟩ := this
 exact ⟨y, mem_cyc_rot _ _ _ hy⟩
theorem cyc_path (a z : Pt) (L : List Pt) : cyc (a :: (L ++ [z])) = ed (a :: (L ++ [z])) ++ [(z, a)] := by
 have : cyc (a :: (L ++ [z])) = ed ((a :: L) ++ [z, a]) := by simp [cyc]
 rw [this, ed_snoc]; rfl
theorem Wd_path (N X : Int) (a z : Pt) (L : List Pt) (q : Pt) : Wd N X (a :: (L ++ [z])) q = pw N X (a :: (L ++ [z])) q + w N X z a q := by
 have : Wd N X (a :: (L ++ [z])) q = pw N X ((a :: L) ++ [z, a]) q := by simp [Wd]
 rw [this, pw_snoc]; rfl

structure Sim (l : List Pt) : Prop where
 len : 3 ≤ l.length
 nd : l.Nodup
 na : ∀ e ∈ cyc l, ∀ f ∈ cyc l, e.2 ≠ f.1 → f.2 ≠ e.1 → e ≠ f → Dis e.1 e.2 f.1 f.2
 ad : ∀ e ∈ cyc l, ∀ f ∈ cyc l, e.2 = f.1 → ¬ On f.1 f.2 e.1 ∧ ¬ On e.1 e.2 f.2
theorem Sim.rot {A B : List Pt} (h : Sim (A ++ B)) : Sim (B ++ A) where
 len := by have := h.len; rw [List.length_append] at *; omega
 nd := by
  have := h.nd; rw [List.nodup_append] at *
  exact ⟨this.2.1, this.1, fun a ha b hb e => this.2.2 b hb a ha e.symm⟩
 na e he f hf := h.na e (mem_cyc_rot _ _ _ he) f (mem_cyc_rot _ _ _ hf)
 ad e he f hf := h.ad e (mem_cyc_rot _ _ _ he) f (mem_cyc_rot _ _ _ hf)
theorem Sim.off {l : List Pt} (h : Sim l) {e : Pt × Pt} (he : e ∈ cyc l) {q : Pt} (hq : q ∈ l) (h1 : q ≠ e.1) (h2 : q ≠ e.2) : ¬ On e.1 e.2 q := by
 obtain ⟨y, hy⟩ := cyc_from l q hq
 by_cases hye : y = e.1
 ·exact (h.ad _ hy e he hye).1
 ·exact (h.na _ hy e he hye (fun k => h2 k.symm) (fun k => h1 (by rw [← k]))).2.2.1

theorem Sim.sub {P : List Pt} (hP : Sim P) {a z : Pt} {L : List Pt} (hL : L ≠ []) (hsub : ∀ e ∈ ed (a :: (L ++ [z])), e ∈ cyc P) (nd : (a :: (L ++ [z])).Nodup)
  (hm : ∀ x ∈ a :: (L ++ [z]), x ∈ P)
  (h1 : ∀ f ∈ ed (a :: (L ++ [z])), f.1 ≠ a → f.1 ≠ z → f.2 ≠ a → f.2 ≠ z → Dis z a f.1 f.2) (h2 : ∀ q ∈ L, ¬ On z a q) : Sim (a :: (L ++ [z])) := by
 have hza : z ≠ a := by
  rw [List.nodup_cons] at nd; intro e; apply nd.1; simp [e]
 have haL : a ∉ L := by rw [List.nodup_cons] at nd; intro e; apply nd.1; simp [e]
 have hzL : z ∉ L := by
  rw [List.nodup_cons, List.nodup_append] at nd; intro e; exact nd.2.2.2 z e z (by simp) rfl
 have fst : ∀ f ∈ ed (a :: (L ++ [z])), f.1 ≠ z := by
  intro f hf e
  have := ed_fst z (a :: L) f hf
  rw [e, List.mem_cons] at this
  rcases this with h | h
  ·exact hza h
  ·exact hzL h
 have snd : ∀ f ∈ ed (a :: (L ++ [z])), f.2 ≠ a := by
  intro f hf e
  have := ed_snd a (L ++ [z]) f hf
  rw [e] at this
  simp at this
  rcases this with h | h
  ·exact haL h
  ·exact hza h.symm
 have saz : ∀ f ∈ ed (a :: (L ++ [z])), f.1 = a → f.2 ≠ z := by
  intro f hf e1 e2
  cases L with
  | nil => exact hL rfl
  | cons m L =>
   rw [List.cons_append, ed, List.mem_cons] at hf
   rcases hf with rfl | hf
   ·simp at e2; apply hzL; simp [e2]
   ·have := ed_fst z (m :: L) f hf
    rw [e1] at this; exact haL this
 have hmem : ∀ f ∈ cyc (a :: (L ++ [z])), f ∈ ed (a :: (L ++ [z])) ∨ f = (z, a) := by
  intro f hf; rw [cyc_path, List.mem_append] at hf
  rcases hf with h | h
  ·exact .inl h
  ·exact .inr (by simpa using h)
 refine ⟨?_, nd, ?_, ?_⟩
 ·cases L with
  | nil => exact absurd rfl hL
  | cons m L => simp
 ·intro e he f hf n1 n2 n3
  rcases hmem e he with he | rfl <;> rcases hmem f hf with hf | rfl
  ·exact hP.na e (hsub e he) f (hsub f hf) n1 n2 n3
  ·exact (h1 e he (fun k => n2 k.symm) (fst e he) (snd e he) n1).swap
  ·exact h1 f hf (fun k => n1 k.symm) (fst f hf) (snd f hf) n2
  ·exact absurd rfl n3
 ·intro e he f hf n1
  rcases hmem e he with he | rfl <;> rcases hmem f hf with hf | rfl
  ·exact hP.ad e (hsub e he) f (hsub f hf) n1
  ·-- e leads to z
   have e1 : e.1 ≠ a := fun k => saz e he k n1
   have hm1 := ed_mem _ _ he
   have hL1 : e.1 ∈ L := by
    have := ed_fst z (a :: L) e he
    rw [List.mem_cons] at this; exact this.resolve_left e1
   refine ⟨h2 _ hL1, ?_⟩
   exact hP.off (hsub e he) (hm a (by simp)) (fun k => e1 k.symm) (fun k => hza (n1.symm.trans k.symm))
  ·have n1' : a = f.1 := n1
   have e2 : f.2 ≠ z := saz f hf n1'.symm
   have hL1 : f.2 ∈ L := by
    have := ed_snd a (L ++ [z]) f hf
    simp at this; exact this.resolve_right e2
   refine ⟨?_, h2 _ hL1⟩
   exact hP.off (hsub f hf) (hm z (by simp)) (fun k => hza (by rw [n1', ← k])) (fun k => e2 k.symm)
  ·exact absurd n1.symm hza

def Sp (P : List Pt) (w : Pt) (R : List Pt) : Prop := ∃ A B, P = A ++ w :: B ∧ R = B ++ A
theorem Sp.head (w : Pt) (R : List Pt) : Sp (w :: R) w R := ⟨[], R, rfl, by simp⟩
theorem Sp.of_rot {A B : List Pt} {w : Pt} {R : List Pt} (h : Sp (A ++ B) w R) : Sp (B ++ A) w R := by
 obtain ⟨C, D, h1, h2⟩ := h
 rcases List.append_eq_append_iff.mp h1 with ⟨E, e1, e2⟩ | ⟨E, e1, e2⟩
 ·refine ⟨E, D ++ A, by rw [e2]; simp, by rw [h2, e1]; simp⟩
 ·cases E with
  | nil => refine ⟨[], D ++ C, ?_, by rw [h2]; simp⟩; simp at e1 e2; rw [e1, ← e2]; simp
  | cons x E =>
   simp at e2
   obtain ⟨rfl, e2⟩ := e2
   refine ⟨B ++ C, E, by rw [e1]; simp, by rw [h2, e2]; simp⟩
theorem Sp.sim {P : List Pt} {w : Pt} {R : List Pt} (h : Sp P w R) (hP : Sim P) : Sim (w :: R) := by
 obtain ⟨A, B, rfl, rfl⟩ := h; exact hP.rot
theorem Sp.len {P : List Pt} {w : Pt} {R : List Pt} (h : Sp P w R) : P.length = R.length + 1 := by
 obtain ⟨A, B, rfl, rfl⟩ := h; simp; omega
theorem Sp.mem {P : List Pt} {w : Pt} {R : List Pt} (h : Sp P w R) (x : Pt) : x ∈ P ↔ x = w ∨ x ∈ R := by
 obtain ⟨A, B, rfl, rfl⟩ := h; simp; constructor
 ·rintro (h | h | h) <;> simp [h]
 ·rintro (h | h | h) <;> simp [h]
theorem Sp.wd {P : List Pt} {w : Pt} {R : List Pt} (h : Sp P w R) (N X : Int) (z : Pt) : Wd N X P z = Wd N X (w :: R) z := by
 obtain ⟨A, B, rfl, rfl⟩ := h; exact Wd_rot N X A (w :: B) z
theorem Sp.cyc {P : List Pt} {w : Pt} {R : List Pt} (h : Sp P w R) (e : Pt × Pt) : e ∈ cyc P ↔ e ∈ Geo.cyc (w :: R) := by
 obtain ⟨A, B, rfl, rfl⟩ := h; exact ⟨mem_cyc_rot A (w :: B) e, mem_cyc_rot (w :: B) A e⟩
theorem cons_uniq {w : Pt} : ∀ {A B C D : List Pt}, w ∉ A → w ∉ C → A ++ w :: B = C ++ w :: D → A = C ∧ B = D
 | [], B, [], D, _, _, h => by simpa using h
 | [], B, c :: C, D, _, h2, h => by simp at h; exact absurd (by simp [h.1]) h2
 | a :: A, B, [], D, h1, _, h => by simp at h; exact absurd (by simp [h.1]) h1
 | a :: A, B, c :: C, D, h1, h2, h => by
  simp at h
  have := cons_uniq (fun k => h1 (by simp [k])) (fun k => h2 (by simp [k])) h.2
  exact ⟨by rw [h.1, this.1], this.2⟩
theorem Sp.uniq {P : List Pt} {w : Pt} {R Q : List Pt} (nd : P.Nodup) (h : Sp P w R) (k : Sp P w Q) : R = Q := by
 obtain ⟨A, B, rfl, rfl⟩ := h
 obtain ⟨C, D, e, rfl⟩ := k
 have n1 : w ∉ A := by
  rw [List.nodup_append] at nd; intro h; exact nd.2.2 w h w (by simp) rfl
 have n2 : w ∉ C := by
  rw [e, List.nodup_append] at nd; intro h; exact nd.2.2 w h w (by simp) rfl
 obtain ⟨rfl, rfl⟩ := cons_uniq n1 n2 e; rfl
theorem Sp.ex {P : List Pt} {w : Pt} (h : w ∈ P) : ∃ R, Sp P w R := by
 obtain ⟨A, B, rfl⟩ := List.append_of_mem h; exact ⟨B ++ A, A, B, rfl, rfl⟩
theorem ends2 {R : List Pt} (h : 2 ≤ R.length) : ∃ v M u, R = v :: (M ++ [u]) := by
 cases R with
 | nil => simp at h
 | cons v R =>
  have hR : R ≠ [] := by rintro rfl; simp at h
  exact ⟨v, R.dropLast, R.getLast hR, by rw [List.dropLast_concat_getLast]⟩

theorem tri_kd {N X : Int} (hX : X = 0 ∨ X = 1) {a b c z : Pt} (h : 0 < T a b c) (h1 : ht N b ≤ ht N z) (h2 : ht N b < ht N a) (h3 : ht N b < ht N c) (k : 0 < T b a z + X) : 0 < T b c z + X := by
 have e : T b c z * (ht N a - ht N b) = T b a z * (ht N c - ht N b) + T a b c * (ht N z - ht N b) := by unfold ht aff T; grind
 have m := mzz (Int.le_of_lt h) (show 0 ≤ ht N z - ht N b by omega)
 have m2 := mzz (show 0 ≤ T b a z by omega) (show 0 ≤ ht N c - ht N b by omega)
 rcases hX with rfl | rfl
 ·have m3 := mpp (show 0 < T b a z by omega) (show 0 < ht N c - ht N b by omega)
  have := ps (c := ht N a - ht N b) (x := T b c z) (by omega) (by omega)
  omega
 ·by_cases t : T b c z < 0
  ·have := mnp t (show 0 < ht N a - ht N b by omega); omega
  ·omega
theorem tri_ku {N X : Int} (hX : X = 0 ∨ X = 1) {a b c z : Pt} (h : 0 < T a b c) (h1 : ht N z < ht N a) (h2 : ht N b < ht N a) (h3 : ht N c < ht N a) (k : 0 < T b a z + X) : 0 < T c a z + X := by
 have e : T c a z * (ht N a - ht N b) = T b a z * (ht N a - ht N c) + T a b c * (ht N a - ht N z) := by unfold ht aff T; grind
 have m := mpp h (show 0 < ht N a - ht N z by omega)
 have m2 := mzz (show 0 ≤ T b a z by omega) (show 0 ≤ ht N a - ht N c by omega)
 have := ps (c := ht N a - ht N b) (x := T c a z) (by omega) (by omega)
 omega
theorem w_cases {N X : Int} (hX : X = 0 ∨ X = 1) (a b z : Pt) :
  (ht N a ≤ ht N z ∧ ht N z < ht N b ∧ (w N X a b z = if 0 < T a b z + X then 1 else 0)) ∨
  (ht N b ≤ ht N z ∧ ht N z < ht N a ∧ (w N X a b z = if 0 < T b a z + X then -1 else 0)) ∨
  ((ht N z < ht N a ∧ ht N z < ht N b ∨ ht N a ≤ ht N z ∧ ht N b ≤ ht N z) ∧ w N X a b z = 0) := by
 unfold w
 by_cases h1 : ht N a ≤ ht N z <;> by_cases h2 : ht N z < ht N b
 ·refine .inl ⟨h1, h2, ?_⟩
  rw [if_neg (c := ht N b ≤ ht N z ∧ ht N z < ht N a ∧ 0 < T b a z + X) (by omega)]
  by_cases h3 : 0 < T a b z + X <;> simp [h1, h2, h3]
 ·refine .inr (.inr ⟨.inr ⟨h1, by omega⟩, ?_⟩); rw [if_neg (by omega), if_neg (by omega)]
 ·refine .inr (.inr ⟨.inl ⟨by omega, h2⟩, ?_⟩); rw [if_neg (by omega), if_neg (by omega)]
 ·refine .inr (.inl ⟨by omega, by omega, ?_⟩)
  rw [if_neg (by omega)]
  by_cases h3 : 0 < T b a z + X
  ·rw [if_pos ⟨by omega, by omega, h3⟩, if_pos h3]
  ·rw [if_neg (fun c => h3 c.2.2), if_neg h3]
theorem tri1 {N X : Int} (hX : X = 0 ∨ X = 1) {a b c : Pt} (h : 0 < T a b c) (z : Pt) : 0 ≤ w N X a b z + w N X b c z + w N X c a z ∧ w N X a b z + w N X b c z + w N X c a z ≤ 1 := by
 have hb : 0 < T b c a := by rw [T_cyc]; exact h
 have hc : 0 < T c a b := by rw [T_cyc2]; exact h
 have d1 := fun p q r k => tri_kd (N := N) hX (z := z) h p q r k
 have d2 := fun p q r k => tri_kd (N := N) hX (z := z) hb p q r k
 have d3 := fun p q r k => tri_kd (N := N) hX (z := z) hc p q r k
 have u1 := fun p q r k => tri_ku (N := N) hX (z := z) h p q r k
 have u2 := fun p q r k => tri_ku (N := N) hX (z := z) hb p q r k
 have u3 := fun p q r k => tri_ku (N := N) hX (z := z) hc p q r k
 rcases w_cases (N := N) hX a b z with ⟨p1, p2, e1⟩ | ⟨p1, p2, e1⟩ | ⟨p1, e1⟩ <;>
 rcases w_cases (N := N) hX b c z with ⟨q1, q2, e2⟩ | ⟨q1, q2, e2⟩ | ⟨q1, e2⟩ <;>
 rcases w_cases (N := N) hX c a z with ⟨r1, r2, e3⟩ | ⟨r1, r2, e3⟩ | ⟨r1, e3⟩ <;> (try omega) <;> rw [e1, e2, e3] <;> clear e1 e2 e3
 all_goals (split <;> split <;> (try omega))
 all_goals (rename_i x y; first
  | exact absurd (d1 (by omega) (by omega) (by omega) (by assumption)) (by assumption)
  | exact absurd (d2 (by omega) (by omega) (by omega) (by assumption)) (by assumption)
  | exact absurd (d3 (by omega) (by omega) (by omega) (by assumption)) (by assumption)
  | exact absurd (u1 (by omega) (by omega) (by omega) (by assumption)) (by assumption)
  | exact absurd (u2 (by omega) (by omega) (by omega) (by assumption)) (by assumption)
  | exact absurd (u3 (by omega) (by omega) (by omega) (by assumption)) (by assumption))
theorem Wd_three (N X : Int) (a b c z : Pt) : Wd N X [a, b, c] z = w N X a b z + w N X b c z + w N X c a z := by simp [Wd, pw]; omega
theorem Wd_back3 (N X : Int) (a b c z : Pt) : Wd N X [c, b, a] z = - Wd N X [a, b, c] z := by
 rw [Wd_three, Wd_three, w_swap N X a b z, w_swap N X b c z, w_swap N X c a z]; omega
theorem triW {N X s : Int} (hX : X = 0 ∨ X = 1) (hs : s = 1 ∨ s = -1) {a b c : Pt} (h : 0 < s * T a b c) (z : Pt) : 0 ≤ s * Wd N X [a, b, c] z ∧ s * Wd N X [a, b, c] z ≤ 1 := by
 rcases hs with rfl | rfl
 ·rw [Int.one_mul] at *; rw [Wd_three]; exact tri1 hX h z
 ·have h' : 0 < T c b a := by rw [T_swap3]; omega
  have := tri1 (N := N) hX h' z
  have e := Wd_back3 N X a b c z
  rw [← Wd_three, e] at this; omega
theorem tri_in1 {N : Int} {a b c q : Pt} (h : 0 < T a b c) (i1 : 0 ≤ T a b q) (i2 : 0 ≤ T b c q) (i3 : 0 ≤ T c a q) (ha : ht N q ≠ ht N a) (hb : ht N q ≠ ht N b) (hc : ht N q ≠ ht N c) :
  ∃ X, (X = 0 ∨ X = 1) ∧ w N X a b q + w N X b c q + w N X c a q = 1 := by
 have e : T a b c = T b c q + T c a q + T a b q := by unfold T; grind
 have eh : T b c q * (ht N a - ht N q) + T c a q * (ht N b - ht N q) + T a b q * (ht N c - ht N q) = 0 := by unfold ht aff T; grind
 have z1 : ¬ (T a b q = 0 ∧ T b c q = 0) := by
  rintro ⟨k1, k2⟩; rw [k1, k2, Int.zero_mul, Int.zero_mul] at eh
  have : T c a q ≠ 0 := by omega
  have := Int.mul_ne_zero this (show ht N b - ht N q ≠ 0 by omega); omega
 have z2 : ¬ (T b c q = 0 ∧ T c a q = 0) := by
  rintro ⟨k1, k2⟩; rw [k1, k2, Int.zero_mul, Int.zero_mul] at eh
  have : T a b q ≠ 0 := by omega
  have := Int.mul_ne_zero this (show ht N c - ht N q ≠ 0 by omega); omega
 have z3 : ¬ (T c a q = 0 ∧ T a b q = 0) := by
  rintro ⟨k1, k2⟩; rw [k1, k2, Int.zero_mul, Int.zero_mul] at eh
  have : T b c q ≠ 0 := by omega
  have := Int.mul_ne_zero this (show ht N a - ht N q ≠ 0 by omega); omega
 have lo : ¬ (ht N q < ht N a ∧ ht N q < ht N b ∧ ht N q < ht N c) := by
  rintro ⟨k1, k2, k3⟩
  have m1 := mzz i2 (show 0 ≤ ht N a - ht N q by omega)
  have m2 := mzz i3 (show 0 ≤ ht N b - ht N q by omega)
  have m3 := mzz i1 (show 0 ≤ ht N c - ht N q by omega)
  have : T b c q = 0 ∨ 0 < T b c q := by omega
  rcases this with t | t
  ·have : T c a q = 0 ∨ 0 < T c a q := by omega
   rcases this with t2 | t2
   ·exact z2 ⟨t, t2⟩
   ·have := mpp t2 (show 0 < ht N b - ht N q by omega); omega
  ·have := mpp t (show 0 < ht N a - ht N q by omega); omega
 have hi : ¬ (ht N a < ht N q ∧ ht N b < ht N q ∧ ht N c < ht N q) := by
  rintro ⟨k1, k2, k3⟩
  have m1 := mzn i2 (show ht N a - ht N q ≤ 0 by omega)
  have m2 := mzn i3 (show ht N b - ht N q ≤ 0 by omega)
  have m3 := mzn i1 (show ht N c - ht N q ≤ 0 by omega)
  have : T b c q = 0 ∨ 0 < T b c q := by omega
  rcases this with t | t
  ·have : T c a q = 0 ∨ 0 < T c a q := by omega
   rcases this with t2 | t2
   ·exact z2 ⟨t, t2⟩
   ·have := mpn t2 (show ht N b - ht N q < 0 by omega); omega
  ·have := mpn t (show ht N a - ht N q < 0 by omega); omega
 have s1 := T_swap a b q; have s2 := T_swap b c q; have s3 := T_swap c a q
 have a0 := w_cases (N := N) (.inl rfl) a b q; have b0 := w_cases (N := N) (.inl rfl) b c q; have c0 := w_cases (N := N) (.inl rfl) c a q
 have a1 := w_cases (N := N) (.inr rfl) a b q; have b1 := w_cases (N := N) (.inr rfl) b c q; have c1 := w_cases (N := N) (.inr rfl) c a q
 clear eh e h
 rw [if_neg (c := 0 < T b a q + 0) (by omega), if_pos (c := 0 < T a b q + 1) (by omega)] at *
 rw [if_neg (c := 0 < T c b q + 0) (by omega), if_pos (c := 0 < T b c q + 1) (by omega)] at *
 rw [if_neg (c := 0 < T a c q + 0) (by omega), if_pos (c := 0 < T c a q + 1) (by omega)] at *
 by_cases k : w N 0 a b q + w N 0 b c q + w N 0 c a q = 1
 ·exact ⟨0, .inl rfl, k⟩
 ·refine ⟨1, .inr rfl, ?_⟩
  generalize w N 0 a b q = wa0 at *; generalize w N 0 b c q = wb0 at *; generalize w N 0 c a q = wc0 at *
  generalize w N 1 a b q = wa1 at *; generalize w N 1 b c q = wb1 at *; generalize w N 1 c a q = wc1 at *
  rcases a1 with ⟨p1, p2, e1⟩ | ⟨p1, p2, e1⟩ | ⟨p1, e1⟩ <;> rcases b1 with ⟨q1, q2, e2⟩ | ⟨q1, q2, e2⟩ | ⟨q1, e2⟩ <;> rcases c1 with ⟨r1, r2, e3⟩ | ⟨r1, r2, e3⟩ | ⟨r1, e3⟩ <;> (try (clear a0 b0 c0; omega)) <;>
  rcases a0 with ⟨f1, f2, g1⟩ | ⟨f1, f2, g1⟩ | ⟨f1, g1⟩ <;> (try (clear b0 c0; omega)) <;> rcases b0 with ⟨f3, f4, g2⟩ | ⟨f3, f4, g2⟩ | ⟨f3, g2⟩ <;> (try (clear c0; omega)) <;> rcases c0 with ⟨f5, f6, g3⟩ | ⟨f5, f6, g3⟩ | ⟨f5, g3⟩ <;> (try omega) <;>
  (repeat' split at *) <;> omega
theorem triIn {N s : Int} (hs : s = 1 ∨ s = -1) {u b v q : Pt} (h : 0 < s * T u b v) (i : InT s u b v q) (hu : ht N q ≠ ht N u) (hb : ht N q ≠ ht N b) (hv : ht N q ≠ ht N v) :
  ∃ X, (X = 0 ∨ X = 1) ∧ s * Wd N X [u, b, v] q = 1 := by
 obtain ⟨i1, i2, i3⟩ := i
 rcases hs with rfl | rfl
 ·rw [Int.one_mul] at *
  obtain ⟨X, hX, e⟩ := tri_in1 h i1 i2 i3 hu hb hv
  exact ⟨X, hX, by rw [Wd_three, Int.one_mul]; exact e⟩
 ·have s1 := T_swap u b q; have s2 := T_swap b v q; have s3 := T_swap v u q; have s4 := T_swap3 u b v
  obtain ⟨X, hX, e⟩ := tri_in1 (N := N) (a := v) (b := b) (c := u) (q := q) (by omega) (by omega) (by omega) (by omega) hv hb hu
  refine ⟨X, hX, ?_⟩
  have := Wd_back3 N X u b v q
  rw [Wd_three] at this; omega

def Inj (N : Int) (P : List Pt) : Prop := ∀ x ∈ P, ∀ y ∈ P, ht N x = ht N y → x = y
theorem Inj.ne {N : Int} {P : List Pt} (h : Inj N P) {x y : Pt} (hx : x ∈ P) (hy : y ∈ P) (n : x ≠ y) : ht N x ≠ ht N y := fun e => n (h x hx y hy e)
theorem Inj.mono {N : Int} {P Q : List Pt} (h : Inj N P) (k : ∀ x ∈ Q, x ∈ P) : Inj N Q := fun x hx y hy => h x (k x hx) y (k y hy)
def Ori (N s : Int) (P : List Pt) : Prop := (s = 1 ∨ s = -1) ∧ ∃ b v M u, Sp P b (v :: (M ++ [u])) ∧ (∀ q ∈ v :: (M ++ [u]), ht N b < ht N q) ∧ 0 < s * T u b v

theorem gl (v u : Pt) (M : List Pt) (h : v :: (M ++ [u]) ≠ []) : (v :: (M ++ [u])).getLast h = u := by
 show ((v :: M) ++ [u]).getLast _ = u
 exact List.getLast_concat
theorem gl? (v u : Pt) (M : List Pt) : (v :: (M ++ [u])).getLast? = some u := by
 show ((v :: M) ++ [u]).getLast? = some u
 exact List.getLast?_concat
theorem low_ex (N : Int) : ∀ P : List Pt, P ≠ [] → ∃ b ∈ P, ∀ q ∈ P, ht N b ≤ ht N q
 | [], h => absurd rfl h
 | [a], _ => ⟨a, by simp, by simp⟩
 | a :: c :: r, _ => by
  obtain ⟨b, hb, h⟩ := low_ex N (c :: r) (by simp)
  by_cases k : ht N a ≤ ht N b
  ·refine ⟨a, by simp, fun q hq => ?_⟩
   rw [List.mem_cons] at hq
   rcases hq with rfl | hq
   ·omega
   ·have := h q hq; omega
  ·refine ⟨b, List.mem_cons_of_mem _ hb, fun q hq => ?_⟩
   rw [List.mem_cons] at hq
   rcases hq with rfl | hq
   ·omega
   ·exact h q hq
theorem Sp.nd {P : List Pt} {w : Pt} {R : List Pt} (h : Sp P w R) (nd : P.Nodup) : (w :: R).Nodup := by
 obtain ⟨A, B, rfl, rfl⟩ := h
 have := nd
 rw [List.nodup_append] at this
 have h2 := this.2.1
 rw [← List.cons_append, List.nodup_append]
 exact ⟨h2, this.1, fun a ha b hb e => this.2.2 b hb a ha e.symm⟩
theorem Ori.ex {N : Int} {P : List Pt} (hP : Sim P) (hi : Inj N P) : ∃ s, Ori N s P := by
 obtain ⟨b, hb, hl⟩ := low_ex N P (by rintro rfl; have := hP.len; simp at this)
 obtain ⟨R, hR⟩ := Sp.ex hb
 have hlen := hR.len
 have hP3 := hP.len
 obtain ⟨v, M, u, rfl⟩ := ends2 (R := R) (by omega)
 have nd := hR.nd hP.nd
 rw [List.nodup_cons] at nd
 have low : ∀ q ∈ v :: (M ++ [u]), ht N b < ht N q := by
  intro q hq
  have hqP := (hR.mem q).mpr (.inr hq)
  have := hl q hqP
  have := hi.ne hb hqP (by rintro rfl; exact nd.1 hq)
  omega
 have S1 := hR.sim hP
 have e1 : (u, b) ∈ cyc (b :: v :: (M ++ [u])) := by
  have : b :: v :: (M ++ [u]) = b :: ((v :: M) ++ [u]) := rfl
  rw [this, cyc_path]; simp
 have e2 : (b, v) ∈ cyc (b :: v :: (M ++ [u])) := by
  have : b :: v :: (M ++ [u]) = b :: ((v :: M) ++ [u]) := rfl
  rw [this, cyc_path]; simp [ed]
 have ad := S1.ad _ e1 _ e2 rfl
 have hu := low u (by simp)
 have hv := low v (by simp)
 have ne : T u b v ≠ 0 := by
  intro h0
  by_cases k : ht N u ≤ ht N v
  ·exact ad.1 (on_of (-1) N 0 (by rw [T_cyc]; exact h0) hv (Int.le_of_lt hu) k)
  ·exact ad.2 (on_of' (-1) N 0 h0 hu (Int.le_of_lt hv) (Int.le_of_lt (Int.not_le.mp k)))
 rcases Int.lt_or_gt_of_ne ne with h | h
 ·exact ⟨-1, .inr rfl, b, v, M, u, hR, low, by omega⟩
 ·exact ⟨1, .inl rfl, b, v, M, u, hR, low, by omega⟩
theorem Ori.uniq {N s t : Int} {P : List Pt} (nd : P.Nodup) (h : Ori N s P) (k : Ori N t P) : s = t := by
 obtain ⟨hs, b, v, M, u, h1, h2, h3⟩ := h
 obtain ⟨ht, b', v', M', u', k1, k2, k3⟩ := k
 have hb : b = b' := by
  have m1 := (h1.mem b').mp ((k1.mem b').mpr (.inl rfl))
  have m2 := (k1.mem b).mp ((h1.mem b).mpr (.inl rfl))
  rcases m1 with rfl | m1
  ·rfl
  ·rcases m2 with rfl | m2
   ·rfl
   ·have := h2 _ m1; have := k2 _ m2; omega
 subst hb
 have e := Sp.uniq nd h1 k1
 rw [List.cons.injEq] at e
 obtain ⟨rfl, e⟩ := e
 have e2 := congrArg (·.getLast?) e
 simp at e2
 subst e2
 rcases hs with rfl | rfl <;> rcases ht with rfl | rfl <;> omega
theorem Ori.rot {N s : Int} {A B : List Pt} (h : Ori N s (A ++ B)) : Ori N s (B ++ A) := by
 obtain ⟨hs, b, v, M, u, h1, h2⟩ := h
 exact ⟨hs, b, v, M, u, h1.of_rot, h2⟩

theorem pw_low (N X : Int) (b : Pt) : ∀ l : List Pt, (∀ x ∈ l, ht N b < ht N x) → pw N X l b = 0
 | [], _ => rfl
 | [_], _ => rfl
 | x :: y :: r, h => by
  rw [pw_two, pw_low N X b (y :: r) (fun z hz => h z (List.mem_cons_of_mem _ hz))]
  have h1 := h x (by simp); have h2 := h y (by simp)
  unfold w; rw [if_neg (by omega), if_neg (by omega)]; rfl
theorem low_zero {N X : Int} (hX : X = 0 ∨ X = 1) {a b c p : Pt} {L : List Pt} (hl : ∀ x ∈ c :: (L ++ [p]), ht N b < ht N x) (ha : ht N b < ht N a) (hn : ∀ x ∈ c :: (L ++ [p]), ht N x ≠ ht N a)
  (D : ∀ e ∈ ed (c :: (L ++ [p])), Dis e.1 e.2 b a) (sg : 0 < T b c a ∧ 0 < T b p a ∨ T b c a < 0 ∧ T b p a < 0) : Wd N X (b :: c :: (L ++ [p])) a = 0 := by
 have e : b :: c :: (L ++ [p]) = b :: ((c :: L) ++ [p]) := rfl
 rw [e, Wd_path, List.cons_append, pw_two]
 have st := path_strip hX ha (L ++ [p]) c D (fun x hx => ⟨by have := hl x hx; omega, hn x hx⟩)
 rw [pw_low N X b _ hl] at st
 have hlast : (c :: (L ++ [p])).getLast (List.cons_ne_nil _ _) = p := gl _ _ _ _
 rw [hlast] at st
 have hc := hl c (by simp); have hp := hl p (by simp)
 have nc := hn c (by simp); have np := hn p (by simp)
 have s1 := T_swap2 b c a; have s2 := T_swap2 b p a
 have v1 : w N X b c a + S N b a c = if 0 < T b c a then 1 else 0 := by
  by_cases k : ht N a < ht N c
  ·rw [S_out (by omega)]
   by_cases t : 0 < T b c a
   ·rw [w_one ⟨by omega, k⟩ (by omega), if_pos t]; rfl
   ·rw [w_zero (by omega) (by omega), if_neg t]; rfl
  ·rw [w_out (by omega) (by omega)]
   by_cases t : 0 < T b c a
   ·rw [S_one ⟨hc, by omega⟩ (by omega), if_pos t]; rfl
   ·rw [S_zero (by omega), if_neg t]; rfl
 have v2 : w N X b p a + S N b a p = if 0 < T b p a then 1 else 0 := by
  by_cases k : ht N a < ht N p
  ·rw [S_out (by omega)]
   by_cases t : 0 < T b p a
   ·rw [w_one ⟨by omega, k⟩ (by omega), if_pos t]; rfl
   ·rw [w_zero (by omega) (by omega), if_neg t]; rfl
  ·rw [w_out (by omega) (by omega)]
   by_cases t : 0 < T b p a
   ·rw [S_one ⟨hp, by omega⟩ (by omega), if_pos t]; rfl
   ·rw [S_zero (by omega), if_neg t]; rfl
 rw [w_swap N X b p a]
 rcases sg with ⟨g1, g2⟩ | ⟨g1, g2⟩
 ·rw [if_pos g1] at v1; rw [if_pos g2] at v2; omega
 ·rw [if_neg (by omega)] at v1; rw [if_neg (by omega)] at v2; omega

theorem seg_const {N X : Int} (hX : X = 0 ∨ X = 1) {Q : List Pt} {q r : Pt} (D : ∀ e ∈ cyc Q, Dis e.1 e.2 q r) (hn : ∀ x ∈ Q, ht N x ≠ ht N q ∧ ht N x ≠ ht N r) (hqr : ht N q ≠ ht N r) : Wd N X Q q = Wd N X Q r := by
 cases Q with
 | nil => rfl
 | cons a Q =>
  have hn' : ∀ x ∈ a :: (Q ++ [a]), ht N x ≠ ht N q ∧ ht N x ≠ ht N r := by
   intro x hx; simp at hx; rcases hx with h | h | h <;> exact hn x (by simp [h])
  have hl : (a :: (Q ++ [a])).getLast (List.cons_ne_nil _ _) = a := gl _ _ _ _
  rcases Int.lt_or_gt_of_ne hqr with h | h
  ·have := path_strip hX h (Q ++ [a]) a D hn'
   rw [hl] at this
   show pw N X (a :: (Q ++ [a])) q = pw N X (a :: (Q ++ [a])) r; omega
  ·have := path_strip hX h (Q ++ [a]) a (fun e he => (D e he).flip2) (fun x hx => ⟨(hn' x hx).2, (hn' x hx).1⟩)
   rw [hl] at this
   show pw N X (a :: (Q ++ [a])) q = pw N X (a :: (Q ++ [a])) r; omega
theorem chain_head {N X : Int} (hX : X = 0 ∨ X = 1) {Q : List Pt} : ∀ (L : List Pt) (h : Pt), (∀ f ∈ ed (h :: L), ∀ e ∈ cyc Q, Dis e.1 e.2 f.1 f.2) → (∀ x ∈ Q, ∀ y ∈ h :: L, ht N x ≠ ht N y) → Inj N (h :: L) → (h :: L).Nodup →
  ∀ y ∈ h :: L, Wd N X Q y = Wd N X Q h
 | [], h, _, _, _, _, y, hy => by simp at hy; rw [hy]
 | k :: L, h, D, hn, hi, nd, y, hy => by
  rw [List.mem_cons] at hy
  rcases hy with rfl | hy
  ·rfl
  ·have ih := chain_head hX L k (fun f hf => D f (by rw [ed]; exact List.mem_cons_of_mem _ hf)) (fun x hx z hz => hn x hx z (List.mem_cons_of_mem _ hz)) (hi.mono (fun x hx => List.mem_cons_of_mem _ hx)) (by rw [List.nodup_cons] at nd; exact nd.2) y hy
   rw [ih]
   have hhk : h ≠ k := by rw [List.nodup_cons] at nd; intro e; apply nd.1; simp [e]
   exact (seg_const hX (D (h, k) (by rw [ed]; simp)) (fun x hx => ⟨hn x hx h (by simp), hn x hx k (by simp)⟩) (hi.ne (by simp) (by simp) hhk)).symm
theorem chain_const {N X : Int} (hX : X = 0 ∨ X = 1) {Q L : List Pt} (D : ∀ f ∈ ed L, ∀ e ∈ cyc Q, Dis e.1 e.2 f.1 f.2) (hn : ∀ x ∈ Q, ∀ y ∈ L, ht N x ≠ ht N y) (hi : Inj N L) (nd : L.Nodup) {y z : Pt} (hy : y ∈ L) (hz : z ∈ L) : Wd N X Q y = Wd N X Q z := by
 cases L with
 | nil => simp at hy
 | cons h L => rw [chain_head hX L h D hn hi nd y hy, chain_head hX L h D hn hi nd z hz]

theorem Wd_diag (N X : Int) (b p : Pt) (A B : List Pt) (z : Pt) : Wd N X (b :: (A ++ p :: B)) z = Wd N X (b :: (A ++ [p])) z + Wd N X (p :: (B ++ [b])) z := by
 have h1 : Wd N X (b :: (A ++ p :: B)) z = pw N X ((b :: A) ++ p :: (B ++ [b])) z := by simp [Wd]
 rw [h1, pw_split, Wd_path, Wd_path, w_swap N X b p z]; simp; omega
theorem Wd_ear (N X : Int) (a v u : Pt) (M : List Pt) (z : Pt) : Wd N X (a :: v :: (M ++ [u])) z = Wd N X [u, a, v] z + Wd N X (v :: (M ++ [u])) z := by
 have : a :: v :: (M ++ [u]) = a :: ((v :: M) ++ [u]) := rfl
 rw [this, Wd_path, Wd_path, Wd_three, List.cons_append, pw_two, w_swap N X u v z]; omega
theorem Wd_two0 (N X : Int) (a b z : Pt) : Wd N X [a, b] z = 0 := by
 simp only [Wd, pw, List.cons_append, List.nil_append]; rw [w_swap N X a b z]; omega

def Ear (s : Int) (a : Pt) (R : List Pt) : Prop := ∃ v u, R.head? = some v ∧ R.getLast? = some u ∧ 0 < s * T u a v ∧ ∀ q ∈ R, q ≠ u → q ≠ v → ¬ InT s u a v q
theorem Ear.of {s : Int} {a v u : Pt} {M : List Pt} (h : 0 < s * T u a v) (k : ∀ q ∈ M, ¬ InT s u a v q) : Ear s a (v :: (M ++ [u])) :=
 ⟨v, u, rfl, gl? _ _ _, h, fun q hq n1 n2 => by simp at hq; rcases hq with rfl | hq | rfl; exact absurd rfl n2; exact k q hq; exact absurd rfl n1⟩
theorem Ear.to {s : Int} {a v u : Pt} {M : List Pt} (nd : (v :: (M ++ [u])).Nodup) (h : Ear s a (v :: (M ++ [u]))) : 0 < s * T u a v ∧ ∀ q ∈ M, ¬ InT s u a v q := by
 obtain ⟨v', u', h1, h2, h3, h4⟩ := h
 rw [gl?] at h2; simp at h1 h2; subst h1; subst h2
 rw [List.nodup_cons, List.nodup_append] at nd
 exact ⟨h3, fun q hq => h4 q (by simp [hq]) (fun e => nd.2.2.2 q hq u (by simp) e) (fun e => nd.1 (by simp [← e, hq]))⟩
theorem on_InT {s : Int} {u b v q : Pt} (hD : 0 < s * T u b v) (ho : On u v q) : InT s u b v q := by
 have b1 := ho.btT s u b
 have b2 := ho.btT s b v
 rw [T_aba] at b1; rw [T_abb, T_cyc] at b2
 unfold Bt at b1 b2
 refine ⟨by omega, by omega, ?_⟩
 rw [T_swap, ho.1]; omega
theorem low_notin {N s : Int} {u a v b : Pt} (hD : 0 < s * T u a v) (hu : ht N b < ht N u) (ha : ht N b < ht N a) (hv : ht N b < ht N v) : ¬ InT s u a v b := by
 rintro ⟨h1, h2, h3⟩
 have e : s * T u a v = s * T a v b + s * T v u b + s * T u a b := tri_sum s u a v b
 have eh : (s * T a v b) * (ht N u - ht N b) + (s * T v u b) * (ht N a - ht N b) + (s * T u a b) * (ht N v - ht N b) = 0 := by unfold ht aff T; grind
 have m1 := mzz h2 (show 0 ≤ ht N u - ht N b by omega)
 have m2 := mzz h3 (show 0 ≤ ht N a - ht N b by omega)
 have m3 := mzz h1 (show 0 ≤ ht N v - ht N b by omega)
 have : 0 < s * T a v b ∨ 0 < s * T v u b ∨ 0 < s * T u a b := by omega
 rcases this with t | t | t
 ·have := mpp t (show 0 < ht N u - ht N b by omega); omega
 ·have := mpp t (show 0 < ht N a - ht N b by omega); omega
 ·have := mpp t (show 0 < ht N v - ht N b by omega); omega
theorem cyc_ends (a v u : Pt) (M : List Pt) : cyc (a :: v :: (M ++ [u])) = (a, v) :: (ed (v :: (M ++ [u])) ++ [(u, a)]) := by
 have : a :: v :: (M ++ [u]) = a :: ((v :: M) ++ [u]) := rfl
 rw [this, cyc_path, List.cons_append, ed]; rfl
theorem Ear.sim {s : Int} (hs : s = 1 ∨ s = -1) {a v u : Pt} {M : List Pt} (hP : Sim (a :: v :: (M ++ [u]))) (hM : M ≠ []) (h : Ear s a (v :: (M ++ [u]))) : Sim (v :: (M ++ [u])) := by
 have nd := hP.nd
 have nd1 := List.nodup_cons.mp nd
 have nd2 := List.nodup_cons.mp nd1.2
 have nd3 := List.nodup_append.mp nd2.2
 obtain ⟨hD, hE⟩ := h.to nd1.2
 have ce := cyc_ends a v u M
 have sub : ∀ e ∈ ed (v :: (M ++ [u])), e ∈ cyc (a :: v :: (M ++ [u])) := fun e he => by rw [ce]; simp [he]
 have ua : (u, a) ∈ cyc (a :: v :: (M ++ [u])) := by rw [ce]; simp
 have av : (a, v) ∈ cyc (a :: v :: (M ++ [u])) := by rw [ce]; simp
 refine hP.sub hM sub nd1.2 (fun x hx => List.mem_cons_of_mem _ hx) ?_ ?_
 ·intro f hf n1 n2 n3 n4
  have m := ed_mem _ f hf
  have mf1 : f.1 ∈ M := by have := m.1; simp at this; rcases this with h | h | h; exact absurd h n1; exact h; exact absurd h n2
  have mf2 : f.2 ∈ M := by have := m.2; simp at this; rcases this with h | h | h; exact absurd h n3; exact h; exact absurd h n4
  have fa1 : f.1 ≠ a := fun e => nd1.1 (e ▸ m.1)
  have fa2 : f.2 ≠ a := fun e => nd1.1 (e ▸ m.2)
  refine cut hs hD (hE _ mf1) (hE _ mf2) (fun _ _ => ?_) (fun _ _ => ?_) ?_ ?_
  ·exact hP.na f (sub f hf) (u, a) ua n4 (fun e => fa1 e.symm) (fun e => n2 (by rw [e]))
  ·exact hP.na f (sub f hf) (a, v) av fa2 (fun e => n1 e.symm) (fun e => fa1 (by rw [e]))
  ·exact hP.off (sub f hf) (by simp) (fun e => n2 e.symm) (fun e => n4 e.symm)
  ·exact hP.off (sub f hf) (by simp) (fun e => n1 e.symm) (fun e => n3 e.symm)
 ·intro q hq ho
  exact hE q hq (on_InT hD ho)

theorem adj1 {s : Int} (hs : s = 1 ∨ s = -1) {u b v m : Pt} (h1 : 0 < s * T u b v) (h2 : 0 < s * T b v m) (h3 : ¬ InT s b v m u) (D : Dis u b v m) : 0 < s * T u b m := by
  by_cases k : 0 < s * T u b m
  · exact k
  exfalso
  have e1 : s * T b v u = s * T u b v := by rw [T_cyc]
  have e2 : s * T m b u = - (s * T u b m) := by rw [T_swap3 u b m, Int.mul_neg]
  have hlt : s * T v m u < 0 := by
    by_cases t : 0 ≤ s * T v m u
    · exact absurd ⟨by omega, t, by omega⟩ h3
    · omega
  have e3 : s * T v m b = s * T b v m := by rw [T_cyc]
  by_cases z : s * T u b m = 0
  · have z' : T u b m = 0 := by rcases hs with rfl | rfl <;> omega
    exact D.2.1 (on_T (s := s) (u := v) (b := m) z' (by omega) (by rw [T_abb]; omega) (by rw [T_abb]; omega))
  · exact D.2.2.2.2 ⟨opp_s hs (.inr ⟨h1, by omega⟩), opp_s hs (.inl ⟨hlt, by omega⟩)⟩
theorem adj2 {s : Int} (hs : s = 1 ∨ s = -1) {u b v m : Pt} (h1 : 0 < s * T u b v) (h2 : 0 < s * T m u b) (h3 : ¬ InT s m u b v) (D : Dis b v m u) : 0 < s * T m b v := by
  by_cases k : 0 < s * T m b v
  · exact k
  exfalso
  have e2 : s * T b m v = - (s * T m b v) := by rw [T_swap m b v, Int.mul_neg]
  have hlt : s * T m u v < 0 := by
    by_cases t : 0 ≤ s * T m u v
    · exact absurd ⟨t, by omega, by omega⟩ h3
    · omega
  have e3 : s * T b v u = s * T u b v := by rw [T_cyc]
  have e4 : s * T b v m = s * T m b v := by rw [T_cyc]
  by_cases z : s * T m b v = 0
  · have z' : T b v m = 0 := by rw [T_cyc]; rcases hs with rfl | rfl <;> omega
    refine D.1 (On.swap (on_T (s := s) (u := m) (b := u) ?_ ?_ ?_ ?_))
    · rw [T_swap, z']; rfl
    · omega
    · rw [T_aba]; omega
    · rw [T_aba]; omega
  · exact D.2.2.2.2 ⟨opp_s hs (.inl ⟨by omega, by omega⟩), opp_s hs (.inr ⟨h2, hlt⟩)⟩
theorem tri4 {N s : Int} (hs : s = 1 ∨ s = -1) {u b v q : Pt} (h1 : 0 < s * T u b v) (h3 : ¬ InT s u b v q) (D1 : Dis q u b v) (D2 : Dis v q u b) (hu : ht N b < ht N u) (hv : ht N b < ht N v) (hq : ht N b < ht N q) (ne : T v q u ≠ 0) : 0 < s * T v q u := by
  by_cases k : 0 < s * T v q u
  · exact k
  exfalso
  have e0 : s * T v u q = - (s * T v q u) := by rw [T_swap2 v q u, Int.mul_neg]
  have hd : 0 < s * T v u q := by rcases hs with rfl | rfl <;> omega
  have ts := tri_sum s u b v q
  have eh : (s * T u b v) * (ht N q - ht N b) = (s * T b v q) * (ht N u - ht N b) + (s * T u b q) * (ht N v - ht N b) := by unfold ht aff T; grind
  have m0 := mpp h1 (show 0 < ht N q - ht N b by omega)
  have n1 : ¬ (s * T b v q ≤ 0 ∧ s * T u b q ≤ 0) := by
    rintro ⟨x, y⟩
    have := mnz x (show 0 ≤ ht N u - ht N b by omega)
    have := mnz y (show 0 ≤ ht N v - ht N b by omega)
    omega
  have n2 : ¬ (0 ≤ s * T b v q ∧ 0 ≤ s * T u b q) := fun x => h3 ⟨x.2, x.1, Int.le_of_lt hd⟩
  have f1 : s * T q u b = s * T u b q := by rw [T_cyc2 u b q]
  have f2 : s * T q u v = - (s * T v u q) := by rw [T_swap3 v u q, Int.mul_neg]
  have f3 : s * T b v u = s * T u b v := by rw [T_cyc]
  have f4 : s * T v q b = s * T b v q := by rw [T_cyc]
  by_cases t : s * T b v q < 0
  · exact D1.2.2.2.2 ⟨opp_s hs (.inr ⟨by omega, by omega⟩), opp_s hs (.inl ⟨by omega, by omega⟩)⟩
  · exact D2.2.2.2.2 ⟨opp_s hs (.inl ⟨by omega, by omega⟩), opp_s hs (.inr ⟨by omega, by omega⟩)⟩
theorem far_ex (s : Int) (u b v : Pt) : ∀ M : List Pt, (∃ q ∈ M, InT s u b v q) → ∃ p ∈ M, InT s u b v p ∧ ∀ q ∈ M, InT s u b v q → s * T v u q ≤ s * T v u p
  | [], h => by obtain ⟨q, hq, _⟩ := h; simp at hq
  | m :: M, h => by
    by_cases k : ∃ q ∈ M, InT s u b v q
    · obtain ⟨p, hp, hi, hm⟩ := far_ex s u b v M k
      by_cases c : InT s u b v m ∧ s * T v u p ≤ s * T v u m
      · refine ⟨m, by simp, c.1, fun q hq hiq => ?_⟩
        rw [List.mem_cons] at hq
        rcases hq with rfl | hq
        · omega
        · have := hm q hq hiq; omega
      · refine ⟨p, List.mem_cons_of_mem _ hp, hi, fun q hq hiq => ?_⟩
        rw [List.mem_cons] at hq
        rcases hq with rfl | hq
        · by_cases d : s * T v u p ≤ s * T v u q
          · exact absurd ⟨hiq, d⟩ c
          · omega
        · exact hm q hq hiq
    · obtain ⟨q, hq, hiq⟩ := h
      rw [List.mem_cons] at hq
      rcases hq with rfl | hq
      · exact ⟨q, by simp, hiq, fun z hz hiz => by
          rw [List.mem_cons] at hz
          rcases hz with rfl | hz
          · omega
          · exact absurd ⟨z, hz, hiz⟩ k⟩
      · exact absurd ⟨q, hq, hiq⟩ k
theorem tri_out1 {N X : Int} (hX : X = 0 ∨ X = 1) {a b c : Pt} (h : 0 < T a b c) (z : Pt) (k : 1 ≤ w N X a b z + w N X b c z + w N X c a z) : 0 ≤ T a b z ∧ 0 ≤ T b c z ∧ 0 ≤ T c a z := by
  have eh : T b c z * (ht N a - ht N z) + T c a z * (ht N b - ht N z) + T a b z * (ht N c - ht N z) = 0 := by unfold ht aff T; grind
  have e : T a b c = T b c z + T c a z + T a b z := by unfold T; grind
  have s1 := T_swap a b z; have s2 := T_swap b c z; have s3 := T_swap c a z
  have third : ∀ {x y t p q r : Int}, 0 ≤ x → 0 ≤ y → 0 < x + y + t → (0 < p ∧ 0 < q ∧ r ≤ 0 ∨ p ≤ 0 ∧ q ≤ 0 ∧ 0 < r) → x * p + y * q + t * r = 0 → 0 ≤ t := by
    intro x y t p q r hx hy hs ho he
    by_cases n : 0 ≤ t
    · exact n
    exfalso
    rcases ho with ⟨h1, h2, h3⟩ | ⟨h1, h2, h3⟩
    · have m1 := mzz hx (Int.le_of_lt h1); have m2 := mzz hy (Int.le_of_lt h2); have m3 := mnnz (show t ≤ 0 by omega) h3
      have : 0 < x ∨ 0 < y := by omega
      rcases this with g | g
      · have := mpp g h1; omega
      · have := mpp g h2; omega
    · have m1 := mzn hx h1; have m2 := mzn hy h2; have m3 := mnp (show t < 0 by omega) h3; omega
  have t1 : 0 ≤ T a b z → 0 ≤ T b c z → (0 < ht N c - ht N z ∧ 0 < ht N a - ht N z ∧ ht N b - ht N z ≤ 0 ∨ ht N c - ht N z ≤ 0 ∧ ht N a - ht N z ≤ 0 ∧ 0 < ht N b - ht N z) → 0 ≤ T c a z :=
    fun x y o => third x y (by omega) o (by omega)
  have t2 : 0 ≤ T b c z → 0 ≤ T c a z → (0 < ht N a - ht N z ∧ 0 < ht N b - ht N z ∧ ht N c - ht N z ≤ 0 ∨ ht N a - ht N z ≤ 0 ∧ ht N b - ht N z ≤ 0 ∧ 0 < ht N c - ht N z) → 0 ≤ T a b z :=
    fun x y o => third x y (by omega) o (by omega)
  have t3 : 0 ≤ T c a z → 0 ≤ T a b z → (0 < ht N b - ht N z ∧ 0 < ht N c - ht N z ∧ ht N a - ht N z ≤ 0 ∨ ht N b - ht N z ≤ 0 ∧ ht N c - ht N z ≤ 0 ∧ 0 < ht N a - ht N z) → 0 ≤ T b c z :=
    fun x y o => third x y (by omega) o (by omega)
  clear eh third
  rcases w_cases (N := N) hX a b z with ⟨p1, p2, e1⟩ | ⟨p1, p2, e1⟩ | ⟨p1, e1⟩ <;>
  rcases w_cases (N := N) hX b c z with ⟨q1, q2, e2⟩ | ⟨q1, q2, e2⟩ | ⟨q1, e2⟩ <;>
  rcases w_cases (N := N) hX c a z with ⟨r1, r2, e3⟩ | ⟨r1, r2, e3⟩ | ⟨r1, e3⟩ <;> (try (exfalso; clear t1 t2 t3; omega)) <;> rw [e1, e2, e3] at k <;> clear e1 e2 e3
  all_goals (split at k <;> split at k <;> (try (exfalso; clear t1 t2 t3; omega)))
  all_goals (first
    | (have g1 : 0 ≤ T a b z := by omega
       have g2 : 0 ≤ T b c z := by omega
       exact ⟨g1, g2, t1 g1 g2 (by omega)⟩)
    | (have g1 : 0 ≤ T b c z := by omega
       have g2 : 0 ≤ T c a z := by omega
       exact ⟨t2 g1 g2 (by omega), g1, g2⟩)
    | (have g1 : 0 ≤ T c a z := by omega
       have g2 : 0 ≤ T a b z := by omega
       exact ⟨g2, t3 g1 g2 (by omega), g1⟩))
theorem tri_out {N X s : Int} (hX : X = 0 ∨ X = 1) (hs : s = 1 ∨ s = -1) {u b v : Pt} (h : 0 < s * T u b v) (z : Pt) (k : 1 ≤ s * Wd N X [u, b, v] z) : InT s u b v z := by
  rcases hs with rfl | rfl
  · rw [Wd_three] at k; rw [Int.one_mul] at *
    have := tri_out1 hX h z k
    exact ⟨by omega, by omega, by omega⟩
  · have s1 := T_swap u b z; have s2 := T_swap b v z; have s3 := T_swap v u z; have s4 := T_swap3 u b v
    have e := Wd_back3 N X u b v z
    rw [Wd_three] at e
    have := tri_out1 (N := N) hX (a := v) (b := b) (c := u) (by omega) z (by omega)
    exact ⟨by omega, by omega, by omega⟩
theorem tri_zero {N X s : Int} (hX : X = 0 ∨ X = 1) (hs : s = 1 ∨ s = -1) {u b v : Pt} (h : 0 < s * T u b v) {z : Pt} (k : ¬ InT s u b v z) : Wd N X [u, b, v] z = 0 := by
  have := triW (N := N) hX hs h z
  by_cases c : 1 ≤ s * Wd N X [u, b, v] z
  · exact absurd (tri_out hX hs h z c) k
  · rcases hs with rfl | rfl <;> omega
theorem Sp.back {P : List Pt} {b w : Pt} {Q R : List Pt} (h : Sp P b Q) (k : Sp (b :: Q) w R) : Sp P w R := by
  obtain ⟨A, B, rfl, rfl⟩ := h; exact Sp.of_rot (A := b :: B) (B := A) k
theorem Wd_low {N X : Int} {b : Pt} {R : List Pt} (h : ∀ x ∈ R, ht N b < ht N x) : Wd N X R b = 0 := by
  cases R with
  | nil => rfl
  | cons a r => exact pw_low N X b _ (fun x hx => h x (by simp at hx ⊢; rcases hx with h | h | h <;> simp [h]))
theorem Wd_ear' {N X : Int} {a v u : Pt} {R : List Pt} (h : 2 ≤ R.length) (h1 : R.head? = some v) (h2 : R.getLast? = some u) (z : Pt) : Wd N X (a :: R) z = Wd N X [u, a, v] z + Wd N X R z := by
  obtain ⟨v', M, u', rfl⟩ := ends2 h
  rw [gl?] at h2; simp at h1 h2; subst h1; subst h2
  exact Wd_ear N X a _ _ M z

theorem case2 {N s : Int} (hs : s = 1 ∨ s = -1) {b p : Pt} {A B : List Pt} (nd : (b :: (A ++ p :: B)).Nodup) (hi : Inj N (b :: (A ++ p :: B)))
    (hB : ∀ X, X = 0 ∨ X = 1 → ∀ q ∈ B, Wd N X (b :: (A ++ [p])) q = 0) (hA : ∀ X, X = 0 ∨ X = 1 → ∀ q ∈ A, Wd N X (p :: (B ++ [b])) q = 0)
    {a : Pt} {R1 : List Pt} (h1 : Sp (b :: (A ++ [p])) a R1) (n1 : a ≠ p) (n2 : a ≠ b) (hA0 : A ≠ []) (he : Ear s a R1) (hw : ∀ X, X = 0 ∨ X = 1 → Wd N X R1 a = 0)
    (hR : ∀ X, X = 0 ∨ X = 1 → ∀ z, 0 ≤ s * Wd N X R1 z) :
    ∃ R, Sp (b :: (A ++ p :: B)) a R ∧ a ∈ A ∧ Ear s a R ∧ ∀ X, X = 0 ∨ X = 1 → Wd N X R a = 0 := by
  have aA : a ∈ A := by
    have := (h1.mem a).mpr (.inl rfl)
    simp at this; rcases this with h | h | h
    · exact absurd h n2
    · exact h
    · exact absurd h n1
  have nd1 : (b :: (A ++ [p])).Nodup := by
    refine List.Nodup.sublist ?_ nd
    exact List.Sublist.cons_cons _ (List.Sublist.append_left (List.Sublist.cons_cons _ (List.nil_sublist _)) _)
  obtain ⟨C, D, rfl⟩ := List.append_of_mem aA
  have hR1 : R1 = (D ++ [p]) ++ (b :: C) := Sp.uniq nd1 h1 ⟨b :: C, D ++ [p], by simp, rfl⟩
  refine ⟨(D ++ p :: B) ++ (b :: C), ⟨b :: C, D ++ p :: B, by simp, rfl⟩, aA, ?_, ?_⟩
  · obtain ⟨v1, u1, e1, e2, hp, hq⟩ := he
    have lenR : 2 ≤ R1.length := by rw [hR1]; simp; omega
    have v1m : v1 ∈ R1 := List.mem_of_head? e1
    have u1m : u1 ∈ R1 := List.mem_of_getLast? e2
    refine ⟨v1, u1, ?_, ?_, hp, ?_⟩
    · rw [hR1] at e1; cases D <;> simpa using e1
    · rw [hR1, List.getLast?_append] at e2; rw [List.getLast?_append]
      have : (b :: C).getLast? ≠ none := by simp
      cases hc : (b :: C).getLast? with
      | none => exact absurd hc this
      | some y => rw [hc] at e2; simpa using e2
    · intro q hqm q1 q2 hin
      by_cases qB : q ∈ B
      · have sub : ∀ x ∈ R1, x ∈ b :: (C ++ a :: D ++ p :: B) := by
          intro x hx; rw [hR1] at hx; simp at hx ⊢; rcases hx with h | h | h | h <;> simp [h]
        have qP : q ∈ b :: (C ++ a :: D ++ p :: B) := by simp [qB]
        have qa : q ≠ a := by
          rintro rfl
          rw [List.nodup_cons, List.nodup_append] at nd
          exact nd.2.2.2 q aA q (by simp [qB]) rfl
        obtain ⟨X, hX, hw1⟩ := triIn (N := N) hs hp hin (hi.ne qP (sub _ u1m) q1) (hi.ne qP (by simp) qa) (hi.ne qP (sub _ v1m) q2)
        have z := hB X hX q qB
        rw [h1.wd N X q, Wd_ear' lenR e1 e2] at z
        have := hR X hX q
        have : s * (Wd N X [u1, a, v1] q + Wd N X R1 q) = 0 := by rw [z, Int.mul_zero]
        rw [Int.mul_add] at this; omega
      · refine hq q ?_ q1 q2 hin
        rw [hR1]; simp at hqm ⊢
        rcases hqm with h | h | h | h | h
        · simp [h]
        · simp [h]
        · exact absurd h qB
        · simp [h]
        · simp [h]
  · intro X hX
    have r1 := Wd_rot N X (D ++ p :: B) (b :: C) a
    have r2 := Wd_rot N X (D ++ [p]) (b :: C) a
    have e1 : (b :: C) ++ (D ++ p :: B) = b :: ((C ++ D) ++ p :: B) := by simp
    have e2 : (b :: C) ++ (D ++ [p]) = b :: ((C ++ D) ++ [p]) := by simp
    rw [e1, Wd_diag] at r1
    rw [e2, ← hR1, hw X hX] at r2
    rw [r1, ← r2, hA X hX a aA]; rfl
theorem keep_other {N s : Int} (hs : s = 1 ∨ s = -1) {b v u a : Pt} {M R : List Pt} (hP : Sim (b :: v :: (M ++ [u]))) (hM : M ≠ []) (low : ∀ q ∈ v :: (M ++ [u]), ht N b < ht N q) (hD : 0 < s * T u b v)
    (hR : Sp (b :: v :: (M ++ [u])) a R) (hab : a ≠ b) (he : Ear s a R) : Ori N s R := by
  have aR : a ∈ v :: (M ++ [u]) := by
    have := (hR.mem a).mpr (.inl rfl)
    rw [List.mem_cons] at this; exact this.resolve_left hab
  have ndR := (List.nodup_cons.mp hP.nd).2
  have nb := (List.nodup_cons.mp hP.nd).1
  have nv := (List.nodup_cons.mp ndR).1
  have nu := (List.nodup_append.mp (List.nodup_cons.mp ndR).2).2.2
  have ce := cyc_ends b v u M
  obtain ⟨C, D, e⟩ := List.append_of_mem aR
  have hRR : R = D ++ b :: C := Sp.uniq hP.nd hR ⟨b :: C, D, by rw [e]; rfl, rfl⟩
  subst hRR
  refine ⟨hs, ?_⟩
  cases C with
  | nil =>
    simp at e
    obtain ⟨rfl, rfl⟩ := e
    cases M with
    | nil => exact absurd rfl hM
    | cons m M =>
      have he' : Ear s v (m :: ((M ++ [u]) ++ [b])) := by simpa using he
      have ndx : (m :: ((M ++ [u]) ++ [b])).Nodup := by
        have := (List.nodup_cons.mp ndR).2
        have h2 : ((m :: (M ++ [u])) ++ [b]).Nodup := by
          rw [List.nodup_append]
          refine ⟨this, by simp, fun x hx y hy e => ?_⟩
          simp at hy; subst hy; subst e
          exact nb (List.mem_cons_of_mem _ hx)
        simpa using h2
      obtain ⟨q1, q2⟩ := he'.to ndx
      have mu : m ≠ u := nu m (by simp) u (by simp)
      have D1 := hP.na (u, b) (by rw [ce]; simp) (v, m) (by rw [ce]; simp [ed]) (fun k => nb (by rw [show b = v from k]; simp)) mu (fun k => nv (by have := congrArg Prod.fst k; simp at this; rw [← this]; simp))
      refine ⟨b, m, M, u, ⟨m :: (M ++ [u]), [], by simp, by simp⟩, fun q hq => low q (List.mem_cons_of_mem _ hq), adj1 hs hD q1 (q2 u (by simp)) D1⟩
  | cons c C =>
    simp at e
    obtain ⟨rfl, e⟩ := e
    by_cases hDn : D = []
    · subst hDn
      have e' : M ++ [u] = C ++ [a] := e
      obtain ⟨rfl, e2⟩ := List.append_inj' e' rfl
      simp at e2; subst e2
      obtain ⟨M', m, rfl⟩ : ∃ M' m, M = M' ++ [m] := ⟨M.dropLast, M.getLast hM, by rw [List.dropLast_concat_getLast]⟩
      have he' : Ear s u (b :: ((v :: M') ++ [m])) := by simpa using he
      have ndx : (b :: ((v :: M') ++ [m])).Nodup := by
        have h0 : (b :: ((v :: (M' ++ [m])) ++ [u])).Nodup := by simpa using hP.nd
        rw [List.nodup_cons] at h0 ⊢
        refine ⟨fun k => h0.1 (by simp at k ⊢; rcases k with k | k | k <;> simp [k]), ?_⟩
        have := (List.nodup_append.mp h0.2).1; simpa using this
      obtain ⟨q1, q2⟩ := he'.to ndx
      have mv : v ≠ m := fun k => nv (by rw [k]; simp)
      have mem2 : (m, u) ∈ cyc (b :: v :: (M' ++ [m] ++ [u])) := by
        have h0 : v :: (M' ++ [m] ++ [u]) = (v :: M') ++ [m, u] := by simp
        rw [ce, h0, ed_snoc]; simp
      have D1 := hP.na (b, v) (by rw [ce]; simp) (m, u) mem2 mv (fun k => nb (by rw [show b = u from k.symm]; simp)) (fun k => nb (by rw [show b = m from congrArg Prod.fst k]; simp))
      refine ⟨b, v, M', m, ⟨[], v :: (M' ++ [m]), by simp, by simp⟩, fun q hq => low q (by simp at hq ⊢; rcases hq with k | k | k <;> simp [k]), adj2 hs hD q1 (q2 v (by simp)) D1⟩
    · obtain ⟨D', d, rfl⟩ : ∃ D' d, D = D' ++ [d] := ⟨D.dropLast, D.getLast hDn, by rw [List.dropLast_concat_getLast]⟩
      have e' : M ++ [u] = (C ++ a :: D') ++ [d] := by rw [e]; simp
      obtain ⟨rfl, e2⟩ := List.append_inj' e' rfl
      simp at e2; subst e2
      refine ⟨b, v, C ++ D', u, ⟨D' ++ [u], v :: C, by simp, by simp⟩, fun q hq => low q (by simp at hq ⊢; rcases hq with k | k | k | k <;> simp [k]), hD⟩

theorem cyc_diag (b p : Pt) (A B : List Pt) : cyc (b :: (A ++ p :: B)) = ed (b :: (A ++ [p])) ++ ed (p :: (B ++ [b])) := by
 have : cyc (b :: (A ++ p :: B)) = ed ((b :: A) ++ p :: (B ++ [b])) := by simp [cyc]
 rw [this, ed_split]; rfl
theorem ed_cons_sub (a : Pt) (l : List Pt) (e : Pt × Pt) (h : e ∈ ed l) : e ∈ ed (a :: l) := by
 cases l with
 | nil => simp [ed] at h
 | cons b r => rw [ed]; exact List.mem_cons_of_mem _ h
theorem ed_snoc_sub (z : Pt) : ∀ (l : List Pt) (e : Pt × Pt), e ∈ ed l → e ∈ ed (l ++ [z])
 | [], _, h => by simp [ed] at h
 | [_], _, h => by simp [ed] at h
 | a :: b :: r, e, h => by
  rw [ed, List.mem_cons] at h
  rw [List.cons_append, List.cons_append, ed, List.mem_cons]
  rcases h with h | h
  ·exact .inl h
  ·exact .inr (ed_snoc_sub z (b :: r) e h)
theorem diag_on {s : Int} {u b v p q : Pt} (ha : 0 < s * T b v p) (hb : 0 < s * T u b p) (hq : q ≠ p)
  (hh : 0 ≤ s * T u b q → 0 ≤ s * T b v q → s * T v u q ≤ s * T v u p) : ¬ On b p q := by
 have ts := tri_sum s u b v p
 have db : s * T v u b = s * T u b v := by rw [T_cyc2 u b v]
 intro ho
 have b1 := ho.btT s v u
 have b2 := ho.btT s u b
 have b3 := ho.btT s b v
 rw [T_abb] at b2; rw [T_aba] at b3
 unfold Bt at b1 b2 b3
 have hle := hh (by omega) (by omega)
 exact hq (ho.eq_end (s := s) (x := v) (y := u) (u := 0) (v := 0) (by omega) (by omega))
theorem parts_nd {b p : Pt} {A B : List Pt} (nd : (b :: (A ++ p :: B)).Nodup) : b ∉ A ∧ b ≠ p ∧ b ∉ B ∧ p ∉ A ∧ p ∉ B ∧ (∀ x ∈ A, ∀ y ∈ B, x ≠ y) ∧ A.Nodup ∧ B.Nodup := by
 rw [List.nodup_cons, List.nodup_append, List.nodup_cons] at nd
 obtain ⟨h1, h2, ⟨h3, h4⟩, h5⟩ := nd
 simp at h1
 exact ⟨h1.1, h1.2.1, h1.2.2, fun k => h5 p k p (by simp) rfl, h3, fun x hx y hy => h5 x hx y (by simp [hy]), h2, h4⟩

theorem diag_parts {N s : Int} (hs : s = 1 ∨ s = -1) {b v u : Pt} {M : List Pt} (hP : Sim (b :: v :: (M ++ [u]))) (hi : Inj N (b :: v :: (M ++ [u]))) (low : ∀ q ∈ v :: (M ++ [u]), ht N b < ht N q) (hD : 0 < s * T u b v)
  (hin : ∃ q ∈ M, InT s u b v q) :
  ∃ p M1 M2, M = M1 ++ p :: M2 ∧ Sim (b :: ((v :: M1) ++ [p])) ∧ Ori N s (b :: ((v :: M1) ++ [p])) ∧ Sim (p :: ((M2 ++ [u]) ++ [b])) ∧ Ori N s (p :: ((M2 ++ [u]) ++ [b])) ∧
   (∀ X, X = 0 ∨ X = 1 → ∀ q ∈ M2 ++ [u], Wd N X (b :: ((v :: M1) ++ [p])) q = 0) ∧ (∀ X, X = 0 ∨ X = 1 → ∀ q ∈ v :: M1, Wd N X (p :: ((M2 ++ [u]) ++ [b])) q = 0) := by
 obtain ⟨p, hpM, hpi, hpm⟩ := far_ex s u b v M hin
 obtain ⟨M1, M2, rfl⟩ := List.append_of_mem hpM
 have ePL : b :: v :: (M1 ++ p :: M2 ++ [u]) = b :: ((v :: M1) ++ p :: (M2 ++ [u])) := by simp
 rw [ePL] at hP hi
 obtain ⟨hbA, hbp, hbB, hpA, hpB, hAB, ndA, ndB⟩ := parts_nd hP.nd
 have hcyc := cyc_diag b p (v :: M1) (M2 ++ [u])
 have ce := cyc_ends b v u (M1 ++ p :: M2)
 rw [ePL] at ce
 have m_ub : (u, b) ∈ cyc (b :: ((v :: M1) ++ p :: (M2 ++ [u]))) := by rw [ce]; simp
 have m_bv : (b, v) ∈ cyc (b :: ((v :: M1) ++ p :: (M2 ++ [u]))) := by rw [ce]; simp
 have hvp : v ≠ p := fun e => hpA (by simp [e])
 have hup : u ≠ p := fun e => hpB (by simp [e])
 have huv : u ≠ v := fun e => hAB v (by simp) u (by simp) e.symm
 have hub : u ≠ b := fun e => hbB (by simp [← e])
 have hvb : v ≠ b := fun e => hbA (by simp [← e])
 have ts := tri_sum s u b v p
 obtain ⟨i1, i2, i3⟩ := hpi
 have aff1 : s * T b v u = s * T u b v := by rw [T_cyc]
 have ha : 0 < s * T b v p := by
  by_cases k : s * T b v p = 0
  ·exfalso
   have z : T b v p = 0 := by rcases hs with rfl | rfl <;> omega
   exact hP.off m_bv (by simp) hbp.symm hvp.symm (on_T (s := s) (u := u) (b := b) (x := b) (y := v) z (by rw [T_abb]; omega) (by rw [T_abb]; omega) (by omega))
  ·omega
 have hb : 0 < s * T u b p := by
  by_cases k : s * T u b p = 0
  ·exfalso
   have z : T u b p = 0 := by rcases hs with rfl | rfl <;> omega
   refine hP.off m_ub (by simp) hup.symm hbp.symm (On.swap (on_T (s := s) (u := b) (b := v) (x := b) (y := u) ?_ ?_ ?_ ?_))
   ·rw [T_swap, z]; rfl
   ·rw [T_aba]; omega
   ·rw [T_aba]; omega
   ·omega
  ·omega
 have hd : 0 ≤ s * T v u p := i3
 have far : ∀ x ∈ b :: ((v :: M1) ++ p :: (M2 ++ [u])), x ≠ b → 0 ≤ s * T u b x → 0 ≤ s * T b v x → s * T v u x ≤ s * T v u p := by
  intro x hx nxb k1 k2
  by_cases c : 0 ≤ s * T v u x
  ·by_cases xv : x = v
   ·subst xv; rw [T_aba]; omega
   ·by_cases xu : x = u
    ·subst xu; rw [T_abb]; omega
    ·refine hpm x ?_ ⟨k1, k2, c⟩
     simp at hx ⊢
     rcases hx with h | h | h | h | h | h
     ·exact absurd h nxb
     ·exact absurd h xv
     ·simp [h]
     ·simp [h]
     ·simp [h]
     ·exact absurd h xu
  ·omega
 have hdis : ∀ f ∈ cyc (b :: ((v :: M1) ++ p :: (M2 ++ [u]))), f.1 ≠ b → f.1 ≠ p → f.2 ≠ b → f.2 ≠ p → Dis b p f.1 f.2 := by
  intro f hf n1 n2 n3 n4
  have m := cyc_mem _ f hf
  refine diag hs hD ha hb hd n2 n4 (far _ m.1 n1) (far _ m.2 n3) (fun _ k => ?_) (fun k _ => ?_) ?_ ?_
  ·exact hP.na f hf (u, b) m_ub k (fun e => n1 e.symm) (fun e => n3 (by rw [e]))
  ·exact hP.na f hf (b, v) m_bv n3 (fun e => k e.symm) (fun e => n1 (by rw [e]))
  ·exact hP.off hf (by simp) (fun e => n1 e.symm) (fun e => n3 e.symm)
  ·exact hP.off hf (by simp) (fun e => n2 e.symm) (fun e => n4 e.symm)
 have hon : ∀ q ∈ b :: ((v :: M1) ++ p :: (M2 ++ [u])), q ≠ b → q ≠ p → ¬ On b p q := fun q hq n1 n2 => diag_on ha hb n2 (far q hq n1)
 have sub1 : ∀ e ∈ ed (b :: ((v :: M1) ++ [p])), e ∈ cyc (b :: ((v :: M1) ++ p :: (M2 ++ [u]))) := fun e he => by rw [hcyc]; simp only [List.mem_append]; exact .inl he
 have sub2 : ∀ e ∈ ed (p :: ((M2 ++ [u]) ++ [b])), e ∈ cyc (b :: ((v :: M1) ++ p :: (M2 ++ [u]))) := fun e he => by rw [hcyc]; simp only [List.mem_append]; exact .inr he
 have nd1 : (b :: ((v :: M1) ++ [p])).Nodup := by
  rw [List.nodup_cons, List.nodup_append]
  exact ⟨fun k => by rw [List.mem_append] at k; rcases k with k | k; exact hbA k; simp at k; exact hbp k, ndA, by simp, fun x hx y hy e => by simp at hy; subst hy; subst e; exact hpA hx⟩
 have nd2 : (p :: ((M2 ++ [u]) ++ [b])).Nodup := by
  rw [List.nodup_cons, List.nodup_append]
  exact ⟨fun k => by rw [List.mem_append] at k; rcases k with k | k; exact hpB k; simp at k; exact hbp k.symm, ndB, by simp, fun x hx y hy e => by simp at hy; subst hy; subst e; exact hbB hx⟩
 have mem1 : ∀ x ∈ b :: ((v :: M1) ++ [p]), x ∈ b :: ((v :: M1) ++ p :: (M2 ++ [u])) := by
  intro x hx; simp at hx ⊢; rcases hx with h | h | h | h <;> simp [h]
 have mem2 : ∀ x ∈ p :: ((M2 ++ [u]) ++ [b]), x ∈ b :: ((v :: M1) ++ p :: (M2 ++ [u])) := by
  intro x hx; simp at hx ⊢; rcases hx with h | h | h | h <;> simp [h]
 have lowP : ∀ x ∈ b :: ((v :: M1) ++ p :: (M2 ++ [u])), x ≠ b → ht N b < ht N x := by
  intro x hx n
  refine low x ?_
  simp at hx ⊢; rcases hx with h | h | h | h | h | h
  ·exact absurd h n
  all_goals simp [h]
 refine ⟨p, M1, M2, rfl, ?_, ?_, ?_, ?_, ?_, ?_⟩
 ·refine hP.sub (by simp) sub1 nd1 mem1 (fun f hf n1 n2 n3 n4 => (hdis f (sub1 f hf) n1 n2 n3 n4).flip) (fun q hq ho => ?_)
  exact hon q (by simp at hq ⊢; rcases hq with h | h <;> simp [h]) (fun e => hbA (e ▸ hq)) (fun e => hpA (e ▸ hq)) ho.swap
 ·refine ⟨hs, b, v, M1, p, ⟨[], v :: (M1 ++ [p]), by simp, by simp⟩, fun q hq => ?_, by rw [← T_cyc]; exact ha⟩
  refine lowP q (mem1 q (List.mem_cons_of_mem _ (by simpa using hq))) (fun e => ?_)
  subst e; exact (List.nodup_cons.mp nd1).1 (by simpa using hq)
 ·refine hP.sub (by simp) sub2 nd2 mem2 (fun f hf n1 n2 n3 n4 => hdis f (sub2 f hf) n2 n1 n4 n3) (fun q hq ho => ?_)
  exact hon q (by simp at hq ⊢; rcases hq with h | h <;> simp [h]) (fun e => hbB (e ▸ hq)) (fun e => hpB (e ▸ hq)) ho
 ·refine ⟨hs, b, p, M2, u, ⟨p :: (M2 ++ [u]), [], by simp, by simp⟩, fun q hq => ?_, hb⟩
  refine lowP q (mem2 q ?_) (fun e => ?_)
  ·simp at hq ⊢; rcases hq with h | h | h <;> simp [h]
  ·subst e; simp at hq
   rcases hq with h | h | h
   ·exact hbp h
   ·exact hbB (by simp [h])
   ·exact hub h.symm
 ·intro X hX q hq
  have hu : Wd N X (b :: v :: (M1 ++ [p])) u = 0 := by
   refine low_zero hX (fun x hx => lowP x (mem1 x (List.mem_cons_of_mem _ (by simpa using hx))) (fun e => ?_)) (lowP u (by simp) hub) (fun x hx => hi.ne (mem1 x (List.mem_cons_of_mem _ (by simpa using hx))) (by simp) ?_) (fun e he => ?_) (by
    have e1 : s * T b p u = s * T u b p := by rw [T_cyc]
    rcases hs with rfl | rfl <;> omega)
   ·subst e; exact (List.nodup_cons.mp nd1).1 (by simpa using hx)
   ·rintro rfl; simp at hx; rcases hx with h | h | h
    ·exact huv h
    ·exact hAB x (by simp [h]) x (by simp) rfl
    ·exact hup h
   ·have hec : e ∈ ed (b :: ((v :: M1) ++ [p])) := ed_cons_sub b (v :: (M1 ++ [p])) e he
    have me := ed_mem _ e he
    have e2u : e.2 ≠ u := by
     intro k; have := me.2; rw [k] at this; simp at this; rcases this with h | h | h
     ·exact huv h
     ·exact hAB u (by simp [h]) u (by simp) rfl
     ·exact hup h
    have e1u : e.1 ≠ u := by
     intro k; have := me.1; rw [k] at this; simp at this; rcases this with h | h | h
     ·exact huv h
     ·exact hAB u (by simp [h]) u (by simp) rfl
     ·exact hup h
    have e1b : b ≠ e.1 := by
     intro k; have := me.1; rw [← k] at this
     exact (List.nodup_cons.mp nd1).1 (by simpa using this)
    exact (hP.na e (sub1 e hec) (u, b) m_ub e2u e1b (fun k => e1u (by rw [k]))).flip2
  rw [show b :: ((v :: M1) ++ [p]) = b :: v :: (M1 ++ [p]) from rfl, ← hu]
  refine chain_const hX (L := M2 ++ [u]) (fun f hf e he => ?_) (fun x hx y hy => ?_) (hi.mono (fun x hx => by simp at hx ⊢; rcases hx with h | h <;> simp [h])) ndB hq (by simp)
  ·have hf2 : f ∈ ed (p :: ((M2 ++ [u]) ++ [b])) := ed_cons_sub p _ f (ed_snoc_sub b _ f hf)
   have mf := ed_mem _ f hf
   have fB1 : ∀ x, x ∈ b :: ((v :: M1) ++ [p]) → x ≠ f.1 ∧ x ≠ f.2 := by
    intro x hx
    have : ∀ y ∈ M2 ++ [u], x ≠ y := by
     intro y hy e; subst e
     simp only [List.mem_cons, List.mem_append] at hx
     rcases hx with h | (h | h) | h
     ·exact hbB (h ▸ hy)
     ·exact hAB x (by simp [h]) x hy rfl
     ·exact hAB x (by simp [h]) x hy rfl
     ·simp at h; exact hpB (h ▸ hy)
    exact ⟨this _ mf.1, this _ mf.2⟩
   rw [show b :: v :: (M1 ++ [p]) = b :: ((v :: M1) ++ [p]) from rfl, cyc_path, List.mem_append] at he
   rcases he with he | he
   ·have me := ed_mem _ e he
    exact hP.na e (sub1 e he) f (sub2 f hf2) (fB1 _ me.2).1 (fun k => (fB1 _ me.1).2 k.symm) (fun k => (fB1 _ me.1).1 (by rw [k]))
   ·simp at he; subst he
    have q1 := fB1 b (by simp); have q2 := fB1 p (by simp)
    exact (hdis f (sub2 f hf2) q1.1.symm q2.1.symm q1.2.symm q2.2.symm).flip
  ·refine hi.ne (mem1 x hx) (by simp at hy ⊢; rcases hy with h | h <;> simp [h]) ?_
   rintro rfl
   simp only [List.mem_cons, List.mem_append] at hx
   rcases hx with h | h | h | h
   ·exact hbB (h ▸ hy)
   ·exact hAB x (by simp [h]) x hy rfl
   ·exact hAB x (by simp [h]) x hy rfl
   ·simp at h; exact hpB (h ▸ hy)
 ·intro X hX q hq
  have hv : Wd N X (b :: p :: (M2 ++ [u])) v = 0 := by
   refine low_zero hX (fun x hx => lowP x (mem2 x (by simp at hx ⊢; rcases hx with h | h | h <;> simp [h])) (fun e => ?_)) (lowP v (by simp) hvb) (fun x hx => hi.ne (mem2 x (by simp at hx ⊢; rcases hx with h | h | h <;> simp [h])) (by simp) ?_) (fun e he => ?_) (by
    have e1 : s * T b p v = - (s * T b v p) := by rw [T_swap2 b v p, Int.mul_neg]
    have e2 : s * T b u v = - (s * T b v u) := by rw [T_swap2 b v u, Int.mul_neg]
    rcases hs with rfl | rfl <;> omega)
   ·subst e; simp at hx; rcases hx with h | h | h
    ·exact hbp h
    ·exact hbB (by simp [h])
    ·exact hub h.symm
   ·rintro rfl; simp at hx; rcases hx with h | h | h
    ·exact hvp h
    ·exact hAB x (by simp) x (by simp [h]) rfl
    ·exact huv h.symm
   ·have hec : e ∈ ed (p :: ((M2 ++ [u]) ++ [b])) := by
     have := ed_snoc_sub b _ e he; simpa using this
    have me := ed_mem _ e he
    have e2b : e.2 ≠ b := by
     intro k; have := me.2; rw [k] at this; simp at this; rcases this with h | h | h
     ·exact hbp h
     ·exact hbB (by simp [h])
     ·exact hub h.symm
    have e1b : e.1 ≠ b := by
     intro k; have := me.1; rw [k] at this; simp at this; rcases this with h | h | h
     ·exact hbp h
     ·exact hbB (by simp [h])
     ·exact hub h.symm
    have e1v : v ≠ e.1 := by
     intro k; have := me.1; rw [← k] at this; simp at this; rcases this with h | h | h
     ·exact hvp h
     ·exact hAB v (by simp) v (by simp [h]) rfl
     ·exact huv h.symm
    exact hP.na e (sub2 e hec) (b, v) m_bv e2b e1v (fun k => e1b (by rw [k]))
  have hrot : ∀ z, Wd N X (p :: ((M2 ++ [u]) ++ [b])) z = Wd N X (b :: p :: (M2 ++ [u])) z := fun z => by
   have := Wd_rot N X (p :: (M2 ++ [u])) [b] z; simpa using this
  rw [hrot, ← hv, ← hrot, ← hrot]
  refine chain_const hX (L := v :: M1) (fun f hf e he => ?_) (fun x hx y hy => ?_) (hi.mono (fun x hx => by simp at hx ⊢; rcases hx with h | h <;> simp [h])) ndA hq (by simp)
  ·have hf2 : f ∈ ed (b :: ((v :: M1) ++ [p])) := ed_cons_sub b _ f (ed_snoc_sub p _ f hf)
   have mf := ed_mem _ f hf
   have fA1 : ∀ x, x ∈ p :: ((M2 ++ [u]) ++ [b]) → x ≠ f.1 ∧ x ≠ f.2 := by
    intro x hx
    have : ∀ y ∈ v :: M1, x ≠ y := by
     intro y hy e; subst e
     rw [List.mem_cons, List.mem_append] at hx
     rcases hx with h | h | h
     ·exact hpA (h ▸ hy)
     ·exact hAB x hy x h rfl
     ·simp at h; exact hbA (h ▸ hy)
    exact ⟨this _ mf.1, this _ mf.2⟩
   rw [cyc_path, List.mem_append] at he
   rcases he with he | he
   ·have me := ed_mem _ e he
    exact hP.na e (sub2 e he) f (sub1 f hf2) (fA1 _ me.2).1 (fun k => (fA1 _ me.1).2 k.symm) (fun k => (fA1 _ me.1).1 (by rw [k]))
   ·simp at he; subst he
    have q1 := fA1 b (by simp); have q2 := fA1 p (by simp)
    exact hdis f (sub1 f hf2) q1.1.symm q2.1.symm q1.2.symm q2.2.symm
  ·refine hi.ne (mem2 x hx) (by simp at hy ⊢; rcases hy with h | h <;> simp [h]) ?_
   rintro rfl
   rw [List.mem_cons, List.mem_append] at hx
   rcases hx with h | h | h
   ·exact hpA (h ▸ hy)
   ·exact hAB x hy x h rfl
   ·simp at h; exact hbA (h ▸ hy)

theorem Ear.sim' {s : Int} (hs : s = 1 ∨ s = -1) {a : Pt} {R : List Pt} (hP : Sim (a :: R)) (hl : 4 ≤ (a :: R).length) (h : Ear s a R) : Sim R := by
 simp at hl
 obtain ⟨v, M, u, rfl⟩ := ends2 (R := R) (by omega)
 refine h.sim hs hP ?_
 rintro rfl; simp at hl
def Main (N s : Int) (P : List Pt) : Prop :=
 (4 ≤ P.length → ∀ a R, Sp P a R → Ear s a R → Ori N s R) ∧
 (∀ X, X = 0 ∨ X = 1 → ∀ z, 0 ≤ s * Wd N X P z) ∧
 (∀ e ∈ cyc P, ∃ a R, Sp P a R ∧ a ≠ e.1 ∧ a ≠ e.2 ∧ Ear s a R ∧ ∀ X, X = 0 ∨ X = 1 → Wd N X R a = 0)

theorem ear_pos {N s : Int} (hs : s = 1 ∨ s = -1) {P : List Pt} (hP : Sim P) (hi : Inj N P) {n : Nat} (hn : P.length ≤ n) (ih : ∀ Q : List Pt, Q.length < n → Sim Q → Inj N Q → ∀ t, Ori N t Q → Main N t Q)
  (hK : 4 ≤ P.length → ∀ a R, Sp P a R → Ear s a R → Ori N s R) {a : Pt} {R : List Pt} (h : Sp P a R) (he : Ear s a R) : ∀ X, X = 0 ∨ X = 1 → ∀ z, 0 ≤ s * Wd N X R z := by
 intro X hX z
 have hlen := h.len
 have hP3 := hP.len
 have hS := h.sim hP
 by_cases h4 : 4 ≤ P.length
 ·have hSR := he.sim' hs hS (by simp; omega)
  exact (ih R (by omega) hSR (hi.mono (fun x hx => (h.mem x).mpr (.inr hx))) s (hK h4 a R h he)).2.1 X hX z
 ·obtain ⟨v, M, u, rfl⟩ := ends2 (R := R) (by omega)
  simp at hlen
  have : M = [] := by cases M with
   | nil => rfl
   | cons m M => simp at hlen; omega
  subst this
  rw [List.nil_append, Wd_two0]; omega
theorem Sp.ear_wd {N X s : Int} {P : List Pt} {a : Pt} {R : List Pt} (h : Sp P a R) (hl : 2 ≤ R.length) (he : Ear s a R) (z : Pt) : ∃ u v, 0 < s * T u a v ∧ Wd N X P z = Wd N X [u, a, v] z + Wd N X R z := by
 obtain ⟨v, u, e1, e2, hp, _⟩ := he
 exact ⟨u, v, hp, by rw [h.wd, Wd_ear' hl e1 e2]⟩

theorem main (N : Int) : ∀ n : Nat, ∀ P : List Pt, P.length = n → Sim P → Inj N P → ∀ s, Ori N s P → Main N s P := by
 intro n
 induction n using Nat.strongRecOn with
 | ind n ih0 =>
 intro P hn hP hi s ho
 have ih : ∀ Q : List Pt, Q.length < n → Sim Q → Inj N Q → ∀ t, Ori N t Q → Main N t Q := fun Q hq => ih0 Q.length hq Q rfl
 obtain ⟨hs, b, v, M, u, hb, low, hD⟩ := ho
 have hP0 := hb.sim hP
 have hi0 : Inj N (b :: v :: (M ++ [u])) := hi.mono (fun x hx => (hb.mem x).mpr (by simpa using hx))
 have hlen := hb.len
 have hlen3 := hP.len
 have nd0 := hP0.nd
 have ndR := (List.nodup_cons.mp nd0).2
 have nb := (List.nodup_cons.mp nd0).1
 have ce := cyc_ends b v u M
 have mP0 : ∀ x, x ∈ v :: (M ++ [u]) → x ∈ b :: v :: (M ++ [u]) := fun x hx => List.mem_cons_of_mem _ hx
 have hiR : Inj N (v :: (M ++ [u])) := hi0.mono mP0
 have hMn : 4 ≤ P.length → M ≠ [] := by rintro h rfl; simp at hlen; omega
 have hK0 : 4 ≤ P.length → Ear s b (v :: (M ++ [u])) → Ori N s (v :: (M ++ [u])) := by
  intro h4 he
  have hM := hMn h4
  have hSR := he.sim hs hP0 hM
  obtain ⟨t, hot⟩ := Ori.ex hSR hiR
  obtain ⟨q1, q2⟩ := he.to ndR
  suffices hst : t = s by rw [← hst]; exact hot
  by_cases h5 : P.length = 4
  ·-- four corners
   obtain ⟨q, rfl⟩ : ∃ q, M = [q] := by
    cases M with
    | nil => exact absurd rfl hM
    | cons q M => cases M with
     | nil => exact ⟨q, rfl⟩
     | cons r M => simp at hlen; omega
   have D1 : Dis q u b v := hP0.na (q, u) (by rw [ce]; simp [ed]) (b, v) (by rw [ce]; simp) (fun e => nb (by rw [show b = u from e.symm]; simp)) (fun e => by
    have e' : v = q := e
    subst e'; simp at ndR) (fun e => nb (by rw [show b = q from (congrArg Prod.fst e).symm]; simp))
   have D2 : Dis v q u b := hP0.na (v, q) (by rw [ce]; simp [ed]) (u, b) (by rw [ce]; simp) (fun e => by
    have e' : q = u := e
    subst e'; simp at ndR) (fun e => nb (by rw [show b = v from e]; simp)) (fun e => nb (by rw [show b = q from (congrArg Prod.snd e).symm]; simp))
   obtain ⟨ht, c, v', M', u', k1, k2, k3⟩ := hot
   have kl := k1.len
   simp at kl
   have kM : M' = [] := by cases M' with
    | nil => rfl
    | cons m M' => simp at kl
   subst kM
   have key : T v q u = T u' c v' := by
    have three : ∀ {x1 x2 x3 c v' u' : Pt}, Sp [x1, x2, x3] c [v', u'] → T x1 x2 x3 = T u' c v' := by
     intro x1 x2 x3 c v' u' h
     obtain ⟨A, B, e1, e2⟩ := h
     cases A with
     | nil => simp at e1 e2; obtain ⟨rfl, rfl⟩ := e1; simp at e2; obtain ⟨rfl, rfl⟩ := e2; exact (T_cyc2 _ _ _).symm
     | cons a1 A =>
      cases A with
      | nil => simp at e1 e2; obtain ⟨rfl, rfl, rfl⟩ := e1; simp at e2; obtain ⟨rfl, rfl⟩ := e2; rfl
      | cons a2 A =>
       cases A with
       | nil => simp at e1 e2; obtain ⟨rfl, rfl, rfl, rfl⟩ := e1; simp at e2; obtain ⟨rfl, rfl⟩ := e2; exact (T_cyc _ _ _).symm
       | cons a3 A => simp at e1
    exact three k1
   have ne : T v q u ≠ 0 := by rw [key]; rcases ht with rfl | rfl <;> omega
   have := tri4 hs hD (q2 q (by simp)) D1 D2 (low u (by simp)) (low v (by simp)) (low q (by simp)) ne
   rw [key] at this
   rcases hs with rfl | rfl <;> rcases ht with rfl | rfl <;> omega
  ·-- five or more: another ear first
   have hlR : (v :: (M ++ [u])).length = P.length - 1 := by omega
   obtain ⟨a, R', s1, n1, n2, he', _⟩ := (ih _ (by omega) hSR hiR t hot).2.2 (u, v) (by rw [cyc_path]; simp)
   have aM : a ∈ M := by
    have := (s1.mem a).mpr (.inl rfl)
    simp at this; rcases this with h | h | h
    ·exact absurd h n2
    ·exact h
    ·exact absurd h n1
   obtain ⟨C, D, rfl⟩ := List.append_of_mem aM
   have hR' : R' = (D ++ [u]) ++ (v :: C) := Sp.uniq ndR s1 ⟨v :: C, D ++ [u], by simp, rfl⟩
   subst hR'
   have ht := hot.1
   have nba : b ≠ a := fun e => nb (by rw [e]; simp)
   have s2 : Sp (b :: v :: (C ++ a :: D ++ [u])) a ((D ++ [u]) ++ (b :: v :: C)) := ⟨b :: v :: C, D ++ [u], by simp, rfl⟩
   have he2 : Ear t a ((D ++ [u]) ++ (b :: v :: C)) := by
    obtain ⟨v1, u1, e1, e2, hp, hq⟩ := he'
    have v1m : v1 ∈ (D ++ [u]) ++ (v :: C) := List.mem_of_head? e1
    have u1m : u1 ∈ (D ++ [u]) ++ (v :: C) := List.mem_of_getLast? e2
    have sub : ∀ x ∈ (D ++ [u]) ++ (v :: C), x ∈ v :: (C ++ a :: D ++ [u]) := by
     intro x hx; simp at hx ⊢; rcases hx with h | h | h | h <;> simp [h]
    refine ⟨v1, u1, ?_, ?_, hp, ?_⟩
    ·cases D <;> simpa using e1
    ·rw [List.getLast?_append] at e2 ⊢
     rw [show b :: v :: C = [b] ++ (v :: C) from rfl, List.getLast?_append]
     cases hc : (v :: C).getLast? with
     | none => simp at hc
     | some y => rw [hc] at e2; simpa using e2
    ·intro q hqm k1 k2 hin
     by_cases qb : q = b
     ·subst qb
      exact low_notin hp (low _ (sub _ u1m)) (low a (by simp)) (low _ (sub _ v1m)) hin
     ·refine hq q ?_ k1 k2 hin
      simp at hqm ⊢; rcases hqm with h | h | h | h | h
      ·simp [h]
      ·simp [h]
      ·exact absurd h qb
      ·simp [h]
      ·simp [h]
   have S2 := he2.sim' ht (s2.sim hP0) (by simp at hlen hlR ⊢; omega)
   have o2 : Ori N s ((D ++ [u]) ++ (b :: v :: C)) := by
    refine ⟨hs, b, v, C ++ D, u, ⟨D ++ [u], v :: C, rfl, by simp⟩, fun q hq => low q (by simp at hq ⊢; rcases hq with h | h | h | h <;> simp [h]), hD⟩
   have i2 : Inj N ((D ++ [u]) ++ (b :: v :: C)) := hi0.mono (fun x hx => by simp at hx ⊢; rcases hx with h | h | h | h | h <;> simp [h])
   have hl2 : ((D ++ [u]) ++ (b :: v :: C)).length = P.length - 1 := by simp at hlen ⊢; omega
   have s3 : Sp ((D ++ [u]) ++ (b :: v :: C)) b ((v :: C) ++ (D ++ [u])) := ⟨D ++ [u], v :: C, rfl, rfl⟩
   have e3 : Ear s b ((v :: C) ++ (D ++ [u])) := by
    have : (v :: C) ++ (D ++ [u]) = v :: ((C ++ D) ++ [u]) := by simp
    rw [this]
    exact Ear.of hD (fun q hq => q2 q (by simp at hq ⊢; rcases hq with h | h <;> simp [h]))
   have o3 := (ih _ (by omega) S2 i2 s o2).1 (by omega) b _ s3 e3
   have o4 := (ih _ (by omega) hSR hiR t hot).1 (by omega) a _ s1 he'
   have nd3 : ((v :: C) ++ (D ++ [u])).Nodup := by
    refine List.Nodup.sublist ?_ ndR
    have : v :: (C ++ a :: D ++ [u]) = (v :: C) ++ ([a] ++ (D ++ [u])) := by simp
    rw [this]
    exact List.Sublist.append_left (List.sublist_append_right _ _) _
   exact Ori.uniq nd3 o4.rot o3
 have hK : 4 ≤ P.length → ∀ a R, Sp P a R → Ear s a R → Ori N s R := by
  intro h4 a R h he
  have h' : Sp (b :: v :: (M ++ [u])) a R := by
   obtain ⟨A, B, e1, e2⟩ := hb
   have : b :: v :: (M ++ [u]) = (b :: B) ++ A := by rw [List.cons_append, ← e2]
   rw [this]; rw [e1] at h; exact h.of_rot
  by_cases hab : a = b
  ·subst hab
   have := Sp.uniq nd0 h' (Sp.head a _)
   subst this; exact hK0 h4 he
  ·exact keep_other hs hP0 (hMn h4) low hD h' hab he
 have hE : ∀ e ∈ cyc P, ∃ a R, Sp P a R ∧ a ≠ e.1 ∧ a ≠ e.2 ∧ Ear s a R ∧ ∀ X, X = 0 ∨ X = 1 → Wd N X R a = 0 := by
  intro e he
  have he0 := (hb.cyc e).mp he
  suffices h : ∃ a R, Sp (b :: v :: (M ++ [u])) a R ∧ a ≠ e.1 ∧ a ≠ e.2 ∧ Ear s a R ∧ ∀ X, X = 0 ∨ X = 1 → Wd N X R a = 0 by
   obtain ⟨a, R, h1, h2⟩ := h
   exact ⟨a, R, hb.back h1, h2⟩
  by_cases hM : M = []
  ·subst hM
   simp at ndR nb
   by_cases c1 : b ≠ e.1 ∧ b ≠ e.2
   ·exact ⟨b, _, Sp.head b _, c1.1, c1.2, Ear.of (M := []) hD (by simp), fun X _ => Wd_two0 N X _ _ _⟩
   by_cases c2 : v ≠ e.1 ∧ v ≠ e.2
   ·refine ⟨v, [u, b], ⟨[b], [u], rfl, rfl⟩, c2.1, c2.2, Ear.of (M := []) (by rw [T_cyc]; exact hD) (by simp), fun X _ => Wd_two0 N X _ _ _⟩
   by_cases c3 : u ≠ e.1 ∧ u ≠ e.2
   ·refine ⟨u, [b, v], ⟨[b, v], [], rfl, rfl⟩, c3.1, c3.2, Ear.of (M := []) (by rw [T_cyc2]; exact hD) (by simp), fun X _ => Wd_two0 N X _ _ _⟩
   exfalso
   have d1 : b = e.1 ∨ b = e.2 := by
    by_cases k : b = e.1
    ·exact .inl k
    ·by_cases k2 : b = e.2
     ·exact .inr k2
     ·exact absurd ⟨k, k2⟩ c1
   have d2 : v = e.1 ∨ v = e.2 := by
    by_cases k : v = e.1
    ·exact .inl k
    ·by_cases k2 : v = e.2
     ·exact .inr k2
     ·exact absurd ⟨k, k2⟩ c2
   have d3 : u = e.1 ∨ u = e.2 := by
    by_cases k : u = e.1
    ·exact .inl k
    ·by_cases k2 : u = e.2
     ·exact .inr k2
     ·exact absurd ⟨k, k2⟩ c3
   rcases d1 with d1 | d1 <;> rcases d2 with d2 | d2 <;> rcases d3 with d3 | d3
   ·exact nb.1 (d1.trans d2.symm)
   ·exact nb.1 (d1.trans d2.symm)
   ·exact nb.2 (d1.trans d3.symm)
   ·exact ndR (d2.trans d3.symm)
   ·exact ndR (d2.trans d3.symm)
   ·exact nb.2 (d1.trans d3.symm)
   ·exact nb.1 (d1.trans d2.symm)
   ·exact nb.1 (d1.trans d2.symm)
  ·have h4 : 4 ≤ P.length := by
    cases M with
    | nil => exact absurd rfl hM
    | cons m M => simp at hlen; omega
   by_cases hin : ∃ q ∈ M, InT s u b v q
   ·obtain ⟨p, M1, M2, rfl, S1, o1, S2, o2, hB, hA⟩ := diag_parts hs hP0 hi0 low hD hin
    have ePL : b :: v :: (M1 ++ p :: M2 ++ [u]) = b :: ((v :: M1) ++ p :: (M2 ++ [u])) := by simp
    rw [ePL] at he0 nd0 hi0 ⊢
    obtain ⟨hbA, hbp, hbB, hpA, hpB, hAB, ndA, ndB⟩ := parts_nd nd0
    have i1 : Inj N (b :: ((v :: M1) ++ [p])) := hi0.mono (fun x hx => by simp at hx ⊢; rcases hx with h | h | h | h <;> simp [h])
    have i2 : Inj N (p :: ((M2 ++ [u]) ++ [b])) := hi0.mono (fun x hx => by simp at hx ⊢; rcases hx with h | h | h | h <;> simp [h])
    have l1 : (b :: ((v :: M1) ++ [p])).length < n := by simp at hlen ⊢; omega
    have l2 : (p :: ((M2 ++ [u]) ++ [b])).length < n := by simp at hlen ⊢; omega
    have m1 := ih _ l1 S1 i1 s o1
    have m2 := ih _ l2 S2 i2 s o2
    rw [cyc_diag, List.mem_append] at he0
    rcases he0 with he0 | he0
    ·obtain ⟨a, R1, k1, k2, k3, k4, k5⟩ := m2.2.2 (b, p) (by rw [cyc_path]; simp)
     have pos := ear_pos hs S2 i2 (Nat.le_of_lt l2) ih m2.1 k1 k4
     have hrotP : p :: ((M2 ++ [u]) ++ b :: (v :: M1)) = (p :: (M2 ++ [u])) ++ (b :: (v :: M1)) := rfl
     have nd' : (p :: ((M2 ++ [u]) ++ b :: (v :: M1))).Nodup := by
      have h0 : ((b :: v :: M1) ++ (p :: (M2 ++ [u]))).Nodup := nd0
      rw [List.nodup_append] at h0
      rw [hrotP, List.nodup_append]
      exact ⟨h0.2.1, h0.1, fun x hx y hy e => h0.2.2 y hy x hx e.symm⟩
     have i' : Inj N (p :: ((M2 ++ [u]) ++ b :: (v :: M1))) := hi0.mono (fun x hx => by simp at hx ⊢; rcases hx with h | h | h | h | h | h <;> simp [h])
     obtain ⟨R, j1, j2, j3, j4⟩ := case2 hs nd' i' hA hB k1 k2 k3 (by simp) k4 k5 pos
     have me := ed_mem _ e he0
     have off : ∀ x ∈ b :: ((v :: M1) ++ [p]), a ≠ x := by
      rintro x hx rfl
      rw [List.mem_cons, List.mem_append] at hx
      rcases hx with h | h | h
      ·exact hbB (h ▸ j2)
      ·exact hAB a h a j2 rfl
      ·simp at h; exact hpB (h ▸ j2)
     exact ⟨a, R, Sp.of_rot (A := p :: (M2 ++ [u])) (B := b :: (v :: M1)) j1, off _ me.1, off _ me.2, j3, j4⟩
    ·obtain ⟨a, R1, k1, k2, k3, k4, k5⟩ := m1.2.2 (p, b) (by rw [cyc_path]; simp)
     have pos := ear_pos hs S1 i1 (Nat.le_of_lt l1) ih m1.1 k1 k4
     obtain ⟨R, j1, j2, j3, j4⟩ := case2 hs nd0 hi0 hB hA k1 k2 k3 (by simp) k4 k5 pos
     have me := ed_mem _ e he0
     have off : ∀ x ∈ p :: ((M2 ++ [u]) ++ [b]), a ≠ x := by
      rintro x hx rfl
      rw [List.mem_cons, List.mem_append] at hx
      rcases hx with h | h | h
      ·exact hpA (h ▸ j2)
      ·exact hAB a j2 a h rfl
      ·simp at h; exact hbA (h ▸ j2)
     exact ⟨a, R, j1, off _ me.1, off _ me.2, j3, j4⟩
   ·have emp : ∀ q ∈ M, ¬ InT s u b v q := fun q hq h => hin ⟨q, hq, h⟩
    have heb : Ear s b (v :: (M ++ [u])) := Ear.of hD emp
    by_cases c1 : b ≠ e.1 ∧ b ≠ e.2
    ·exact ⟨b, _, Sp.head b _, c1.1, c1.2, heb, fun X _ => Wd_low low⟩
    ·-- an ear of the rest
     have hSR := heb.sim hs hP0 hM
     have oR := hK0 h4 heb
     obtain ⟨a, R', s1, n1, n2, he', hw'⟩ := (ih _ (by omega) hSR hiR s oR).2.2 (u, v) (by rw [cyc_path]; simp)
     have aM : a ∈ M := by
      have := (s1.mem a).mpr (.inl rfl)
      simp at this; rcases this with h | h | h
      ·exact absurd h n2
      ·exact h
      ·exact absurd h n1
     have ab : a ≠ b := fun e => nb (by rw [← e]; simp [aM])
     have off : a ≠ e.1 ∧ a ≠ e.2 := by
      rw [ce, List.mem_cons, List.mem_append] at he0
      rcases he0 with rfl | h | h
      ·exact ⟨ab, n2⟩
      ·exfalso
       have me := ed_mem _ e h
       exact c1 ⟨fun k => nb (by rw [k]; exact me.1), fun k => nb (by rw [k]; exact me.2)⟩
      ·simp at h; subst h; exact ⟨n1, ab⟩
     have hnin := emp a aM
     obtain ⟨C, D, rfl⟩ := List.append_of_mem aM
     have hR' : R' = (D ++ [u]) ++ (v :: C) := Sp.uniq ndR s1 ⟨v :: C, D ++ [u], by simp, rfl⟩
     subst hR'
     refine ⟨a, (D ++ [u]) ++ (b :: v :: C), ⟨b :: v :: C, D ++ [u], by simp, rfl⟩, off.1, off.2, ?_, ?_⟩
     ·obtain ⟨v1, u1, e1, e2, hp, hq⟩ := he'
      have v1m : v1 ∈ (D ++ [u]) ++ (v :: C) := List.mem_of_head? e1
      have u1m : u1 ∈ (D ++ [u]) ++ (v :: C) := List.mem_of_getLast? e2
      have sub : ∀ x ∈ (D ++ [u]) ++ (v :: C), x ∈ v :: (C ++ a :: D ++ [u]) := by
       intro x hx; simp at hx ⊢; rcases hx with h | h | h | h <;> simp [h]
      refine ⟨v1, u1, ?_, ?_, hp, ?_⟩
      ·cases D <;> simpa using e1
      ·rw [List.getLast?_append] at e2 ⊢
       rw [show b :: v :: C = [b] ++ (v :: C) from rfl, List.getLast?_append]
       cases hc : (v :: C).getLast? with
       | none => simp at hc
       | some y => rw [hc] at e2; simpa using e2
      ·intro q hqm k1 k2 hin2
       by_cases qb : q = b
       ·subst qb
        exact low_notin hp (low _ (sub _ u1m)) (low a (by simp)) (low _ (sub _ v1m)) hin2
       ·refine hq q ?_ k1 k2 hin2
        simp at hqm ⊢; rcases hqm with h | h | h | h | h
        ·simp [h]
        ·simp [h]
        ·exact absurd h qb
        ·simp [h]
        ·simp [h]
     ·intro X hX
      have r1 := Wd_rot N X (D ++ [u]) (b :: v :: C) a
      have r2 := Wd_rot N X (D ++ [u]) (v :: C) a
      have e1 : (b :: v :: C) ++ (D ++ [u]) = b :: v :: ((C ++ D) ++ [u]) := by simp
      have e2 : (v :: C) ++ (D ++ [u]) = v :: ((C ++ D) ++ [u]) := by simp
      rw [e1, Wd_ear] at r1
      rw [e2, hw' X hX] at r2
      rw [r1, ← r2, tri_zero hX hs hD hnin]; rfl
 refine ⟨hK, ?_, hE⟩
 intro X hX z
 obtain ⟨a, R, h1, _, _, h4, _⟩ := hE (u, b) ((hb.cyc _).mpr (by rw [ce]; simp))
 have pos := ear_pos hs hP hi (by omega) ih hK h1 h4 X hX z
 have hl2 := h1.len
 obtain ⟨u1, v1, hp, e⟩ := h1.ear_wd (N := N) (X := X) (by omega) h4 z
 have := (triW (N := N) hX hs hp z).1
 rw [e, Int.mul_add]; omega
end Go.Proofs.Ythaklbjcjoolcaa.Geo
