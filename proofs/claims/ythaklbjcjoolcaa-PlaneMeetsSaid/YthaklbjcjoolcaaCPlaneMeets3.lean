/- Proved here: what functions that the law reaches compute, and plain laws of that. No conditions but those that the theorems state. Put together by a program; a part of it was printed by a program of the session's, by way of the kit's printer (wip/printplus.py, wip/mend*.py). -/
import Derived.Test.YthaklbjcjoolcaaB3
import Derived.Test.YthaklbjcjoolcaaCPlaneMeets2
import Derived.Test.YthaklbjcjoolcaaCPlaneMeets1
import Derived.Test.YthaklbjcjoolcaaB5
import Derived.Test.YthaklbjcjoolcaaB1
import Derived.Test.YthaklbjcjoolcaaB4
set_option linter.unusedVariables false
set_option linter.unusedSimpArgs false
namespace Go.Proofs.Ythaklbjcjoolcaa.P
open Go.RowKit Go.Shelf Go.Sort Go.Proofs.YthaklbjcjoolcaaW.PrintWords Go.Proofs.YthaklbjcjoolcaaW.PrintLast Go.Proofs.YthaklbjcjoolcaaW.PrintMore
set_option linter.unusedVariables false
set_option linter.unusedSimpArgs false
/-- a vector points into the right half plane (or straight up) -/
def rgt (x y : Int) : Prop := 0 < x ∨ x = 0 ∧ 0 < y
/-- the order of two vectors by their directions -/
def cr (ax ay bx b_y : Int) : Int := ax * b_y - ay * bx
theorem cr_key (ax ay bx b_y cx cy : Int) : bx * cr ax ay cx cy = ax * cr bx b_y cx cy + cx * cr ax ay bx b_y := by unfold cr; grind
theorem cr_swap (ax ay bx b_y : Int) : cr bx b_y ax ay = - cr ax ay bx b_y := by unfold cr; grind
theorem nn_of {b t : Int} (hb : 0 < b) (h : 0 ≤ b * t) : 0 ≤ t := by
  rcases Int.lt_or_le t 0 with h1 | h1
  · have := Int.mul_neg_of_pos_of_neg hb h1; omega
  · exact h1
theorem pos_of {b t : Int} (hb : 0 < b) (h : 0 < b * t) : 0 < t := by
  rcases Int.lt_or_le 0 t with h1 | h1
  · exact h1
  · have := Int.mul_le_mul_of_nonneg_left h1 (Int.le_of_lt hb); omega
theorem nn_mul {a b : Int} (ha : 0 ≤ a) (hb : 0 ≤ b) : 0 ≤ a * b := Int.mul_nonneg ha hb
theorem ps_mul {a b : Int} (ha : 0 < a) (hb : 0 < b) : 0 < a * b := Int.mul_pos ha hb
theorem cr_trans {ax ay bx b_y cx cy : Int} (ha : rgt ax ay) (hb : rgt bx b_y) (hc : rgt cx cy) (h1 : 0 ≤ cr ax ay bx b_y) (h2 : 0 ≤ cr bx b_y cx cy) : 0 ≤ cr ax ay cx cy := by
  have hax : 0 ≤ ax := by unfold rgt at ha; omega
  have hcx : 0 ≤ cx := by unfold rgt at hc; omega
  rcases hb with hb | ⟨rfl, hb⟩
  · refine nn_of hb ?_
    rw [cr_key ax ay bx b_y cx cy]
    have := nn_mul hax h2; have := nn_mul hcx h1; omega
  · unfold cr at h1 h2
    have h3 : 0 ≤ ax * b_y := by grind
    have h4 : 0 ≤ -(b_y * cx) := by grind
    have hcx0 : cx = 0 := by
      rcases Int.lt_or_le 0 cx with h | h
      · have := ps_mul hb h; omega
      · omega
    subst hcx0
    have hcy : 0 < cy := by unfold rgt at hc; omega
    unfold cr
    have := nn_mul hax (Int.le_of_lt hcy)
    grind
theorem cr_trans_lt {ax ay bx b_y cx cy : Int} (ha : rgt ax ay) (hb : rgt bx b_y) (hc : rgt cx cy) (h1 : 0 ≤ cr ax ay bx b_y) (h2 : 0 ≤ cr bx b_y cx cy) (h3 : 0 < cr ax ay bx b_y ∨ 0 < cr bx b_y cx cy) : 0 < cr ax ay cx cy := by
  have hax : 0 ≤ ax := by unfold rgt at ha; omega
  have hcx : 0 ≤ cx := by unfold rgt at hc; omega
  rcases hb with hb | ⟨rfl, hb⟩
  · refine pos_of hb ?_
    rw [cr_key ax ay bx b_y cx cy]
    have m1 := nn_mul hax h2; have m2 := nn_mul hcx h1
    rcases h3 with h3 | h3
    · rcases Int.lt_or_le 0 cx with h | h
      · have := ps_mul h h3; omega
      · have hcx0 : cx = 0 := by omega
        subst hcx0
        have hcy : 0 < cy := by unfold rgt at hc; omega
        have h4 : 0 < cr bx b_y 0 cy := by unfold cr; have := ps_mul hb hcy; grind
        rcases Int.lt_or_le 0 ax with h5 | h5
        · have := ps_mul h5 h4; omega
        · have hax0 : ax = 0 := by omega
          subst hax0
          have hay : 0 < ay := by unfold rgt at ha; omega
          unfold cr at h3
          have := ps_mul hay hb
          grind
    · rcases Int.lt_or_le 0 ax with h | h
      · have := ps_mul h h3; omega
      · have hax0 : ax = 0 := by omega
        subst hax0
        have hay : 0 < ay := by unfold rgt at ha; omega
        unfold cr at h1
        have := ps_mul hay hb
        grind
  · unfold cr at h1 h2 h3
    have h4 : 0 ≤ -(b_y * cx) := by grind
    have hcx0 : cx = 0 := by
      rcases Int.lt_or_le 0 cx with h | h
      · have := ps_mul hb h; omega
      · omega
    subst hcx0
    have hcy : 0 < cy := by unfold rgt at hc; omega
    have hax1 : 0 < ax := by
      rcases h3 with h3 | h3
      · rcases Int.lt_or_le 0 ax with h | h
        · exact h
        · have : ax = 0 := by omega
          subst this; grind
      · grind
    unfold cr
    have := ps_mul hax1 hcy
    grind
theorem crs_cr (a b c : S31) : crs a b c = cr (b.f0 - a.f0) (b.f1 - a.f1) (c.f0 - a.f0) (c.f1 - a.f1) := rfl
theorem ltP_rgt {a b : S31} : ltP a b = true ↔ rgt (b.f0 - a.f0) (b.f1 - a.f1) := by unfold ltP rgt; rw [decide_eq_true_eq]; omega
theorem crs_turn (a b c : S31) : crs a b c = cr (b.f0 - a.f0) (b.f1 - a.f1) (c.f0 - b.f0) (c.f1 - b.f1) := by unfold crs cr; grind
theorem crs_rot (a b c : S31) : crs b c a = crs a b c := by unfold crs; grind
theorem crs_swap (a b c : S31) : crs a c b = - crs a b c := by unfold crs; grind
theorem ltP_trans {a b c : S31} (h1 : ltP a b = true) (h2 : ltP b c = true) : ltP a c = true := by unfold ltP at *; rw [decide_eq_true_eq] at *; omega
theorem ltP_irr (a : S31) : ¬ ltP a a = true := by unfold ltP; rw [decide_eq_true_eq]; omega
theorem ltP_tot (a b : S31) : ltP a b = true ∨ a = b ∨ ltP b a = true := by
  unfold ltP; rw [decide_eq_true_eq, decide_eq_true_eq]
  by_cases h : a = b
  · exact Or.inr (Or.inl h)
  · have : a.f0 ≠ b.f0 ∨ a.f1 ≠ b.f1 := by
      by_cases h0 : a.f0 = b.f0
      · exact Or.inr (fun h1 => h (S31.ext' h0 h1))
      · exact Or.inl h0
    omega
/-- three turns: two left turns on the way to the right make the whole way turn left -/
theorem turn_far {a b c q : S31} (h1 : ltP a b = true) (h2 : ltP b c = true) (h3 : ltP c q = true) (ht1 : 0 < crs a b c) (ht2 : 0 < crs b c q) : 0 < crs a b q := by
  have ha := ltP_rgt.1 h1; have hb := ltP_rgt.1 h2; have hc := ltP_rgt.1 h3
  rw [crs_turn] at ht1 ht2
  have := cr_trans_lt ha hb hc (Int.le_of_lt ht1) (Int.le_of_lt ht2) (Or.inl ht1)
  have e : crs a b q = cr (b.f0 - a.f0) (b.f1 - a.f1) (c.f0 - b.f0) (c.f1 - b.f1) + cr (b.f0 - a.f0) (b.f1 - a.f1) (q.f0 - c.f0) (q.f1 - c.f1) := by unfold crs cr; grind
  omega
/-- what lies to the left of an edge lies to the left of the next one if it is further back -/
theorem turn_back_pt {w u p r : S31} (h1 : ltP w u = true) (h2 : ltP u p = true) (h3 : ltP r u = true) (ht1 : 0 ≤ crs w u r) (ht2 : 0 < crs w u p) : 0 < crs u p r := by
  have ha := ltP_rgt.1 h1; have hb := ltP_rgt.1 h2; have hc := ltP_rgt.1 h3
  rw [crs_turn] at ht2
  have e : cr (u.f0 - r.f0) (u.f1 - r.f1) (u.f0 - w.f0) (u.f1 - w.f1) = crs w u r := by unfold crs cr; grind
  have := cr_trans_lt hc ha hb (by rw [e]; exact ht1) (Int.le_of_lt ht2) (Or.inr ht2)
  have e2 : crs u p r = cr (u.f0 - r.f0) (u.f1 - r.f1) (p.f0 - u.f0) (p.f1 - u.f1) := by unfold crs cr; grind
  omega
/-- what lies to the left of a way lies to the left of a way further right -/
theorem turn_on {u v p r : S31} (h1 : ltP u v = true) (h2 : ltP u p = true) (h3 : ltP u r = true) (ht1 : 0 ≤ crs u v r) (ht2 : crs u v p ≤ 0) : 0 ≤ crs u p r := by
  have ha := ltP_rgt.1 h1; have hb := ltP_rgt.1 h2; have hc := ltP_rgt.1 h3
  rw [crs_cr] at *
  exact cr_trans hb ha hc (by rw [cr_swap]; omega) ht1
theorem pt_app_l (A B : List S31) (i : Nat) (h : i < A.length) : pt (A ++ B) i = pt A i := by
  unfold pt; rw [List.getD_eq_getElem?_getD, List.getD_eq_getElem?_getD, List.getElem?_append_left h]
theorem pt_app_r (A B : List S31) (i : Nat) (h : A.length ≤ i) : pt (A ++ B) i = pt B (i - A.length) := by
  unfold pt; rw [List.getD_eq_getElem?_getD, List.getD_eq_getElem?_getD, List.getElem?_append_right h]
theorem pt_take (A : List S31) (n i : Nat) (h : i < n) : pt (A.take n) i = pt A i := by
  unfold pt; rw [List.getD_eq_getElem?_getD, List.getD_eq_getElem?_getD, List.getElem?_take, if_pos h]
theorem pt_mem (A : List S31) (i : Nat) (h : i < A.length) : pt A i ∈ A := by rw [pt_eq A i h]; exact List.getElem_mem _
theorem mem_pt {A : List S31} {p : S31} (h : p ∈ A) : ∃ i, i < A.length ∧ pt A i = p := by
  obtain ⟨i, hi, e⟩ := List.mem_iff_getElem.1 h
  exact ⟨i, hi, by rw [pt_eq A i hi, e]⟩
/-- a point is to the left of a way to the right, or between its ends -/
def Up (a b r : S31) : Prop := 0 ≤ crs a b r ∧ (crs a b r = 0 → ¬ ltP r a = true ∧ ¬ ltP b r = true)
/-- what a chain keeps: it goes to the right, turns left, and leaves no point that was read on its right -/
structure Ch (R out : List S31) : Prop where
  pos : 0 < out.length
  inc : ∀ i, i + 1 < out.length → ltP (pt out i) (pt out (i + 1)) = true
  mem : ∀ i, i < out.length → pt out i ∈ R
  ed : ∀ i, i + 1 < out.length → ∀ r ∈ R, Up (pt out i) (pt out (i + 1)) r
  trn : ∀ i, i + 2 < out.length → 0 < crs (pt out i) (pt out (i + 1)) (pt out (i + 2))
  hd : ∀ r ∈ R, ¬ ltP r (pt out 0) = true
  lst : ∀ r ∈ R, ¬ ltP (pt out (out.length - 1)) r = true
theorem popN_spec (out : List S31) (p : S31) : ∀ m, 1 ≤ m → 1 ≤ popN out p m ∧ (2 ≤ popN out p m → 0 < crs (pt out (popN out p m - 2)) (pt out (popN out p m - 1)) p) ∧ (popN out p m < m → crs (pt out (popN out p m - 1)) (pt out (popN out p m)) p ≤ 0)
  | 0, h => by omega
  | 1, _ => by simp [popN]
  | m + 2, _ => by
    have ih := popN_spec out p (m + 1) (by omega)
    have hle := popN_le out p (m + 1)
    unfold popN
    by_cases h : crs (pt out m) (pt out (m + 1)) p ≤ 0
    · rw [if_pos h]
      refine ⟨ih.1, ih.2.1, fun _ => ?_⟩
      rcases Nat.lt_or_ge (popN out p (m + 1)) (m + 1) with h1 | h1
      · exact ih.2.2 h1
      · have e : popN out p (m + 1) = m + 1 := by omega
        rw [e]; exact h
    · rw [if_neg h]
      refine ⟨by omega, fun _ => ?_, fun h1 => by omega⟩
      show 0 < crs (pt out m) (pt out (m + 1)) p
      omega
theorem crs_same (a b : S31) : crs a b a = 0 := by unfold crs; grind
theorem crs_end (a b : S31) : crs a b b = 0 := by unfold crs; grind
theorem ltP_asym {a b : S31} (h : ltP a b = true) : ¬ ltP b a = true := fun h1 => ltP_irr a (ltP_trans h h1)
theorem Ch.step {R out : List S31} {p : S31} (H : Ch R out) (hp : ∀ r ∈ R, ltP r p = true) : Ch (R ++ [p]) (chStep out p) := by
  obtain ⟨hn1, hn2, hn3⟩ := popN_spec out p out.length H.pos
  have hnl := popN_le out p out.length
  have hlen : (chStep out p).length = popN out p out.length + 1 := by unfold chStep; rw [List.length_append, List.length_take]; simp; omega
  have hold : ∀ i, i < popN out p out.length → pt (chStep out p) i = pt out i := by
    intro i hi
    unfold chStep
    rw [pt_app_l _ _ _ (by rw [List.length_take]; omega), pt_take _ _ _ hi]
  have hnew : pt (chStep out p) (popN out p out.length) = p := by
    unfold chStep
    rw [pt_app_r _ _ _ (by rw [List.length_take]; omega), List.length_take, Nat.min_eq_left hnl, Nat.sub_self]; rfl
  generalize chStep out p = O at *
  generalize popN out p out.length = n at *
  have far : ∀ d i, i + 2 + d = n → 0 < crs (pt out i) (pt out (i + 1)) p := by
    intro d
    induction d with
    | zero => intro i hi; obtain rfl : n = i + 2 := by omega
              exact hn2 (by omega)
    | succ d ih =>
      intro i hi
      exact turn_far (H.inc i (by omega)) (H.inc (i + 1) (by omega)) (hp _ (H.mem (i + 2) (by omega))) (H.trn i (by omega)) (ih (i + 1) (by omega))
  refine ⟨by omega, ?_, ?_, ?_, ?_, ?_, ?_⟩
  · intro i hi
    rw [hold i (by omega)]
    rcases Nat.lt_or_ge (i + 1) n with h | h
    · rw [hold _ h]; exact H.inc i (by omega)
    · obtain rfl : n = i + 1 := by omega
      rw [hnew]; exact hp _ (H.mem i (by omega))
  · intro i hi
    rcases Nat.lt_or_ge i n with h | h
    · rw [hold i h]; exact List.mem_append_left _ (H.mem i (by omega))
    · obtain rfl : n = i := by omega
      rw [hnew]; simp
  · intro i hi r hr
    rw [hold i (by omega)]
    rw [List.mem_append, List.mem_singleton] at hr
    rcases Nat.lt_or_ge (i + 1) n with h | h
    · rw [hold _ h]
      rcases hr with hr | rfl
      · exact H.ed i (by omega) r hr
      · have := far (n - (i + 2)) i (by omega)
        exact ⟨by omega, fun h => by omega⟩
    · obtain rfl : n = i + 1 := by omega
      rw [hnew]
      rcases hr with hr | rfl
      · rcases ltP_tot r (pt out i) with h1 | rfl | h1
        · have hi0 : 0 < i := by
            rcases Nat.eq_zero_or_pos i with rfl | h2
            · exact absurd h1 (H.hd r hr)
            · exact h2
          obtain ⟨j, rfl⟩ : ∃ j, i = j + 1 := ⟨i - 1, by omega⟩
          have h3 := turn_back_pt (H.inc j (by omega)) (hp _ (H.mem (j + 1) (by omega))) h1 (H.ed j (by omega) r hr).1 (far 0 j (by omega))
          exact ⟨by omega, fun h => by omega⟩
        · rw [Up, crs_same]
          exact ⟨Int.le_refl 0, fun _ => ⟨ltP_irr _, ltP_asym (hp _ hr)⟩⟩
        · have hl : i + 1 < out.length := by
            rcases Nat.lt_or_ge (i + 1) out.length with h2 | h2
            · exact h2
            · have e : out.length - 1 = i := by omega
              have := H.lst r hr; rw [e] at this; exact absurd h1 this
          refine ⟨turn_on (H.inc i hl) (hp _ (H.mem i (by omega))) h1 (H.ed i hl r hr).1 (hn3 (by omega)), fun _ => ⟨ltP_asym h1, ltP_asym (hp _ hr)⟩⟩
      · rw [Up, crs_end]
        exact ⟨Int.le_refl 0, fun _ => ⟨ltP_asym (hp _ (H.mem i (by omega))), ltP_irr _⟩⟩
  · intro i hi
    rw [hold i (by omega), hold (i + 1) (by omega)]
    rcases Nat.lt_or_ge (i + 2) n with h | h
    · rw [hold _ h]; exact H.trn i (by omega)
    · obtain rfl : n = i + 2 := by omega
      rw [hnew]; exact far 0 i (by omega)
  · intro r hr
    rw [hold 0 (by omega)]
    rw [List.mem_append, List.mem_singleton] at hr
    rcases hr with hr | rfl
    · exact H.hd r hr
    · exact ltP_asym (hp _ (H.mem 0 (by omega)))
  · intro r hr
    have e : O.length - 1 = n := by omega
    rw [e, hnew]
    rw [List.mem_append, List.mem_singleton] at hr
    rcases hr with hr | rfl
    · exact ltP_asym (hp _ hr)
    · exact ltP_irr _
theorem Ch.one (p : S31) : Ch [p] [p] := by
  refine ⟨by simp, by simp, by simp [pt], by simp, by simp, ?_, ?_⟩
  · intro r hr; rw [List.mem_singleton] at hr; subst hr; exact ltP_irr _
  · intro r hr; rw [List.mem_singleton] at hr; subst hr; exact ltP_irr _
/-- points in order, each once -/
def Asc (l : List S31) : Prop := ∀ i j, i < j → j < l.length → ltP (pt l i) (pt l j) = true
theorem chain_ch (l : List S31) (h : Asc l) (h1 : 0 < l.length) : Ch l (chainL l) := by
  have key : ∀ k, k < l.length → Ch (l.take (k + 1)) (chainL (l.take (k + 1))) := by
    intro k
    induction k with
    | zero =>
      intro hk
      have e : l.take (0 + 1) = [pt l 0] := by rw [take_pt l 0 hk]; rfl
      rw [e]; exact Ch.one _
    | succ k ih =>
      intro hk
      rw [take_pt l (k + 1) hk, chainL_snoc]
      refine (ih (by omega)).step ?_
      intro r hr
      obtain ⟨i, hi, rfl⟩ := mem_pt hr
      rw [List.length_take] at hi
      rw [pt_take _ _ _ (by omega)]
      exact h i (k + 1) (by omega) hk
  have := key (l.length - 1) (by omega)
  rw [show l.length - 1 + 1 = l.length by omega, List.take_length] at this
  exact this
theorem sortP_asc (l : List S31) (i j : Nat) (hij : i < j) (hj : j < (sortP l).length) : ¬ ltP (pt (sortP l) j) (pt (sortP l) i) = true := by
  have hp : (sortP l).Pairwise (fun x y => (!ltP y x) = true) := by
    unfold sortP
    refine List.pairwise_mergeSort ?_ ?_ l
    · intro a b c h1 h2
      simp only [Bool.not_eq_true', ltP, decide_eq_false_iff_not] at *
      omega
    · intro a b
      simp only [Bool.or_eq_true, Bool.not_eq_true', ltP, decide_eq_false_iff_not]
      omega
  have := List.pairwise_iff_getElem.1 hp i j (by omega) hj hij
  rw [pt_eq _ _ hj, pt_eq _ _ (by omega)]
  simpa using this
theorem sortP_mem (l : List S31) (p : S31) : p ∈ sortP l ↔ p ∈ l := (List.mergeSort_perm _ _).mem_iff
theorem asc_snoc {L : List S31} {p : S31} (h : Asc L) (hp : ∀ r ∈ L, ltP r p = true) : Asc (L ++ [p]) := by
  intro i j hij hj
  rw [List.length_append, List.length_singleton] at hj
  rw [pt_app_l L _ i (by omega)]
  rcases Nat.lt_or_ge j L.length with h1 | h1
  · rw [pt_app_l L _ j h1]; exact h i j hij h1
  · obtain rfl : j = L.length := by omega
    rw [pt_app_r L _ _ (Nat.le_refl _), Nat.sub_self]
    exact hp _ (pt_mem L i (by omega))
theorem ddL_facts (xs : List S31) (hs : ∀ i j, i < j → j < xs.length → ¬ ltP (pt xs j) (pt xs i) = true) : ∀ k, 1 ≤ k → k ≤ xs.length →
    Asc (ddL xs k) ∧ 0 < (ddL xs k).length ∧ (∀ r ∈ ddL xs k, r = pt xs (k - 1) ∨ ltP r (pt xs (k - 1)) = true) ∧ (∀ i, i < k → pt xs i ∈ ddL xs k)
  | 0, h, _ => by omega
  | 1, _, _ => by
    refine ⟨fun i j hij hj => ?_, by simp [ddL], by simp [ddL], ?_⟩
    · simp [ddL] at hj; omega
    · intro i hi; obtain rfl : i = 0 := by omega
      simp [ddL]
  | k + 2, _, hk => by
    obtain ⟨a1, a2, a3, a4⟩ := ddL_facts xs hs (k + 1) (by omega) (by omega)
    unfold ddL
    rw [show k + 1 - 1 = k by omega] at a3
    rw [show k + 2 - 1 = k + 1 by omega]
    by_cases he : pt xs (k + 1) = pt xs k
    · rw [if_pos he]
      refine ⟨a1, a2, by rw [he]; exact a3, fun i hi => ?_⟩
      rcases Nat.lt_or_ge i (k + 1) with h | h
      · exact a4 i h
      · obtain rfl : i = k + 1 := by omega
        rw [he]; exact a4 k (by omega)
    · rw [if_neg he]
      have hlt : ltP (pt xs k) (pt xs (k + 1)) = true := by
        rcases ltP_tot (pt xs k) (pt xs (k + 1)) with h | h | h
        · exact h
        · exact absurd h.symm he
        · exact absurd h (hs k (k + 1) (by omega) (by omega))
      have hall : ∀ r ∈ ddL xs (k + 1), ltP r (pt xs (k + 1)) = true := by
        intro r hr
        rcases a3 r hr with rfl | h
        · exact hlt
        · exact ltP_trans h hlt
      refine ⟨asc_snoc a1 hall, by simp, ?_, ?_⟩
      · intro r hr
        rw [List.mem_append, List.mem_singleton] at hr
        rcases hr with hr | rfl
        · exact Or.inr (hall r hr)
        · exact Or.inl rfl
      · intro i hi
        rcases Nat.lt_or_ge i (k + 1) with h | h
        · exact List.mem_append_left _ (a4 i h)
        · obtain rfl : i = k + 1 := by omega
          simp
theorem ddL_mem (xs : List S31) : ∀ k, k ≤ xs.length → ∀ p, p ∈ ddL xs k → p ∈ xs
  | 0, _, p, h => by simp [ddL] at h
  | 1, hk, p, h => by
    simp only [ddL, List.mem_singleton] at h
    rw [h]; exact pt_mem xs 0 (by omega)
  | k + 2, hk, p, h => by
    unfold ddL at h
    split at h
    · exact ddL_mem xs (k + 1) (by omega) p h
    · rw [List.mem_append, List.mem_singleton] at h
      rcases h with h | h
      · exact ddL_mem xs (k + 1) (by omega) p h
      · rw [h]; exact pt_mem xs (k + 1) (by omega)
theorem sortP_length (xs : List S31) : (sortP xs).length = xs.length := List.length_mergeSort ..
theorem sortedS_asc (l : List S31) (h : 0 < l.length) : Asc (sortedS l) ∧ 0 < (sortedS l).length := by
  have := ddL_facts (sortP l) (fun i j h1 h2 => sortP_asc l i j h1 h2) (sortP l).length (by rw [sortP_length]; exact h) (Nat.le_refl _)
  exact ⟨this.1, this.2.1⟩
theorem sortedS_mem (l : List S31) (p : S31) : p ∈ sortedS l ↔ p ∈ l := by
  rw [← sortP_mem l p]
  constructor
  · exact ddL_mem _ _ (Nat.le_refl _) p
  · intro h
    obtain ⟨i, hi, rfl⟩ := mem_pt h
    have := ddL_facts (sortP l) (fun i j h1 h2 => sortP_asc l i j h1 h2) (sortP l).length (by omega) (Nat.le_refl _)
    exact this.2.2.2 i hi
/-- a point turned round the origin -/
def neg (p : S31) : S31 := ⟨-p.f0, -p.f1⟩
theorem neg_neg (p : S31) : neg (neg p) = p := by unfold neg; cases p; simp
theorem crs_neg (a b c : S31) : crs (neg a) (neg b) (neg c) = crs a b c := by unfold crs neg; grind
theorem ltP_neg (a b : S31) : ltP (neg a) (neg b) = ltP b a := by
  rw [Bool.eq_iff_iff]; unfold ltP neg; rw [decide_eq_true_eq, decide_eq_true_eq]
  show (-a.f0 < -b.f0 ∨ -a.f0 = -b.f0 ∧ -a.f1 < -b.f1) ↔ _
  omega
theorem pt_neg (l : List S31) (i : Nat) : pt (l.map neg) i = neg (pt l i) := by
  unfold pt
  rw [List.getD_eq_getElem?_getD, List.getD_eq_getElem?_getD, List.getElem?_map]
  cases l[i]? <;> rfl
theorem popN_neg (out : List S31) (p : S31) : ∀ m, popN (out.map neg) (neg p) m = popN out p m
  | 0 => rfl
  | 1 => rfl
  | m + 2 => by unfold popN; rw [pt_neg, pt_neg, crs_neg, popN_neg out p (m + 1)]
theorem chain_neg (l : List S31) : chainL (l.map neg) = (chainL l).map neg := by
  have key : ∀ (xs out : List S31), (xs.map neg).foldl chStep (out.map neg) = (xs.foldl chStep out).map neg := by
    intro xs
    induction xs with
    | nil => intro out; rfl
    | cons p xs ih =>
      intro out
      rw [List.map_cons, List.foldl_cons, List.foldl_cons, ← ih]
      congr 1
      unfold chStep
      rw [List.length_map, popN_neg, List.map_append, List.map_take]; rfl
  exact key l []
theorem pt_rev (l : List S31) (i : Nat) (h : i < l.length) : pt l.reverse i = pt l (l.length - 1 - i) := by
  rw [pt_eq _ _ (by rw [List.length_reverse]; exact h), pt_eq _ _ (by omega), List.getElem_reverse]
theorem upper_ch (l : List S31) (h : Asc l) (h1 : 0 < l.length) : Ch (l.reverse.map neg) ((chainL l.reverse).map neg) := by
  rw [← chain_neg]
  refine chain_ch _ ?_ (by simpa using h1)
  intro i j hij hj
  rw [List.length_map, List.length_reverse] at hj
  rw [pt_neg, pt_neg, ltP_neg, pt_rev l j hj, pt_rev l i (by omega)]
  exact h _ _ (by omega) (by omega)
theorem onB_iff (a b r : S31) : onB a b r = true ↔ crs a b r = 0 ∧ (mn a.f0 b.f0 ≤ r.f0 ∧ r.f0 ≤ mx a.f0 b.f0) ∧ (mn a.f1 b.f1 ≤ r.f1 ∧ r.f1 ≤ mx a.f1 b.f1) := by
  unfold onB; simp only [Bool.and_eq_true, decide_eq_true_eq, and_assoc]
theorem btw (a b r : Int) : (mn a b ≤ r ∧ r ≤ mx a b) ↔ (a ≤ r ∧ r ≤ b ∨ b ≤ r ∧ r ≤ a) := by unfold mn mx; split <;> omega
theorem onB_iff' (a b r : S31) : onB a b r = true ↔ crs a b r = 0 ∧ (a.f0 ≤ r.f0 ∧ r.f0 ≤ b.f0 ∨ b.f0 ≤ r.f0 ∧ r.f0 ≤ a.f0) ∧ (a.f1 ≤ r.f1 ∧ r.f1 ≤ b.f1 ∨ b.f1 ≤ r.f1 ∧ r.f1 ≤ a.f1) := by rw [onB_iff, btw, btw]
theorem onB_neg (a b r : S31) : onB (neg a) (neg b) (neg r) = onB a b r := by
  rw [Bool.eq_iff_iff, onB_iff', onB_iff', crs_neg]
  unfold neg; simp only
  constructor <;> (intro ⟨h1, h2, h3⟩; exact ⟨h1, by omega, by omega⟩)
theorem onB_swap (a b r : S31) : onB b a r = onB a b r := by
  rw [Bool.eq_iff_iff, onB_iff', onB_iff', show crs b a r = - crs a b r by unfold crs; grind]
  constructor <;> (intro ⟨h1, h2, h3⟩; exact ⟨by omega, by omega, by omega⟩)
/-- a point is to the left of an edge or on it -/
def Lf (a b r : S31) : Prop := 0 < crs a b r ∨ onB a b r = true
theorem Lf.nn {a b r : S31} (h : Lf a b r) : 0 ≤ crs a b r := by
  rcases h with h | h
  · omega
  · have := ((onB_iff a b r).1 h).1; omega
theorem Up.lf {a b r : S31} (h : Up a b r) (hab : ltP a b = true) : Lf a b r := by
  obtain ⟨h1, h2⟩ := h
  rcases Int.lt_or_eq_of_le h1 with h3 | h3
  · exact Or.inl h3
  · right
    obtain ⟨h4, h5⟩ := h2 h3.symm
    rw [onB_iff']
    refine ⟨h3.symm, ?_⟩
    have hc := h3.symm
    unfold crs at hc
    unfold ltP at hab h4 h5
    rw [decide_eq_true_eq] at hab h4 h5
    rcases hab with hab | ⟨ha, hab⟩
    · have hx0 : a.f0 ≤ r.f0 := by omega
      have hx1 : r.f0 ≤ b.f0 := by omega
      refine ⟨Or.inl ⟨hx0, hx1⟩, ?_⟩
      have hd : 0 < b.f0 - a.f0 := by omega
      rcases Int.le_total a.f1 b.f1 with hy | hy
      · left
        have m1 := nn_mul (a := b.f1 - a.f1) (b := r.f0 - a.f0) (by omega) (by omega)
        have m2 := nn_mul (a := b.f1 - a.f1) (b := b.f0 - r.f0) (by omega) (by omega)
        have e1 := nn_of (t := r.f1 - a.f1) hd (by omega)
        have e2 := nn_of (t := b.f1 - r.f1) hd (by grind)
        omega
      · right
        have m1 := nn_mul (a := a.f1 - b.f1) (b := r.f0 - a.f0) (by omega) (by omega)
        have m2 := nn_mul (a := a.f1 - b.f1) (b := b.f0 - r.f0) (by omega) (by omega)
        have e1 := nn_of (t := a.f1 - r.f1) hd (by grind)
        have e2 := nn_of (t := r.f1 - b.f1) hd (by grind)
        omega
    · have hx : r.f0 = a.f0 := by omega
      exact ⟨by omega, by omega⟩
/-- the square of the distance -/
def sqd (a b : S31) : Int := (a.f0 - b.f0) * (a.f0 - b.f0) + (a.f1 - b.f1) * (a.f1 - b.f1)
theorem sq_mono {s t : Int} (h : 0 ≤ s ∧ s ≤ t ∨ t ≤ s ∧ s ≤ 0) : s * s ≤ t * t := by
  rcases h with h | h
  · have := nn_mul (a := t - s) (b := t + s) (by omega) (by omega); grind
  · have := nn_mul (a := s - t) (b := -(t + s)) (by omega) (by omega); grind
theorem sq_mono_lt {s t : Int} (h : 0 ≤ s ∧ s < t ∨ t < s ∧ s ≤ 0) : s * s < t * t := by
  rcases h with h | h
  · have := ps_mul (a := t - s) (b := t + s) (by omega) (by omega); grind
  · have := ps_mul (a := s - t) (b := -(t + s)) (by omega) (by omega); grind
theorem on_sq {a b r : S31} (h : onB a b r = true) (hr : r ≠ b) : sqd a r < sqd a b := by
  obtain ⟨_, h1, h2⟩ := (onB_iff' a b r).1 h
  unfold sqd
  have hne : r.f0 ≠ b.f0 ∨ r.f1 ≠ b.f1 := by
    by_cases h0 : r.f0 = b.f0
    · exact Or.inr (fun h1 => hr (S31.ext' h0 h1))
    · exact Or.inl h0
  have m1 : (a.f0 - r.f0) * (a.f0 - r.f0) ≤ (a.f0 - b.f0) * (a.f0 - b.f0) := sq_mono (by omega)
  have m2 : (a.f1 - r.f1) * (a.f1 - r.f1) ≤ (a.f1 - b.f1) * (a.f1 - b.f1) := sq_mono (by omega)
  rcases hne with h3 | h3
  · have m3 : (a.f0 - r.f0) * (a.f0 - r.f0) < (a.f0 - b.f0) * (a.f0 - b.f0) := sq_mono_lt (by omega)
    omega
  · have m3 : (a.f1 - r.f1) * (a.f1 - r.f1) < (a.f1 - b.f1) * (a.f1 - b.f1) := sq_mono_lt (by omega)
    omega
/-- one step of a look for the next corner -/
def scStep (at_ tq p : S31) : S31 := if p = at_ then tq else if tq = at_ ∨ crs at_ tq p < 0 ∨ (crs at_ tq p = 0 ∧ sqd at_ tq < sqd at_ p) then p else tq
theorem scan_is (at_ b : S31) (hb : b ≠ at_) : ∀ (l : List S31) (tq : S31), (∀ p ∈ l, Lf at_ b p) → (tq = at_ ∨ Lf at_ b tq) → (b ∈ l ∨ tq = b) → l.foldl (scStep at_) tq = b := by
  intro l
  induction l with
  | nil => intro tq _ _ h; rcases h with h | h
           · simp at h
           · exact h
  | cons p l ih =>
    intro tq hl ht hb'
    rw [List.foldl_cons]
    have hp := hl p (by simp)
    by_cases hto : tq = b
    · refine ih _ (fun q hq => hl q (by simp [hq])) ?_ (Or.inr ?_)
      · unfold scStep; split
        · exact ht
        · split
          · exact Or.inr hp
          · exact ht
      · subst hto
        unfold scStep
        split
        · rfl
        · rename_i hpa
          rw [if_neg]
          rintro (h | h | ⟨h1, h2⟩)
          · exact hb h
          · have := hp.nn; omega
          · rcases hp with h | h
            · omega
            · by_cases he : p = tq
              · rw [he] at h2; omega
              · have := on_sq h he; omega
    · by_cases hpb : p = b
      · subst hpb
        refine ih _ (fun q hq => hl q (by simp [hq])) ?_ (Or.inr ?_)
        · unfold scStep; split
          · exact ht
          · split
            · exact Or.inr hp
            · exact ht
        · unfold scStep
          rw [if_neg hb]
          by_cases hta : tq = at_
          · rw [if_pos (Or.inl hta)]
          · rw [if_pos]
            rcases ht with h | h
            · exact absurd h hta
            · have e := crs_swap at_ p tq
              rcases h with h | h
              · right; left; omega
              · right; right
                have h0 := ((onB_iff at_ p tq).1 h).1
                exact ⟨by omega, on_sq h hto⟩
      · have hbl : b ∈ l := by
          rcases hb' with h | h
          · rw [List.mem_cons] at h
            rcases h with h | h
            · exact absurd h.symm hpb
            · exact h
          · exact absurd h hto
        refine ih _ (fun q hq => hl q (by simp [hq])) ?_ (Or.inl hbl)
        unfold scStep; split
        · exact ht
        · split
          · exact Or.inr hp
          · exact ht
/-- the place behind a place of a ring -/
def nxt (i n : Nat) : Nat := if i + 1 < n then i + 1 else 0
/-- the corners of a hull -/
structure IsHull (l H : List S31) : Prop where
  pos : 0 < H.length
  mem : ∀ i, i < H.length → pt H i ∈ l
  least : ∀ r ∈ l, ¬ ltP r (pt H 0) = true
  one : H.length = 1 → ∀ r ∈ l, r = pt H 0
  ed : ∀ i, i < H.length → ∀ r ∈ l, Lf (pt H i) (pt H (nxt i H.length)) r
  ne : ∀ i, 0 < i → i < H.length → pt H i ≠ pt H 0
  ner : ∀ i, i + 1 < H.length → pt H i ≠ pt H (i + 1)
theorem onB_self (a : S31) : onB a a a = true := by rw [onB_iff']; refine ⟨crs_same a a, by omega, by omega⟩
theorem Ch.mono {R out : List S31} (H : Ch R out) : ∀ j i, i < j → j < out.length → ltP (pt out i) (pt out j) = true
  | 0, i, h, _ => by omega
  | j + 1, i, h, hj => by
    rcases Nat.lt_or_ge i j with h1 | h1
    · exact ltP_trans (Ch.mono H j i h1 (by omega)) (H.inc j hj)
    · obtain rfl : i = j := by omega
      exact H.inc i hj
theorem pt_dropLast (l : List S31) (i : Nat) (h : i + 1 < l.length) : pt l.dropLast i = pt l i := by
  rw [pt_eq _ _ (by rw [List.length_dropLast]; omega), pt_eq _ _ (by omega), List.getElem_dropLast]
theorem neg_inj {a b : S31} (h : neg a = neg b) : a = b := by rw [← neg_neg a, h, neg_neg]
theorem corners_hull (l : List S31) (h : 0 < l.length) : IsHull l (cornersS l) := by
  obtain ⟨has, hpos⟩ := sortedS_asc l h
  have hm := sortedS_mem l
  unfold cornersS
  generalize sortedS l = S at *
  by_cases h3 : S.length < 3
  · rw [if_pos h3]
    by_cases h2 : S.length = 1
    · have hone : ∀ r ∈ l, r = pt S 0 := by
        intro r hr
        obtain ⟨i, hi, rfl⟩ := mem_pt ((hm r).2 hr)
        obtain rfl : i = 0 := by omega
        rfl
      refine ⟨hpos, fun i hi => (hm _).1 (pt_mem S i hi), ?_, fun _ => hone, ?_, by omega, by omega⟩
      · intro r hr; rw [hone r hr]; exact ltP_irr _
      · intro i hi r hr
        obtain rfl : i = 0 := by omega
        have : nxt 0 S.length = 0 := by unfold nxt; rw [if_neg (by omega)]
        rw [this, hone r hr]; exact Or.inr (onB_self _)
    · have h2' : S.length = 2 := by omega
      have hlt := has 0 1 (by omega) (by omega)
      have htwo : ∀ r ∈ l, r = pt S 0 ∨ r = pt S 1 := by
        intro r hr
        obtain ⟨i, hi, rfl⟩ := mem_pt ((hm r).2 hr)
        have : i = 0 ∨ i = 1 := by omega
        rcases this with rfl | rfl
        · exact Or.inl rfl
        · exact Or.inr rfl
      refine ⟨hpos, fun i hi => (hm _).1 (pt_mem S i hi), ?_, by omega, ?_, ?_, ?_⟩
      · intro r hr
        rcases htwo r hr with rfl | rfl
        · exact ltP_irr _
        · exact ltP_asym hlt
      · have ends : ∀ a b : S31, Lf a b a ∧ Lf a b b := by
          intro a b
          exact ⟨Or.inr ((onB_iff' a b a).2 ⟨crs_same a b, by omega, by omega⟩), Or.inr ((onB_iff' a b b).2 ⟨crs_end a b, by omega, by omega⟩)⟩
        intro i hi r hr
        have : i = 0 ∨ i = 1 := by omega
        rcases this with rfl | rfl
        · rw [show nxt 0 S.length = 1 by unfold nxt; rw [if_pos (by omega)]]
          rcases htwo r hr with rfl | rfl
          · exact (ends _ _).1
          · exact (ends _ _).2
        · rw [show nxt 1 S.length = 0 by unfold nxt; rw [if_neg (by omega)]]
          rcases htwo r hr with rfl | rfl
          · exact (ends _ _).2
          · exact (ends _ _).1
      · intro i h0 hi e
        obtain rfl : i = 1 := by omega
        rw [e] at hlt; exact ltP_irr _ hlt
      · intro i hi e
        obtain rfl : i = 0 := by omega
        rw [e] at hlt; exact ltP_irr _ hlt
  · rw [if_neg h3]
    have hl := chain_ch S has hpos
    have hu := upper_ch S has hpos
    have hl0 := hl.lst
    generalize chainL S = A at *
    generalize chainL S.reverse = B at *
    have hBl : (B.map neg).length = B.length := List.length_map ..
    have hmR : ∀ r, r ∈ S → neg r ∈ S.reverse.map neg := fun r hr => List.mem_map.2 ⟨r, List.mem_reverse.2 hr, rfl⟩
    have hmR' : ∀ r, neg r ∈ S.reverse.map neg → r ∈ S := by
      intro r hr
      obtain ⟨q, hq, e⟩ := List.mem_map.1 hr
      rw [← neg_inj e]; exact List.mem_reverse.1 hq
    -- the ends
    have e0 : pt A 0 = pt S 0 := by
      rcases ltP_tot (pt A 0) (pt S 0) with h1 | h1 | h1
      · obtain ⟨i, hi, e⟩ := mem_pt (hl.mem 0 hl.pos)
        rw [← e] at h1
        rcases Nat.eq_zero_or_pos i with rfl | h2
        · exact absurd h1 (ltP_irr _)
        · exact absurd h1 (ltP_asym (has 0 i h2 hi))
      · exact h1
      · exact absurd h1 (hl.hd _ (pt_mem S 0 hpos))
    have e1 : pt A (A.length - 1) = pt S (S.length - 1) := by
      rcases ltP_tot (pt A (A.length - 1)) (pt S (S.length - 1)) with h1 | h1 | h1
      · exact absurd h1 (hl.lst _ (pt_mem S _ (by omega)))
      · exact h1
      · obtain ⟨i, hi, e⟩ := mem_pt (hl.mem (A.length - 1) (by have := hl.pos; omega))
        rw [← e] at h1
        rcases Nat.lt_or_ge i (S.length - 1) with h2 | h2
        · exact absurd h1 (ltP_asym (has i _ h2 (by omega)))
        · rw [show i = S.length - 1 by omega] at h1; exact absurd h1 (ltP_irr _)
    have hBp : 0 < B.length := by have := hu.pos; rwa [hBl] at this
    have ninc : ∀ i, i + 1 < B.length → ltP (pt B (i + 1)) (pt B i) = true := by
      intro i hi; have := hu.inc i (by rw [hBl]; exact hi); rwa [pt_neg, pt_neg, ltP_neg] at this
    have nmono : ∀ i j, i < j → j < B.length → ltP (pt B j) (pt B i) = true := by
      intro i j hij hj; have := hu.mono j i hij (by rw [hBl]; exact hj); rwa [pt_neg, pt_neg, ltP_neg] at this
    have nmem : ∀ i, i < B.length → pt B i ∈ S := by
      intro i hi; have := hu.mem i (by rw [hBl]; exact hi); rw [pt_neg] at this; exact hmR' _ this
    have e2 : pt B 0 = pt S (S.length - 1) := by
      rcases ltP_tot (pt B 0) (pt S (S.length - 1)) with h1 | h1 | h1
      · have := hu.hd _ (hmR _ (pt_mem S (S.length - 1) (by omega)))
        rw [pt_neg, ltP_neg] at this; exact absurd h1 this
      · exact h1
      · obtain ⟨i, hi, e⟩ := mem_pt (nmem 0 hBp)
        rw [← e] at h1
        rcases Nat.lt_or_ge i (S.length - 1) with h2 | h2
        · exact absurd h1 (ltP_asym (has i _ h2 (by omega)))
        · rw [show i = S.length - 1 by omega] at h1; exact absurd h1 (ltP_irr _)
    have e3 : pt B (B.length - 1) = pt S 0 := by
      rcases ltP_tot (pt B (B.length - 1)) (pt S 0) with h1 | h1 | h1
      · obtain ⟨i, hi, e⟩ := mem_pt (nmem (B.length - 1) (by omega))
        rw [← e] at h1
        rcases Nat.eq_zero_or_pos i with rfl | h2
        · exact absurd h1 (ltP_irr _)
        · exact absurd h1 (ltP_asym (has 0 i h2 hi))
      · exact h1
      · have := hu.lst _ (hmR _ (pt_mem S 0 hpos))
        rw [pt_neg, ltP_neg, hBl] at this; exact absurd h1 this
    have hS := has 0 (S.length - 1) (by omega) (by omega)
    have hA2 : 2 ≤ A.length := by
      rcases Nat.lt_or_ge A.length 2 with h1 | h1
      · have h2 := hl.pos
        rw [show A.length - 1 = 0 by omega, e0] at e1
        rw [← e1] at hS; exact absurd hS (ltP_irr _)
      · exact h1
    have hB2 : 2 ≤ B.length := by
      rcases Nat.lt_or_ge B.length 2 with h1 | h1
      · rw [show B.length - 1 = 0 by omega, e2] at e3
        rw [e3] at hS; exact absurd hS (ltP_irr _)
      · exact h1
    have hlen : (A.dropLast ++ B.dropLast).length = A.length - 1 + (B.length - 1) := by rw [List.length_append, List.length_dropLast, List.length_dropLast]
    have hA : ∀ i, i < A.length - 1 → pt (A.dropLast ++ B.dropLast) i = pt A i := by
      intro i hi
      rw [pt_app_l _ _ _ (by rw [List.length_dropLast]; exact hi), pt_dropLast _ _ (by omega)]
    have hB : ∀ i, i < B.length - 1 → pt (A.dropLast ++ B.dropLast) (A.length - 1 + i) = pt B i := by
      intro i hi
      rw [pt_app_r _ _ _ (by rw [List.length_dropLast]; omega), List.length_dropLast, Nat.add_sub_cancel_left, pt_dropLast _ _ (by omega)]
    have hA' : pt (A.dropLast ++ B.dropLast) (A.length - 1) = pt A (A.length - 1) := by
      have := hB 0 (by omega); rw [Nat.add_zero] at this; rw [this, e2, e1]
    have h0 : pt (A.dropLast ++ B.dropLast) 0 = pt S 0 := by rw [hA 0 (by omega), e0]
    generalize A.dropLast ++ B.dropLast = H at *
    have part : ∀ i, i < H.length → i < A.length - 1 ∨ ∃ j, i = A.length - 1 + j ∧ j < B.length - 1 := by
      intro i hi
      rcases Nat.lt_or_ge i (A.length - 1) with h1 | h1
      · exact Or.inl h1
      · exact Or.inr ⟨i - (A.length - 1), by omega, by omega⟩
    have edA : ∀ i, i + 1 < A.length → ∀ r ∈ l, Lf (pt A i) (pt A (i + 1)) r := fun i hi r hr => (hl.ed i hi r ((hm r).2 hr)).lf (hl.inc i hi)
    have edB : ∀ i, i + 1 < B.length → ∀ r ∈ l, Lf (pt B i) (pt B (i + 1)) r := by
      intro i hi r hr
      have h4 := (hu.ed i (by rw [hBl]; exact hi) _ (hmR r ((hm r).2 hr))).lf (hu.inc i (by rw [hBl]; exact hi))
      rw [pt_neg, pt_neg] at h4
      unfold Lf at h4
      rw [crs_neg, onB_neg] at h4
      exact h4
    refine ⟨by omega, ?_, ?_, by omega, ?_, ?_, ?_⟩
    · intro i hi
      rcases part i hi with h1 | ⟨j, rfl, h1⟩
      · rw [hA i h1]; exact (hm _).1 (hl.mem i (by omega))
      · rw [hB j h1]; exact (hm _).1 (nmem j (by omega))
    · intro r hr
      rw [h0, ← e0]; exact hl.hd r ((hm r).2 hr)
    · intro i hi r hr
      rcases part i hi with h1 | ⟨j, rfl, h1⟩
      · rw [show nxt i H.length = i + 1 by unfold nxt; rw [if_pos (by omega)], hA i h1]
        have e : pt H (i + 1) = pt A (i + 1) := by
          rcases Nat.lt_or_ge (i + 1) (A.length - 1) with h2 | h2
          · exact hA _ h2
          · rw [show i + 1 = A.length - 1 by omega]; exact hA'
        rw [e]; exact edA i (by omega) r hr
      · rw [hB j h1]
        rcases Nat.lt_or_ge (j + 1) (B.length - 1) with h2 | h2
        · rw [show nxt (A.length - 1 + j) H.length = A.length - 1 + (j + 1) by unfold nxt; rw [if_pos (by omega)]; omega, hB _ h2]
          exact edB j (by omega) r hr
        · rw [show nxt (A.length - 1 + j) H.length = 0 by unfold nxt; rw [if_neg (by omega)], h0, ← e3, show B.length - 1 = j + 1 by omega]
          exact edB j (by omega) r hr
    · intro i h4 hi
      rw [h0]
      intro e
      rcases part i hi with h1 | ⟨j, rfl, h1⟩
      · rw [hA i h1] at e
        have := hl.mono i 0 h4 (by omega)
        rw [e, e0] at this; exact ltP_irr _ this
      · rw [hB j h1] at e
        have := nmono j (B.length - 1) h1 (by omega)
        rw [e, e3] at this; exact ltP_irr _ this
    · intro i hi e
      rcases part i (by omega) with h1 | ⟨j, rfl, h1⟩
      · rw [hA i h1] at e
        have e' : pt H (i + 1) = pt A (i + 1) := by
          rcases Nat.lt_or_ge (i + 1) (A.length - 1) with h2 | h2
          · exact hA _ h2
          · rw [show i + 1 = A.length - 1 by omega]; exact hA'
        rw [e'] at e
        have := hl.inc i (by omega)
        rw [e] at this; exact ltP_irr _ this
      · rw [hB j h1, Nat.add_assoc, hB (j + 1) (by omega)] at e
        have := ninc j (by omega)
        rw [e] at this; exact ltP_irr _ this
end Go.Proofs.Ythaklbjcjoolcaa.P
namespace Go.Proofs.Ythaklbjcjoolcaa.P
open Go.RowKit Go.Shelf Go.Sort Go.Proofs.YthaklbjcjoolcaaW.PrintWords Go.Proofs.YthaklbjcjoolcaaW.PrintLast Go.Proofs.YthaklbjcjoolcaaW.PrintMore
set_option linter.unusedVariables false
set_option linter.unusedSimpArgs false
/-- the walk round a hull from corner to corner -/
def giftGo (l : List S31) (first : S31) : Nat → S31 → List S31 → Option (List S31)
  | 0, _, _ => none
  | k + 1, at_, out => if l.foldl (scStep at_) at_ = at_ ∨ l.foldl (scStep at_) at_ = first then some out else giftGo l first k (l.foldl (scStep at_) at_) (out ++ [l.foldl (scStep at_) at_])
theorem hull_next {l H : List S31} (h : IsHull l H) (i : Nat) (hi : i < H.length) : l.foldl (scStep (pt H i)) (pt H i) = pt H (nxt i H.length) := by
  by_cases h1 : H.length = 1
  · obtain rfl : i = 0 := by omega
    rw [show nxt 0 H.length = 0 by unfold nxt; rw [if_neg (by omega)]]
    have hall := h.one h1
    generalize pt H 0 = a at *
    clear h h1 hi
    induction l with
    | nil => rfl
    | cons p l ih =>
      rw [List.foldl_cons, show scStep a a p = a by unfold scStep; rw [if_pos (hall p (by simp))]]
      exact ih (fun r hr => hall r (by simp [hr]))
  · have hb : pt H (nxt i H.length) ≠ pt H i := by
      unfold nxt
      split
      · rename_i h2; exact fun e => h.ner i h2 e.symm
      · rename_i h2; exact fun e => h.ne i (by omega) hi e.symm
    have hm : pt H (nxt i H.length) ∈ l := by
      refine h.mem _ ?_
      unfold nxt; split <;> omega
    exact scan_is _ _ hb l _ (h.ed i hi) (Or.inl rfl) (Or.inl hm)
theorem gift_is {l H : List S31} (h : IsHull l H) : ∀ d i k, i < H.length → i + 1 + d = H.length → d < k → giftGo l (pt H 0) k (pt H i) (H.take (i + 1)) = some H := by
  intro d
  induction d with
  | zero =>
    intro i k hi hd hk
    obtain ⟨k, rfl⟩ : ∃ k', k = k' + 1 := ⟨k - 1, by omega⟩
    unfold giftGo
    rw [hull_next h i hi, show nxt i H.length = 0 by unfold nxt; rw [if_neg (by omega)], if_pos (Or.inr rfl), show i + 1 = H.length by omega, List.take_length]
  | succ d ih =>
    intro i k hi hd hk
    obtain ⟨k, rfl⟩ : ∃ k', k = k' + 1 := ⟨k - 1, by omega⟩
    unfold giftGo
    rw [hull_next h i hi, show nxt i H.length = i + 1 by unfold nxt; rw [if_pos (by omega)], if_neg, ← take_pt H (i + 1) (by omega)]
    · exact ih (i + 1) k (by omega) (by omega) (by omega)
    · rintro (e | e)
      · exact h.ner i (by omega) e.symm
      · exact h.ne (i + 1) (by omega) (by omega) e
theorem hull_unique {l A B : List S31} (ha : IsHull l A) (hb : IsHull l B) : A = B := by
  have e : pt A 0 = pt B 0 := by
    rcases ltP_tot (pt A 0) (pt B 0) with h | h | h
    · exact absurd h (hb.least _ (ha.mem 0 ha.pos))
    · exact h
    · exact absurd h (ha.least _ (hb.mem 0 hb.pos))
  have g1 := gift_is ha (A.length - 1) 0 (A.length + B.length) ha.pos (by have := ha.pos; omega) (by have := ha.pos; omega)
  have g2 := gift_is hb (B.length - 1) 0 (A.length + B.length) hb.pos (by have := hb.pos; omega) (by have := hb.pos; omega)
  rw [take_pt A 0 ha.pos, e] at g1
  rw [take_pt B 0 hb.pos] at g2
  have : some A = some B := by rw [← g1, ← g2]; rfl
  exact Option.some.inj this
theorem hull_same {l m H : List S31} (h : IsHull l H) (hlm : ∀ p, p ∈ m ↔ p ∈ l) : IsHull m H :=
  ⟨h.pos, fun i hi => (hlm _).2 (h.mem i hi), fun r hr => h.least r ((hlm r).1 hr), fun h1 r hr => h.one h1 r ((hlm r).1 hr), fun i hi r hr => h.ed i hi r ((hlm r).1 hr), h.ne, h.ner⟩
theorem hull_self {l H : List S31} (h : IsHull l H) : IsHull H H := by
  have hs : ∀ r ∈ H, r ∈ l := fun r hr => by obtain ⟨i, hi, rfl⟩ := mem_pt hr; exact h.mem i hi
  exact ⟨h.pos, fun i hi => pt_mem H i hi, fun r hr => h.least r (hs r hr), fun h1 r hr => h.one h1 r (hs r hr), fun i hi r hr => h.ed i hi r (hs r hr), h.ne, h.ner⟩
theorem corners_again {l : List S31} (h : 0 < l.length) : cornersS (cornersS l) = cornersS l := by
  have h1 := corners_hull l h
  exact hull_unique (corners_hull _ h1.pos) (hull_self h1)
theorem corners_same {l m : List S31} (h : 0 < l.length) (hm : 0 < m.length) (hlm : ∀ p, p ∈ m ↔ p ∈ l) : cornersS m = cornersS l :=
  hull_unique (corners_hull m hm) (hull_same (corners_hull l h) hlm)
theorem lf_unique {a b c : S31} (h1 : Lf a b c) (h2 : Lf a c b) : b = c := by
  have e := crs_swap a b c
  have n1 := h1.nn
  have n2 := h2.nn
  have o1 : onB a b c = true := by
    rcases h1 with h | h
    · omega
    · exact h
  have o2 : onB a c b = true := by
    rcases h2 with h | h
    · omega
    · exact h
  obtain ⟨_, x1, y1⟩ := (onB_iff' _ _ _).1 o1
  obtain ⟨_, x2, y2⟩ := (onB_iff' _ _ _).1 o2
  exact S31.ext' (by omega) (by omega)
theorem nxt_mod {i n : Nat} (h : i < n) : nxt i n = (i + 1) % n := by
  unfold nxt
  split
  · rename_i h1; rw [Nat.mod_eq_of_lt h1]
  · rw [show i + 1 = n by omega, Nat.mod_self]
theorem nxt_lt {i n : Nat} (h : 0 < n) : nxt i n < n := by unfold nxt; split <;> omega
theorem hull_inj {l H : List S31} (h : IsHull l H) : ∀ d i j, j + d = H.length → i < j → j < H.length → pt H i ≠ pt H j := by
  intro d
  induction d with
  | zero => intro i j h1 h2 h3; omega
  | succ d ih =>
    intro i j h1 h2 h3 e
    have l1 := h.ed i (by omega) _ (h.mem _ (nxt_lt (i := j) h.pos))
    have l2 := h.ed j h3 _ (h.mem _ (nxt_lt (i := i) h.pos))
    rw [← e] at l2
    have e2 := lf_unique l1 l2
    rw [show nxt i H.length = i + 1 by unfold nxt; rw [if_pos (by omega)]] at e2
    rcases Nat.lt_or_ge (j + 1) H.length with h4 | h4
    · rw [show nxt j H.length = j + 1 by unfold nxt; rw [if_pos h4]] at e2
      exact ih (i + 1) (j + 1) (by omega) (by omega) h4 e2
    · rw [show nxt j H.length = 0 by unfold nxt; rw [if_neg (by omega)]] at e2
      exact h.ne (i + 1) (by omega) (by omega) e2
theorem hull_ne {l H : List S31} (h : IsHull l H) {i j : Nat} (hi : i < H.length) (hj : j < H.length) (hij : i ≠ j) : pt H i ≠ pt H j := by
  rcases Nat.lt_or_ge i j with h1 | h1
  · exact hull_inj h (H.length - j) i j (by omega) h1 hj
  · exact fun e => hull_inj h (H.length - i) j i (by omega) (by omega) hi e.symm
theorem hull_left {l H : List S31} (h : IsHull l H) (h3 : 2 < H.length) (i : Nat) (hi : i < H.length) : 0 < crs (pt H i) (pt H (nxt i H.length)) (pt H (nxt (nxt i H.length) H.length)) := by
  have hb := nxt_lt (i := i) h.pos
  have hc := nxt_lt (i := nxt i H.length) h.pos
  have hac : pt H i ≠ pt H (nxt (nxt i H.length) H.length) := hull_ne h hi hc (by unfold nxt; split <;> split <;> omega)
  have l1 := h.ed i hi _ (h.mem _ hc)
  have l2 := h.ed _ hb _ (h.mem _ hi)
  generalize pt H (nxt (nxt i H.length) H.length) = c at *
  generalize pt H (nxt i H.length) = b at *
  generalize pt H i = a at *
  rcases l1 with l1 | l1
  · exact l1
  · exfalso
    obtain ⟨z, x1, y1⟩ := (onB_iff' _ _ _).1 l1
    have o2 : onB b c a = true := by
      rcases l2 with l2 | l2
      · rw [crs_rot] at l2; omega
      · exact l2
    obtain ⟨_, x2, y2⟩ := (onB_iff' _ _ _).1 o2
    exact hac (S31.ext' (by omega) (by omega))
/-- the value of a linear function at a point -/
def lin (u v : Int) (p : S31) : Int := u * p.f0 + v * p.f1
theorem lin_key (u v : Int) (a b c m : S31) : crs a b c * (lin u v m - lin u v b) = crs a b m * (lin u v c - lin u v b) + crs b c m * (lin u v a - lin u v b) := by
  unfold crs lin; grind
theorem lin_on (u v : Int) {a b r : S31} (h : onB a b r = true) : lin u v r ≤ lin u v a ∨ lin u v r ≤ lin u v b := by
  obtain ⟨hc, hx, hy⟩ := (onB_iff' _ _ _).1 h
  rcases Int.lt_or_le (lin u v a) (lin u v r) with h1 | h1
  · rcases Int.lt_or_le (lin u v b) (lin u v r) with h2 | h2
    · exfalso
      -- both ends are lower: the point cannot lie between them
      unfold lin at h1 h2
      unfold crs at hc
      have key1 : (u * (r.f0 - a.f0) + v * (r.f1 - a.f1)) * (b.f0 - r.f0) = (u * (b.f0 - r.f0) + v * (b.f1 - r.f1)) * (r.f0 - a.f0) := by grind
      have key2 : (u * (r.f0 - a.f0) + v * (r.f1 - a.f1)) * (b.f1 - r.f1) = (u * (b.f0 - r.f0) + v * (b.f1 - r.f1)) * (r.f1 - a.f1) := by grind
      have p1 : 0 < u * (r.f0 - a.f0) + v * (r.f1 - a.f1) := by grind
      have p2 : 0 < -(u * (b.f0 - r.f0) + v * (b.f1 - r.f1)) := by grind
      generalize hP : u * (r.f0 - a.f0) + v * (r.f1 - a.f1) = P at *
      generalize hQ : u * (b.f0 - r.f0) + v * (b.f1 - r.f1) = Q at *
      have zx : r.f0 = a.f0 ∧ b.f0 = r.f0 := by
        rcases hx with hx | hx
        · have n1 := nn_mul (a := P) (b := b.f0 - r.f0) (by omega) (by omega)
          have n2 := nn_mul (a := -Q) (b := r.f0 - a.f0) (by omega) (by omega)
          have n2' : 0 ≤ -(Q * (r.f0 - a.f0)) := by grind
          have z1 : P * (b.f0 - r.f0) = 0 := by omega
          have z2 : Q * (r.f0 - a.f0) = 0 := by omega
          rcases Int.mul_eq_zero.1 z1 with h | h <;> rcases Int.mul_eq_zero.1 z2 with h' | h' <;> omega
        · have n1 := nn_mul (a := P) (b := r.f0 - b.f0) (by omega) (by omega)
          have n2 := nn_mul (a := -Q) (b := a.f0 - r.f0) (by omega) (by omega)
          have n1' : 0 ≤ -(P * (b.f0 - r.f0)) := by grind
          have n2' : 0 ≤ Q * (r.f0 - a.f0) := by grind
          have z1 : P * (b.f0 - r.f0) = 0 := by omega
          have z2 : Q * (r.f0 - a.f0) = 0 := by omega
          rcases Int.mul_eq_zero.1 z1 with h | h <;> rcases Int.mul_eq_zero.1 z2 with h' | h' <;> omega
      have zy : r.f1 = a.f1 ∧ b.f1 = r.f1 := by
        rcases hy with hx | hx
        · have n1 := nn_mul (a := P) (b := b.f1 - r.f1) (by omega) (by omega)
          have n2 := nn_mul (a := -Q) (b := r.f1 - a.f1) (by omega) (by omega)
          have n2' : 0 ≤ -(Q * (r.f1 - a.f1)) := by grind
          have z1 : P * (b.f1 - r.f1) = 0 := by omega
          have z2 : Q * (r.f1 - a.f1) = 0 := by omega
          rcases Int.mul_eq_zero.1 z1 with h | h <;> rcases Int.mul_eq_zero.1 z2 with h' | h' <;> omega
        · have n1 := nn_mul (a := P) (b := r.f1 - b.f1) (by omega) (by omega)
          have n2 := nn_mul (a := -Q) (b := a.f1 - r.f1) (by omega) (by omega)
          have n1' : 0 ≤ -(P * (b.f1 - r.f1)) := by grind
          have n2' : 0 ≤ Q * (r.f1 - a.f1) := by grind
          have z1 : P * (b.f1 - r.f1) = 0 := by omega
          have z2 : Q * (r.f1 - a.f1) = 0 := by omega
          rcases Int.mul_eq_zero.1 z1 with h | h <;> rcases Int.mul_eq_zero.1 z2 with h' | h' <;> omega
      rw [zx.1, zy.1] at hP
      have : P = 0 := by rw [← hP]; grind
      omega
    · exact Or.inr h2
  · exact Or.inl h1
theorem max_at (f : S31 → Int) : ∀ (H : List S31), 0 < H.length → ∃ i, i < H.length ∧ ∀ j, j < H.length → f (pt H j) ≤ f (pt H i) := by
  intro H hH
  have key : ∀ n, 0 < n → ∃ i, i < n ∧ ∀ j, j < n → f (pt H j) ≤ f (pt H i) := by
    intro n
    induction n with
    | zero => intro h; omega
    | succ n ih =>
      intro _
      rcases Nat.eq_zero_or_pos n with rfl | hn
      · exact ⟨0, by omega, fun j hj => by obtain rfl : j = 0 := by omega
                                           exact Int.le_refl _⟩
      · obtain ⟨i, hi, hm⟩ := ih hn
        rcases Int.lt_or_le (f (pt H i)) (f (pt H n)) with h | h
        · refine ⟨n, by omega, fun j hj => ?_⟩
          rcases Nat.lt_or_ge j n with h1 | h1
          · have := hm j h1; omega
          · obtain rfl : j = n := by omega
            exact Int.le_refl _
        · refine ⟨i, by omega, fun j hj => ?_⟩
          rcases Nat.lt_or_ge j n with h1 | h1
          · exact hm j h1
          · obtain rfl : j = n := by omega
            exact h
  exact key H.length hH
/-- a linear function is greatest at a corner -/
theorem hull_max {l H : List S31} (h : IsHull l H) (u v : Int) : ∃ i, i < H.length ∧ ∀ p ∈ l, lin u v p ≤ lin u v (pt H i) := by
  obtain ⟨i, hi, hm⟩ := max_at (lin u v) H h.pos
  refine ⟨i, hi, fun p hp => ?_⟩
  by_cases h1 : H.length = 1
  · rw [h.one h1 p hp]; exact hm 0 (by omega)
  · by_cases h2 : H.length = 2
    · have he := h.ed 0 (by omega) p hp
      have he' := h.ed 1 (by omega) p hp
      rw [show nxt 0 H.length = 1 by unfold nxt; rw [if_pos (by omega)]] at he
      rw [show nxt 1 H.length = 0 by unfold nxt; rw [if_neg (by omega)]] at he'
      have n1 := he.nn
      have n2 := he'.nn
      have e : crs (pt H 1) (pt H 0) p = - crs (pt H 0) (pt H 1) p := by unfold crs; grind
      rcases he with h3 | h3
      · omega
      · rcases lin_on u v h3 with h4 | h4
        · have := hm 0 (by omega); omega
        · have := hm 1 (by omega); omega
    · -- the corner ahead of it
      obtain ⟨k, hk, hki⟩ : ∃ k, k < H.length ∧ nxt k H.length = i := by
        rcases Nat.eq_zero_or_pos i with rfl | h3
        · exact ⟨H.length - 1, by omega, by unfold nxt; rw [if_neg (by omega)]⟩
        · exact ⟨i - 1, by omega, by unfold nxt; rw [if_pos (by omega)]; omega⟩
      have ht := hull_left h (by omega) k hk
      have e1 := (h.ed k hk p hp).nn
      have e2 := (h.ed i hi p hp).nn
      rw [hki] at ht e1
      have f1 := hm k hk
      have f2 := hm _ (nxt_lt (i := i) h.pos)
      have key := lin_key u v (pt H k) (pt H i) (pt H (nxt i H.length)) p
      generalize pt H (nxt i H.length) = c at *
      generalize pt H i = b at *
      generalize pt H k = a at *
      rcases Int.lt_or_le (lin u v b) (lin u v p) with h4 | h4
      · exfalso
        have m1 := ps_mul (a := crs a b c) (b := lin u v p - lin u v b) ht (by omega)
        have m2 := nn_mul (a := crs a b p) (b := lin u v b - lin u v c) e1 (by omega)
        have m3 := nn_mul (a := crs b c p) (b := lin u v b - lin u v a) e2 (by omega)
        have m2' : crs a b p * (lin u v c - lin u v b) ≤ 0 := by grind
        have m3' : crs b c p * (lin u v a - lin u v b) ≤ 0 := by grind
        omega
      · exact h4
end Go.Proofs.Ythaklbjcjoolcaa.P
namespace Go.Proofs.Ythaklbjcjoolcaa.P
open Go.RowKit Go.Proofs.YthaklbjcjoolcaaW.PrintWords Go.Proofs.YthaklbjcjoolcaaW.PrintLast Go.Proofs.YthaklbjcjoolcaaW.PrintMore
set_option linter.unusedVariables false
set_option linter.unusedSimpArgs false
theorem hull_is {t : List S31} (hs : isSetB t = true) : plane_Hull.f t = some (cornersS t, 0) := by
  obtain ⟨⟨hs1, hs2⟩, hok⟩ := (isSetB_iff t).1 hs
  unfold plane_Hull.f plane_corners.f
  rw [isSet_is, hs, Option.bind_some, if_pos rfl, if_pos ⟨hs1, by omega, hok⟩]; rfl
theorem hull_no {t : List S31} (hs : isSetB t = false) : plane_Hull.f t = some ([], 2) := by
  unfold plane_Hull.f
  rw [isSet_is, hs]; rfl
theorem isSet_of {t : List S31} (h1 : 1 ≤ t.length) (h2 : t.length ≤ 512) (h3 : allOk t = true) : isSetB t = true := (isSetB_iff t).2 ⟨⟨h1, h2⟩, h3⟩
/-- the corners of a set are a set -/
theorem corners_set {t : List S31} (h1 : 1 ≤ t.length) (h2 : t.length ≤ 256) (h3 : allOk t = true) : isSetB (cornersS t) = true :=
  isSet_of (corners_hull t h1).pos (by have := cornersS_len t; omega) (cornersS_ok h3)
end Go.Proofs.Ythaklbjcjoolcaa.P
namespace Go.Proofs.Ythaklbjcjoolcaa.P
open Go.RowKit Go.Proofs.YthaklbjcjoolcaaW.PrintWords Go.Proofs.YthaklbjcjoolcaaW.PrintLast Go.Proofs.YthaklbjcjoolcaaW.PrintMore
set_option linter.unusedVariables false
set_option linter.unusedSimpArgs false
theorem mod41 (a : Int) : ∃ m : Nat, m < 41 ∧ silversidelaw01_mod.f a 41 = some (m : Int) := by
  have e1 : IntKind.u64.wrap (41 : Int) = 41 := by decide
  have h1 : 0 ≤ IntKind.u64.wrap a := by
    unfold IntKind.wrap
    simp only [IntKind.bits, IntKind.signed]
    exact Int.emod_nonneg _ (by decide)
  unfold silversidelaw01_mod.f
  rw [e1, if_neg (by omega)]
  generalize IntKind.u64.wrap a = x at *
  rw [Int.tmod_eq_emod_of_nonneg h1]
  have h2 := Int.emod_nonneg x (show (41 : Int) ≠ 0 by decide)
  have h3 := Int.emod_lt_of_pos x (show (0 : Int) < 41 by decide)
  exact ⟨(x % 41).toNat, by omega, by rw [w64i (by omega) (by omega)]; congr 1; omega⟩
theorem grid_is (p : S31) : ∃ q : S31, silversidelaw01_grid.f p.f0 p.f1 = some (q.f0, q.f1) ∧ okPt q = true ∧ (okPt p = true → q = p) := by
  unfold silversidelaw01_grid.f
  rw [valid_is, Option.bind_some]
  by_cases h : okPt p = true
  · rw [if_pos h]; exact ⟨p, rfl, h, fun _ => rfl⟩
  · rw [if_neg h]
    obtain ⟨m, hm, e⟩ := mod41 p.f0
    obtain ⟨n, hn, e'⟩ := mod41 p.f1
    rw [e, e']
    simp only [Option.bind_some]
    rw [w64i (by omega) (by omega), w64i (by omega) (by omega)]
    exact ⟨⟨(m : Int) - 20, (n : Int) - 20⟩, rfl, (okPt_iff _).2 ⟨by simp only; omega, by simp only; omega⟩, fun h' => absurd h' h⟩
theorem allOk_snoc {l : List S31} {p : S31} (h : allOk l = true) (hp : okPt p = true) : allOk (l ++ [p]) = true := by
  unfold allOk at *
  rw [List.all_append, h, List.all_cons, hp]; rfl
/-- a set made of any list -/
theorem gset_from (l : List S31) (m : Nat) (hm : m ≤ 512) (hm1 : 1 ≤ m) : ∀ (n i : Nat) (out : List S31), l.length - i = n → i ≤ l.length → out.length = i → i ≤ m → allOk out = true →
    ∃ t : List S31, Ev (fun k => silversidelaw01_set.l0 k l (m : Int) out (i : Int)) t ∧ 1 ≤ t.length ∧ t.length ≤ m ∧ allOk t = true := by
  have fin : ∀ (i : Nat) (out : List S31), out.length = i → i ≤ m → allOk out = true → ∃ t : List S31, Ev (fun _ => if (out.length : Int) = 0 then (if out.length < 8796093022208 then (some (out ++ [(⟨0, 0⟩ : S31)])) else (none)) else (some out)) t ∧ 1 ≤ t.length ∧ t.length ≤ m ∧ allOk t = true := by
    intro i out h1 h2 h3
    by_cases h0 : out.length = 0
    · refine ⟨_, ev_pos (by omega) (ev_pos (by omega) (Ev.now _)), by simp, by simp only [List.length_append, List.length_singleton]; omega, allOk_snoc h3 (by decide)⟩
    · exact ⟨out, ev_neg (by omega) (Ev.now _), by omega, by omega, h3⟩
  intro n
  induction n with
  | zero =>
    intro i out hn hi ho him hok
    obtain ⟨t, ht, h1, h2, h3⟩ := fin i out ho him hok
    refine ⟨t, Ev.step (fun k => ?_) ht, h1, h2, h3⟩
    unfold silversidelaw01_set.l0
    rw [if_neg (by omega)]
  | succ n ih =>
    intro i out hn hi ho him hok
    have hlt : i < l.length := by omega
    by_cases h1 : i < m
    · obtain ⟨q, hq, hqo, _⟩ := grid_is l[i]
      obtain ⟨t, ht, h2, h3, h4⟩ := ih (i + 1) (out ++ [q]) (by omega) (by omega) (by rw [List.length_append, List.length_singleton, ho]) (by omega) (allOk_snoc hok hqo)
      refine ⟨t, Ev.step (fun k => ?_) ht, h2, h3, h4⟩
      conv => lhs; unfold silversidelaw01_set.l0
      rw [if_pos (by omega), if_pos (by omega), if_pos (by omega), rd_at l i hlt, hq, Option.bind_some, if_pos (by omega), w64i (x := (i : Int) + 1) (by omega) (by omega)]
      rfl
    · obtain ⟨t, ht, h2, h3, h4⟩ := fin i out ho him hok
      refine ⟨t, Ev.step (fun k => ?_) ht, h2, h3, h4⟩
      conv => lhs; unfold silversidelaw01_set.l0
      rw [if_pos (by omega), if_neg (by omega)]
theorem gset_ev (l : List S31) (m : Nat) (hm : m ≤ 512) (hm1 : 1 ≤ m) : ∃ t : List S31, Ev (fun k => silversidelaw01_set.f k l (m : Int)) t ∧ 1 ≤ t.length ∧ t.length ≤ m ∧ allOk t = true :=
  gset_from l m hm hm1 (l.length - 0) 0 [] rfl (by omega) rfl (by omega) rfl
end Go.Proofs.Ythaklbjcjoolcaa.P
namespace Go.Proofs.Ythaklbjcjoolcaa.P
open Go.RowKit Go.Proofs.YthaklbjcjoolcaaW.PrintWords Go.Proofs.YthaklbjcjoolcaaW.PrintLast Go.Proofs.YthaklbjcjoolcaaW.PrintMore
set_option linter.unusedVariables false
set_option linter.unusedSimpArgs false
theorem onB_crs {a b p : S31} (h : onB a b p = true) : crs a b p = 0 := by
  unfold onB at h
  simp only [Bool.and_eq_true, decide_eq_true_eq] at h
  exact h.1
theorem has_is {a b p : S31} (ha : okPt a = true) (hb : okPt b = true) (hp : okPt p = true) : plane_segment_has.f a.f0 a.f1 b.f0 b.f1 p.f0 p.f1 = some (onB a b p) := by
  unfold plane_segment_has.f onB
  rw [turn_is ha hb hp, Option.bind_some, within_is, within_is]
  simp only [Option.bind_some]
  by_cases h : crs a b p = 0
  · rw [if_pos (sgn_zero.2 h), h]
    by_cases h2 : mn a.f0 b.f0 ≤ p.f0 ∧ p.f0 ≤ mx a.f0 b.f0
    · rw [if_pos (decide_eq_true h2)]; simp [h2.1, h2.2]
    · rw [if_neg (by simpa using h2)]
      by_cases h3 : mn a.f0 b.f0 ≤ p.f0
      · have h4 : ¬ p.f0 ≤ mx a.f0 b.f0 := fun h4 => h2 ⟨h3, h4⟩
        simp [h4]
      · simp [h3]
  · rw [if_neg (fun h' => h (sgn_zero.1 h'))]; simp [h]
/-- two segments have a point in common -/
def meetB (a b c d : S31) : Bool := onB a b c || (onB a b d || (onB c d a || (onB c d b || (decide (sgn (crs a b c) * sgn (crs a b d) < 0) && decide (sgn (crs c d a) * sgn (crs c d b) < 0)))))
theorem w64_sgn (x y : Int) : wrap64 (sgn x * sgn y) = sgn x * sgn y := by
  have h := mul_bd (m := 1) (n := 1) (sgn_bd x) (sgn_bd y)
  exact w64i (by omega) (by omega)
theorem meets_is {a b c d : S31} (ha : okPt a = true) (hb : okPt b = true) (hc : okPt c = true) (hd : okPt d = true) (k : Nat) : plane_segment_meets.f (k + 1) a.f0 a.f1 b.f0 b.f1 c.f0 c.f1 d.f0 d.f1 = some (meetB a b c d) := by
  have hj : ∀ x : Bool, plane_segment_meets.j0 (k + 1) x a.f0 a.f1 b.f0 b.f1 c.f0 c.f1 d.f0 d.f1 = some (x || (decide (sgn (crs a b c) * sgn (crs a b d) < 0) && decide (sgn (crs c d a) * sgn (crs c d b) < 0))) := by
    intro x
    rw [plane_segment_meets.j0, turn_is ha hb hc, turn_is ha hb hd, turn_is hc hd ha, turn_is hc hd hb]
    simp only [Option.bind_some, w64_sgn]
    cases x
    · by_cases h : sgn (crs a b c) * sgn (crs a b d) < 0
      · simp [h]
      · simp [h]
    · rfl
  unfold plane_segment_meets.f meetB
  simp only [hj]
  rw [has_is ha hb hc, has_is ha hb hd, has_is hc hd ha, has_is hc hd hb]
  simp only [Option.bind_some]
  cases onB a b c <;> cases onB a b d <;> cases onB c d a <;> cases onB c d b <;> rfl
end Go.Proofs.Ythaklbjcjoolcaa.P
namespace Go.Proofs.Ythaklbjcjoolcaa.P
open Go.RowKit Go.Shelf Go.Sort Go.Proofs.YthaklbjcjoolcaaW.PrintWords Go.Proofs.YthaklbjcjoolcaaW.PrintLast Go.Proofs.YthaklbjcjoolcaaW.PrintMore
set_option linter.unusedVariables false
set_option linter.unusedSimpArgs false
structure Fm where
 a : Int
 b : Int
 c : Int
def Fm.v (g : Fm) (X Y D : Int) : Int := g.a * X + g.b * Y + g.c * D
def fmE (a b : S31) : Fm := ⟨-(b.f1 - a.f1), b.f0 - a.f0, (b.f1 - a.f1) * a.f0 - (b.f0 - a.f0) * a.f1⟩
def sd (a b : S31) (X Y D : Int) : Int := (b.f0 - a.f0) * (Y - a.f1 * D) - (b.f1 - a.f1) * (X - a.f0 * D)
theorem fmE_v (a b : S31) (X Y D : Int) : (fmE a b).v X Y D = sd a b X Y D := by unfold fmE Fm.v sd; grind
theorem sd_crs (a b p : S31) : sd a b p.f0 p.f1 1 = crs a b p := by unfold sd crs; grind
def fmB (a b : S31) : List Fm := [⟨1, 0, -mn a.f0 b.f0⟩, ⟨-1, 0, mx a.f0 b.f0⟩, ⟨0, 1, -mn a.f1 b.f1⟩, ⟨0, -1, mx a.f1 b.f1⟩]
def fms (H : List S31) : List Fm := (List.range H.length).map (fun i => fmE (pt H i) (pt H (nxt i H.length))) ++ (if H.length < 3 then fmB (pt H 0) (pt H (H.length - 1)) else [])
def InH (H : List S31) (X Y D : Int) : Prop := 0 < D ∧ ∀ g ∈ fms H, 0 ≤ g.v X Y D
theorem Fm.v_lin (g : Fm) (l m X Y D X' Y' D' : Int) : g.v (l * X + m * X') (l * Y + m * Y') (l * D + m * D') = l * g.v X Y D + m * g.v X' Y' D' := by unfold Fm.v; grind
theorem InH.comb {H : List S31} {l m X Y D X' Y' D' : Int} (hl : 0 ≤ l) (hm : 0 ≤ m) (hD : 0 < l * D + m * D') (h : InH H X Y D) (h' : InH H X' Y' D') : InH H (l * X + m * X') (l * Y + m * Y') (l * D + m * D') :=
 ⟨hD, fun g hg => by rw [Fm.v_lin]; have := nn_mul hl (h.2 g hg); have := nn_mul hm (h'.2 g hg); omega⟩
theorem fm_edge {H : List S31} {i : Nat} (hi : i < H.length) : fmE (pt H i) (pt H (nxt i H.length)) ∈ fms H :=
 List.mem_append_left _ (List.mem_map.2 ⟨i, List.mem_range.2 hi, rfl⟩)
theorem mn_le (a b : Int) : mn a b ≤ a ∧ mn a b ≤ b := by unfold mn; split <;> omega
theorem le_mx (a b : Int) : a ≤ mx a b ∧ b ≤ mx a b := by unfold mx; split <;> omega
theorem fmB_v {a b : S31} {X Y D : Int} : (∀ g ∈ fmB a b, 0 ≤ g.v X Y D) ↔ (mn a.f0 b.f0 * D ≤ X ∧ X ≤ mx a.f0 b.f0 * D) ∧ (mn a.f1 b.f1 * D ≤ Y ∧ Y ≤ mx a.f1 b.f1 * D) := by
 unfold fmB Fm.v
 simp only [List.mem_cons, List.not_mem_nil, or_false, forall_eq_or_imp, forall_eq]
 constructor
 ·rintro ⟨h1, h2, h3, h4⟩
  refine ⟨⟨by grind, by grind⟩, by grind, by grind⟩
 ·rintro ⟨⟨h1, h2⟩, h3, h4⟩
  refine ⟨by grind, by grind, by grind, by grind⟩
theorem hull_two {l H : List S31} (h : IsHull l H) (h3 : H.length < 3) {p : S31} (hp : p ∈ l) : onB (pt H 0) (pt H (H.length - 1)) p = true := by
 by_cases h1 : H.length = 1
 ·rw [h1, h.one h1 p hp]; exact onB_self _
 ·have h2 : H.length = 2 := by have := h.pos; omega
  have e0 := h.ed 0 (by omega) p hp
  have e1 := h.ed 1 (by omega) p hp
  rw [show nxt 0 H.length = 1 by unfold nxt; rw [if_pos (by omega)]] at e0
  rw [show nxt 1 H.length = 0 by unfold nxt; rw [if_neg (by omega)]] at e1
  rw [h2]
  have n0 := e0.nn
  have n1 := e1.nn
  have e : crs (pt H 1) (pt H 0) p = - crs (pt H 0) (pt H 1) p := by unfold crs; grind
  rcases e0 with e0 | e0
  ·omega
  ·exact e0
theorem hull_in {l H : List S31} (h : IsHull l H) {p : S31} (hp : p ∈ l) : InH H p.f0 p.f1 1 := by
 refine ⟨by omega, fun g hg => ?_⟩
 unfold fms at hg
 rw [List.mem_append] at hg
 rcases hg with hg | hg
 ·obtain ⟨i, hi, rfl⟩ := List.mem_map.1 hg
  rw [fmE_v, sd_crs]
  exact (h.ed i (List.mem_range.1 hi) p hp).nn
 ·split at hg
  ·rename_i h3
   have := (onB_iff _ _ _).1 (hull_two h h3 hp)
   refine (fmB_v (X := p.f0) (Y := p.f1) (D := 1)).2 ?_ g hg
   simp only [Int.mul_one]; exact this.2
  ·simp at hg
def OnS (a b : S31) (X Y D : Int) : Prop := ∃ s t, 0 ≤ s ∧ 0 ≤ t ∧ 0 < s + t ∧ (s + t) * X = D * (s * a.f0 + t * b.f0) ∧ (s + t) * Y = D * (s * a.f1 + t * b.f1)
theorem OnS.swap {a b : S31} {X Y D : Int} (h : OnS a b X Y D) : OnS b a X Y D := by
 obtain ⟨s, t, h1, h2, h3, h4, h5⟩ := h
 exact ⟨t, s, h2, h1, by omega, by grind, by grind⟩
theorem on_box {a b : S31} {X Y D : Int} (hD : 0 < D) (hs : sd a b X Y D = 0) (hx : mn a.f0 b.f0 * D ≤ X ∧ X ≤ mx a.f0 b.f0 * D) (hy : mn a.f1 b.f1 * D ≤ Y ∧ Y ≤ mx a.f1 b.f1 * D) : OnS a b X Y D := by
 unfold sd at hs
 unfold mn mx at hx hy
 rcases Int.lt_trichotomy a.f0 b.f0 with h | h | h
 ·rw [if_neg (by omega), if_pos h] at hx
  refine ⟨b.f0 * D - X, X - a.f0 * D, by omega, by omega, ?_, by grind, by grind⟩
  have := ps_mul (a := b.f0 - a.f0) (b := D) (by omega) hD
  grind
 ·rw [if_neg (by omega), if_neg (by omega)] at hx
  have hX : X = a.f0 * D := by omega
  rcases Int.lt_trichotomy a.f1 b.f1 with h' | h' | h'
  ·rw [if_neg (by omega), if_pos h'] at hy
   refine ⟨b.f1 * D - Y, Y - a.f1 * D, by omega, by omega, ?_, by grind, by grind⟩
   have := ps_mul (a := b.f1 - a.f1) (b := D) (by omega) hD
   grind
  ·rw [if_neg (by omega), if_neg (by omega)] at hy
   exact ⟨1, 0, by omega, by omega, by omega, by grind, by grind⟩
  ·rw [if_pos h', if_neg (by omega)] at hy
   refine ⟨Y - b.f1 * D, a.f1 * D - Y, by omega, by omega, ?_, by grind, by grind⟩
   have := ps_mul (a := a.f1 - b.f1) (b := D) (by omega) hD
   grind
 ·rw [if_pos h, if_neg (by omega)] at hx
  refine ⟨X - b.f0 * D, a.f0 * D - X, by omega, by omega, ?_, by grind, by grind⟩
  have := ps_mul (a := a.f0 - b.f0) (b := D) (by omega) hD
  grind
theorem nxt_prev {n i : Nat} (hn : 0 < n) (hi : i < n) : ∃ k, k < n ∧ nxt k n = i := by
 rcases Nat.eq_zero_or_pos i with rfl | h3
 ·exact ⟨n - 1, by omega, by unfold nxt; rw [if_neg (by omega)]⟩
 ·exact ⟨i - 1, by omega, by unfold nxt; rw [if_pos (by omega)]; omega⟩
theorem on_edge {H : List S31} (h : IsHull H H) {X Y D : Int} (hin : InH H X Y D) {g : Fm} (hg : g ∈ fms H) (h0 : g.v X Y D = 0) : ∃ i, i < H.length ∧ OnS (pt H i) (pt H (nxt i H.length)) X Y D := by
 by_cases h3 : H.length < 3
 ·have hbox := (fmB_v (a := pt H 0) (b := pt H (H.length - 1)) (X := X) (Y := Y) (D := D)).1 (fun g hg => hin.2 g (List.mem_append_right _ (by rw [if_pos h3]; exact hg)))
  by_cases h1 : H.length = 1
  ·refine ⟨0, by omega, ?_⟩
   rw [show nxt 0 H.length = 0 by unfold nxt; rw [if_neg (by omega)]]
   rw [h1] at hbox
   exact on_box hin.1 (by unfold sd; grind) hbox.1 hbox.2
  ·have h2 : H.length = 2 := by have := h.pos; omega
   refine ⟨0, by omega, ?_⟩
   have e0 := hin.2 _ (fm_edge (H := H) (i := 0) (by omega))
   have e1 := hin.2 _ (fm_edge (H := H) (i := 1) (by omega))
   rw [show nxt 0 H.length = 1 by unfold nxt; rw [if_pos (by omega)], fmE_v] at e0
   rw [show nxt 1 H.length = 0 by unfold nxt; rw [if_neg (by omega)], fmE_v] at e1
   rw [show nxt 0 H.length = 1 by unfold nxt; rw [if_pos (by omega)]]
   rw [h2] at hbox
   have e : sd (pt H 1) (pt H 0) X Y D = - sd (pt H 0) (pt H 1) X Y D := by unfold sd; grind
   exact on_box hin.1 (by omega) hbox.1 hbox.2
 ·unfold fms at hg
  rw [if_neg h3, List.append_nil] at hg
  obtain ⟨i, hi, rfl⟩ := List.mem_map.1 hg
  have hi := List.mem_range.1 hi
  refine ⟨i, hi, ?_⟩
  obtain ⟨k, hk, hki⟩ := nxt_prev h.pos hi
  have t1 := hull_left h (by omega) k hk
  have t2 := hull_left h (by omega) i hi
  have s1 := hin.2 _ (fm_edge hk)
  have s2 := hin.2 _ (fm_edge (nxt_lt (i := i) h.pos))
  rw [hki] at t1 s1
  rw [fmE_v] at s1 s2 h0
  have hD := hin.1
  have hne : pt H i ≠ pt H (nxt i H.length) := hull_ne h hi (nxt_lt h.pos) (by unfold nxt; split <;> omega)
  generalize pt H (nxt (nxt i H.length) H.length) = m at *
  generalize pt H (nxt i H.length) = b at *
  generalize pt H i = a at *
  generalize pt H k = k at *
  have kx : crs k a b * (X - a.f0 * D) = sd k a X Y D * (b.f0 - a.f0) := by
   have : crs k a b * (X - a.f0 * D) = sd k a X Y D * (b.f0 - a.f0) - sd a b X Y D * (a.f0 - k.f0) := by unfold crs sd; grind
   rw [this, h0]; grind
  have ky : crs k a b * (Y - a.f1 * D) = sd k a X Y D * (b.f1 - a.f1) := by
   have : crs k a b * (Y - a.f1 * D) = sd k a X Y D * (b.f1 - a.f1) - sd a b X Y D * (a.f1 - k.f1) := by unfold crs sd; grind
   rw [this, h0]; grind
  have mx' : crs a b m * (b.f0 * D - X) = sd b m X Y D * (b.f0 - a.f0) := by
   have : crs a b m * (b.f0 * D - X) = sd b m X Y D * (b.f0 - a.f0) - sd a b X Y D * (m.f0 - b.f0) := by unfold crs sd; grind
   rw [this, h0]; grind
  have my' : crs a b m * (b.f1 * D - Y) = sd b m X Y D * (b.f1 - a.f1) := by
   have : crs a b m * (b.f1 * D - Y) = sd b m X Y D * (b.f1 - a.f1) - sd a b X Y D * (m.f1 - b.f1) := by unfold crs sd; grind
   rw [this, h0]; grind
  generalize crs k a b = C at *
  generalize crs a b m = C' at *
  generalize sd k a X Y D = T at *
  generalize sd b m X Y D = S at *
  clear h0
  have hS : 0 ≤ C * D - T := by
   have px : (C' * (C * D - T)) * (b.f0 - a.f0) = (C * S) * (b.f0 - a.f0) := by grind
   have py : (C' * (C * D - T)) * (b.f1 - a.f1) = (C * S) * (b.f1 - a.f1) := by grind
   have hcs := nn_mul (Int.le_of_lt t1) s2
   have hab : b.f0 - a.f0 ≠ 0 ∨ b.f1 - a.f1 ≠ 0 := by
    by_cases h0 : a.f0 = b.f0
    ·right; intro h1; exact hne (S31.ext' h0 (by omega))
    ·left; omega
   have e : C' * (C * D - T) = C * S := by
    rcases hab with hab | hab
    ·exact Int.eq_of_mul_eq_mul_right hab px
    ·exact Int.eq_of_mul_eq_mul_right hab py
   exact nn_of t2 (by omega)
  have hCD := ps_mul t1 hD
  refine ⟨C * D - T, T, hS, s1, by omega, by grind, by grind⟩
theorem min_ratio (vz vp : Fm → Int) : ∀ (L : List Fm), (∀ g ∈ L, 0 ≤ vz g) → (∃ g ∈ L, vp g < 0) → ∃ g ∈ L, vp g < 0 ∧ ∀ k ∈ L, 0 ≤ -vp g * vz k + vz g * vp k
 | [], _, h => by obtain ⟨g, hg, _⟩ := h; simp at hg
 | x :: L, hz, h => by
  have hzx := hz x (by simp)
  by_cases hL : ∃ g ∈ L, vp g < 0
  ·obtain ⟨g, hg, hg1, hg2⟩ := min_ratio vz vp L (fun g hg => hz g (by simp [hg])) hL
   have hzg := hz g (by simp [hg])
   rcases Int.lt_or_le (-vp g * vz x + vz g * vp x) 0 with h1 | h1
   ·have hx : vp x < 0 := by
     rcases Int.lt_or_le (vp x) 0 with h2 | h2
     ·exact h2
     ·have := nn_mul hzg h2; have := nn_mul (a := -vp g) (b := vz x) (by omega) hzx; omega
    refine ⟨x, by simp, hx, fun k hk => ?_⟩
    rw [List.mem_cons] at hk
    rcases hk with rfl | hk
    ·have : -vp k * vz k + vz k * vp k = 0 := by grind
     omega
    ·have hzk := hz k (by simp [hk])
     have hk2 := hg2 k hk
     rcases Int.lt_or_le (vp k) 0 with h2 | h2
     ·refine nn_of (b := -vp g) (by omega) ?_
      have m1 := nn_mul (a := -vp x) (b := -vp g * vz k + vz g * vp k) (by omega) hk2
      have m2 := nn_mul (a := -vp k) (b := -(-vp g * vz x + vz g * vp x)) (by omega) (by omega)
      grind
     ·have := nn_mul hzx h2; have := nn_mul (a := -vp x) (b := vz k) (by omega) hzk; omega
   ·refine ⟨g, by simp [hg], hg1, fun k hk => ?_⟩
    rw [List.mem_cons] at hk
    rcases hk with rfl | hk
    ·exact h1
    ·exact hg2 k hk
  ·obtain ⟨g, hg, hg1⟩ := h
   rw [List.mem_cons] at hg
   have hgx : g = x := by
    rcases hg with hg | hg
    ·exact hg
    ·exact absurd ⟨g, hg, hg1⟩ hL
   subst hgx
   refine ⟨g, by simp, hg1, fun k hk => ?_⟩
   rw [List.mem_cons] at hk
   rcases hk with rfl | hk
   ·have : -vp k * vz k + vz k * vp k = 0 := by grind
    omega
   ·have hzk := hz k (by simp [hk])
    have h2 : 0 ≤ vp k := by
     rcases Int.lt_or_le (vp k) 0 with h2 | h2
     ·exact absurd ⟨k, hk, h2⟩ hL
     ·exact h2
    have := nn_mul hzx h2; have := nn_mul (a := -vp g) (b := vz k) (by omega) hzk; omega
theorem clip {P Q : List S31} {X Y D : Int} {p : S31} (hP : InH P X Y D) (hQ : InH Q X Y D) (hp : InH P p.f0 p.f1 1) (hq : ¬ InH Q p.f0 p.f1 1) :
  ∃ l m, 0 < l ∧ 0 ≤ m ∧ InH P (l * X + m * p.f0) (l * Y + m * p.f1) (l * D + m * 1) ∧ InH Q (l * X + m * p.f0) (l * Y + m * p.f1) (l * D + m * 1) ∧ ∃ g ∈ fms Q, g.v (l * X + m * p.f0) (l * Y + m * p.f1) (l * D + m * 1) = 0 := by
 have hex : ∃ g ∈ fms Q, g.v p.f0 p.f1 1 < 0 := by
  rcases Classical.em (∃ g ∈ fms Q, g.v p.f0 p.f1 1 < 0) with h | h
  ·exact h
  ·refine absurd ⟨by omega, fun g hg => ?_⟩ hq
   rcases Int.lt_or_le (g.v p.f0 p.f1 1) 0 with h2 | h2
   ·exact absurd ⟨g, hg, h2⟩ h
   ·exact h2
 obtain ⟨g, hg, hg1, hg2⟩ := min_ratio (fun g => g.v X Y D) (fun g => g.v p.f0 p.f1 1) (fms Q) hQ.2 hex
 have hzg := hQ.2 g hg
 have hl : 0 < -g.v p.f0 p.f1 1 := by omega
 have hD := ps_mul hl hP.1
 refine ⟨-g.v p.f0 p.f1 1, g.v X Y D, hl, hzg, InH.comb (by omega) hzg (by omega) hP hp, ⟨by omega, fun k hk => by rw [Fm.v_lin]; exact hg2 k hk⟩, g, hg, ?_⟩
 rw [Fm.v_lin]; grind
theorem OnS.comb {c d : S31} {X Y D l m : Int} (h : OnS c d X Y D) (hl : 0 < l) (hm : 0 ≤ m) (hD : 0 < D) : OnS c d (l * X + m * c.f0) (l * Y + m * c.f1) (l * D + m * 1) := by
 obtain ⟨s, t, h1, h2, h3, h4, h5⟩ := h
 have hlD := ps_mul hl hD
 have n1 := nn_mul (Int.le_of_lt hlD) h1
 have n2 := nn_mul (Int.le_of_lt h3) hm
 have n3 := nn_mul (Int.le_of_lt hlD) h2
 have n4 := ps_mul (a := s + t) (b := l * D + m) h3 (by omega)
 refine ⟨l * D * s + (s + t) * m, l * D * t, by omega, n3, by grind, by grind, by grind⟩
theorem OnS.inH {P : List S31} (h : IsHull P P) {a b : S31} (ha : a ∈ P) (hb : b ∈ P) {X Y D : Int} (hD : 0 < D) (ho : OnS a b X Y D) : InH P X Y D := by
 obtain ⟨s, t, h1, h2, h3, h4, h5⟩ := ho
 refine ⟨hD, fun g hg => ?_⟩
 have ga := (hull_in h ha).2 g hg
 have gb := (hull_in h hb).2 g hg
 refine nn_of h3 ?_
 have e : (s + t) * g.v X Y D = D * (s * g.v a.f0 a.f1 1 + t * g.v b.f0 b.f1 1) := by unfold Fm.v; grind
 rw [e]
 have := nn_mul h1 ga
 have := nn_mul h2 gb
 exact nn_mul (Int.le_of_lt hD) (by omega)
theorem on_onB {a b p : S31} (h : OnS a b p.f0 p.f1 1) : onB a b p = true := by
 obtain ⟨s, t, h1, h2, h3, h4, h5⟩ := h
 rw [onB_iff']
 have btw : ∀ x u v : Int, (s + t) * x = 1 * (s * u + t * v) → (u ≤ x ∧ x ≤ v ∨ v ≤ x ∧ x ≤ u) := by
  intro x u v e
  rcases Int.le_total u v with h | h
  ·left
   have m1 := nn_mul (a := t) (b := v - u) h2 (by omega)
   have m2 := nn_mul (a := s) (b := v - u) h1 (by omega)
   have e1 := nn_of (b := s + t) (t := x - u) h3 (by grind)
   have e2 := nn_of (b := s + t) (t := v - x) h3 (by grind)
   omega
  ·right
   have m1 := nn_mul (a := t) (b := u - v) h2 (by omega)
   have m2 := nn_mul (a := s) (b := u - v) h1 (by omega)
   have e1 := nn_of (b := s + t) (t := u - x) h3 (by grind)
   have e2 := nn_of (b := s + t) (t := x - v) h3 (by grind)
   omega
 refine ⟨?_, btw _ _ _ h4, btw _ _ _ h5⟩
 have : (s + t) * crs a b p = 0 := by unfold crs; grind
 rcases Int.mul_eq_zero.1 this with h | h
 ·omega
 ·exact h
theorem on_sd {a b : S31} {X Y D : Int} (h : OnS a b X Y D) : sd a b X Y D = 0 := by
 obtain ⟨s, t, h1, h2, h3, h4, h5⟩ := h
 have : (s + t) * sd a b X Y D = 0 := by unfold sd; grind
 rcases Int.mul_eq_zero.1 this with h | h
 ·omega
 ·exact h
def par (a b c d : S31) : Int := (b.f0 - a.f0) * (d.f1 - c.f1) - (b.f1 - a.f1) * (d.f0 - c.f0)
theorem par_crs (a b c d : S31) : par a b c d = crs a b d - crs a b c := by unfold par crs; grind
theorem on_side {a b c d : S31} {X Y D s t : Int} (hD : 0 < D) (h : OnS a b X Y D) (h4 : (s + t) * X = D * (s * c.f0 + t * d.f0)) (h5 : (s + t) * Y = D * (s * c.f1 + t * d.f1)) : s * crs a b c + t * crs a b d = 0 := by
 have h0 := on_sd h
 have e : (s + t) * sd a b X Y D = D * (s * crs a b c + t * crs a b d) := by unfold sd crs; grind
 rw [h0, Int.mul_zero] at e
 rcases Int.mul_eq_zero.1 e.symm with h | h
 ·omega
 ·exact h
theorem on_one {c d : S31} {X Y D : Int} (hD : 0 < D) {x : S31} (hx : X = D * x.f0) (hy : Y = D * x.f1) (h : OnS c d X Y D) : OnS c d x.f0 x.f1 1 := by
 obtain ⟨s, t, h1, h2, h3, h4, h5⟩ := h
 refine ⟨s, t, h1, h2, h3, ?_, ?_⟩
 ·have : D * ((s + t) * x.f0) = D * (1 * (s * c.f0 + t * d.f0)) := by grind
  exact Int.eq_of_mul_eq_mul_left (by omega) this
 ·have : D * ((s + t) * x.f1) = D * (1 * (s * c.f1 + t * d.f1)) := by grind
  exact Int.eq_of_mul_eq_mul_left (by omega) this
theorem sides_opp {a b c d : S31} {X Y D : Int} (hD : 0 < D) (h : OnS a b X Y D) (h' : OnS c d X Y D) (hp : par a b c d ≠ 0) : onB a b c = true ∨ onB a b d = true ∨ sgn (crs a b c) * sgn (crs a b d) < 0 := by
 obtain ⟨s, t, h1, h2, h3, h4, h5⟩ := h'
 have hz := on_side hD h h4 h5
 rw [par_crs] at hp
 by_cases hs : s = 0
 ·subst hs
  right; left
  refine on_onB (on_one hD ?_ ?_ h)
  ·have : t * X = t * (D * d.f0) := by grind
   exact Int.eq_of_mul_eq_mul_left (by omega) this
  ·have : t * Y = t * (D * d.f1) := by grind
   exact Int.eq_of_mul_eq_mul_left (by omega) this
 ·by_cases ht : t = 0
  ·subst ht
   left
   refine on_onB (on_one hD ?_ ?_ h)
   ·have : s * X = s * (D * c.f0) := by grind
    exact Int.eq_of_mul_eq_mul_left (by omega) this
   ·have : s * Y = s * (D * c.f1) := by grind
    exact Int.eq_of_mul_eq_mul_left (by omega) this
  ·right; right
   generalize crs a b c = C at *
   generalize crs a b d = E at *
   rcases Int.lt_trichotomy C 0 with hC | hC | hC
   ·have m := ps_mul (a := s) (b := -C) (by omega) (by omega)
    have hE : 0 < E := pos_of (b := t) (by omega) (by grind)
    have a1 := sgn_neg.2 hC
    have a2 := sgn_pos.2 hE
    have := ps_mul (a := -sgn C) (b := sgn E) (by omega) a2
    grind
   ·subst hC
    have : t * E = 0 := by omega
    rcases Int.mul_eq_zero.1 this with h | h <;> omega
   ·have m := ps_mul (a := s) (b := C) (by omega) (by omega)
    have hE : 0 < -E := pos_of (b := t) (by omega) (by grind)
    have a1 := sgn_pos.2 hC
    have a2 := sgn_neg.2 (show E < 0 by omega)
    have := ps_mul (a := sgn C) (b := -sgn E) a1 (by omega)
    grind
theorem par_swap (a b c d : S31) : par c d a b = - par a b c d := by unfold par; grind
theorem meet_of {a b c d : S31} {X Y D : Int} (hD : 0 < D) (h : OnS a b X Y D) (h' : OnS c d X Y D) (hp : par a b c d ≠ 0) : meetB a b c d = true := by
 have s1 := sides_opp hD h h' hp
 have s2 := sides_opp hD h' h (by rw [par_swap]; omega)
 unfold meetB
 simp only [Bool.or_eq_true, Bool.and_eq_true, decide_eq_true_eq]
 rcases s1 with s1 | s1 | s1
 ·exact Or.inl s1
 ·exact Or.inr (Or.inl s1)
 ·rcases s2 with s2 | s2 | s2
  ·exact Or.inr (Or.inr (Or.inl s2))
  ·exact Or.inr (Or.inr (Or.inr (Or.inl s2)))
  ·exact Or.inr (Or.inr (Or.inr (Or.inr ⟨s1, s2⟩)))
theorem line_x {a b p : S31} (hp : crs a b p = 0) : ((b.f0 - a.f0) * (b.f0 - a.f0) + (b.f1 - a.f1) * (b.f1 - a.f1)) * (p.f0 - a.f0) = ((b.f0 - a.f0) * (p.f0 - a.f0) + (b.f1 - a.f1) * (p.f1 - a.f1)) * (b.f0 - a.f0) := by
 have : ((b.f0 - a.f0) * (b.f0 - a.f0) + (b.f1 - a.f1) * (b.f1 - a.f1)) * (p.f0 - a.f0) = ((b.f0 - a.f0) * (p.f0 - a.f0) + (b.f1 - a.f1) * (p.f1 - a.f1)) * (b.f0 - a.f0) - (b.f1 - a.f1) * crs a b p := by unfold crs; grind
 rw [this, hp]; omega
theorem line_y {a b p : S31} (hp : crs a b p = 0) : ((b.f0 - a.f0) * (b.f0 - a.f0) + (b.f1 - a.f1) * (b.f1 - a.f1)) * (p.f1 - a.f1) = ((b.f0 - a.f0) * (p.f0 - a.f0) + (b.f1 - a.f1) * (p.f1 - a.f1)) * (b.f1 - a.f1) := by
 have : ((b.f0 - a.f0) * (b.f0 - a.f0) + (b.f1 - a.f1) * (b.f1 - a.f1)) * (p.f1 - a.f1) = ((b.f0 - a.f0) * (p.f0 - a.f0) + (b.f1 - a.f1) * (p.f1 - a.f1)) * (b.f1 - a.f1) + (b.f0 - a.f0) * crs a b p := by unfold crs; grind
 rw [this, hp]; omega
theorem zF_of {s t X Y D ax ay bx b_y : Int} (k4 : (s + t) * X = D * (s * ax + t * bx)) (k5 : (s + t) * Y = D * (s * ay + t * b_y)) :
  (s + t) * ((bx - ax) * (X - ax * D) + (b_y - ay) * (Y - ay * D)) = D * t * ((bx - ax) * (bx - ax) + (b_y - ay) * (b_y - ay)) := by
 have e1 : (s + t) * (X - ax * D) = D * t * (bx - ax) := by grind
 have e2 : (s + t) * (Y - ay * D) = D * t * (b_y - ay) := by grind
 have : (s + t) * ((bx - ax) * (X - ax * D) + (b_y - ay) * (Y - ay * D)) = (bx - ax) * ((s + t) * (X - ax * D)) + (b_y - ay) * ((s + t) * (Y - ay * D)) := by grind
 rw [this, e1, e2]; grind
theorem zG_of {s t X Y D ax ay ex ey cx cy dx dy : Int} (k4 : (s + t) * X = D * (s * cx + t * dx)) (k5 : (s + t) * Y = D * (s * cy + t * dy)) :
  (s + t) * (ex * (X - ax * D) + ey * (Y - ay * D)) = D * (s * (ex * (cx - ax) + ey * (cy - ay)) + t * (ex * (dx - ax) + ey * (dy - ay))) := by
 have e1 : (s + t) * (X - ax * D) = D * (s * (cx - ax) + t * (dx - ax)) := by grind
 have e2 : (s + t) * (Y - ay * D) = D * (s * (cy - ay) + t * (dy - ay)) := by grind
 have : (s + t) * (ex * (X - ax * D) + ey * (Y - ay * D)) = ex * ((s + t) * (X - ax * D)) + ey * ((s + t) * (Y - ay * D)) := by grind
 rw [this, e1, e2]; grind
theorem fin_of {L Fc Fd ax cx dx e : Int} (h1 : L * (cx - ax) = Fc * e) (h2 : L * (dx - ax) = Fd * e) : L * ((Fd + -Fc) * ax) = L * (1 * (Fd * cx + -Fc * dx)) := by
 have m1 : Fd * (L * (cx - ax)) = Fd * (Fc * e) := by rw [h1]
 have m2 : Fc * (L * (dx - ax)) = Fc * (Fd * e) := by rw [h2]
 grind
theorem fin_of' {L Fc Fd ax cx dx e : Int} (h1 : L * (cx - ax) = Fc * e) (h2 : L * (dx - ax) = Fd * e) : L * ((-Fd + Fc) * ax) = L * (1 * (-Fd * cx + Fc * dx)) := by
 have m1 : Fd * (L * (cx - ax)) = Fd * (Fc * e) := by rw [h1]
 have m2 : Fc * (L * (dx - ax)) = Fc * (Fd * e) := by rw [h2]
 grind
theorem along_of {a b c d : S31} {X Y D : Int} (hD : 0 < D) (h : OnS a b X Y D) (h' : OnS c d X Y D) (hp : par a b c d = 0) :
  OnS c d a.f0 a.f1 1 ∨ OnS a b c.f0 c.f1 1 ∨ OnS a b d.f0 d.f1 1 := by
 by_cases hab : a = b
 ·subst hab
  left
  obtain ⟨s, t, h1, h2, h3, h4, h5⟩ := h
  refine on_one hD ?_ ?_ h'
  ·have : (s + t) * X = (s + t) * (D * a.f0) := by grind
   exact Int.eq_of_mul_eq_mul_left (by omega) this
  ·have : (s + t) * Y = (s + t) * (D * a.f1) := by grind
   exact Int.eq_of_mul_eq_mul_left (by omega) this
 ·obtain ⟨s, t, h1, h2, h3, h4, h5⟩ := h'
  have hz := on_side hD h h4 h5
  rw [par_crs] at hp
  have hcd : crs a b d = crs a b c := by omega
  have hc : crs a b c = 0 := by
   rw [hcd] at hz
   have : (s + t) * crs a b c = 0 := by grind
   rcases Int.mul_eq_zero.1 this with h | h
   ·omega
   ·exact h
  have hd : crs a b d = 0 := by omega
  obtain ⟨s', t', k1, k2, k3, k4, k5⟩ := h
  have hL : 0 < (b.f0 - a.f0) * (b.f0 - a.f0) + (b.f1 - a.f1) * (b.f1 - a.f1) := by
   have hne : b.f0 - a.f0 ≠ 0 ∨ b.f1 - a.f1 ≠ 0 := by
    by_cases h0 : a.f0 = b.f0
    ·right; intro h1; exact hab (S31.ext' h0 (by omega))
    ·left; omega
   have q1 : ∀ x : Int, 0 ≤ x * x := fun x => by
    rcases Int.le_total 0 x with h | h
    ·exact nn_mul h h
    ·have := nn_mul (a := -x) (b := -x) (by omega) (by omega); grind
   have q2 : ∀ x : Int, x ≠ 0 → 0 < x * x := fun x hx => by
    rcases Int.lt_or_gt_of_ne hx with h | h
    ·have := ps_mul (a := -x) (b := -x) (by omega) (by omega); grind
    ·exact ps_mul h h
   rcases hne with h | h
   ·have := q2 _ h; have := q1 (b.f1 - a.f1); omega
   ·have := q2 _ h; have := q1 (b.f0 - a.f0); omega
  have lx := fun p (hp : crs a b p = 0) => line_x hp
  have ly := fun p (hp : crs a b p = 0) => line_y hp
  have cx := lx c hc; have cy := ly c hc; have dx := lx d hd; have dy := ly d hd
  have zF := zF_of k4 k5
  have zG := zG_of (ax := a.f0) (ay := a.f1) (ex := b.f0 - a.f0) (ey := b.f1 - a.f1) h4 h5
  clear hz hp hcd hc hd lx ly k4 k5 h4 h5
  generalize (b.f0 - a.f0) * (b.f0 - a.f0) + (b.f1 - a.f1) * (b.f1 - a.f1) = L at *
  generalize (b.f0 - a.f0) * (c.f0 - a.f0) + (b.f1 - a.f1) * (c.f1 - a.f1) = Fc at *
  generalize (b.f0 - a.f0) * (d.f0 - a.f0) + (b.f1 - a.f1) * (d.f1 - a.f1) = Fd at *
  generalize (b.f0 - a.f0) * (X - a.f0 * D) + (b.f1 - a.f1) * (Y - a.f1 * D) = F at *
  have F0 : 0 ≤ F := by
   refine nn_of k3 ?_
   rw [zF]; exact nn_mul (nn_mul (Int.le_of_lt hD) k2) (Int.le_of_lt hL)
  have F1 : F ≤ L * D := by
   have : 0 ≤ L * D - F := by
    refine nn_of k3 ?_
    have := nn_mul (nn_mul (Int.le_of_lt hD) k1) (Int.le_of_lt hL)
    grind
   omega
  by_cases c1 : 0 ≤ Fc ∧ Fc ≤ L
  ·right; left
   exact ⟨L - Fc, Fc, by omega, by omega, by omega, by grind, by grind⟩
  ·by_cases d1 : 0 ≤ Fd ∧ Fd ≤ L
   ·right; right
    exact ⟨L - Fd, Fd, by omega, by omega, by omega, by grind, by grind⟩
   ·left
    have hsum : 0 ≤ s * Fc + t * Fd := by
     refine nn_of hD ?_
     rw [← zG]; exact nn_mul (Int.le_of_lt h3) F0
    have hsum2 : s * Fc + t * Fd ≤ (s + t) * L := by
     have : 0 ≤ (s + t) * L - (s * Fc + t * Fd) := by
      refine nn_of hD ?_
      have := nn_mul (Int.le_of_lt h3) (show 0 ≤ L * D - F by omega)
      grind
     omega
    have hcase : (Fc < 0 ∧ L < Fd) ∨ (L < Fc ∧ Fd < 0) := by
     by_cases u : Fc < 0
     ·by_cases v : Fd < 0
      ·exfalso
       have m1 := nn_mul (a := s) (b := -Fc - 1) h1 (by omega)
       have m2 := nn_mul (a := t) (b := -Fd - 1) h2 (by omega)
       grind
      ·left; omega
     ·by_cases v : Fd < 0
      ·right; omega
      ·exfalso
       have m1 := nn_mul (a := s) (b := Fc - L - 1) h1 (by omega)
       have m2 := nn_mul (a := t) (b := Fd - L - 1) h2 (by omega)
       grind
    rcases hcase with ⟨u, v⟩ | ⟨u, v⟩
    ·refine ⟨Fd, -Fc, by omega, by omega, by omega, ?_, ?_⟩
     ·exact Int.eq_of_mul_eq_mul_left (show L ≠ 0 by omega) (fin_of cx dx)
     ·exact Int.eq_of_mul_eq_mul_left (show L ≠ 0 by omega) (fin_of cy dy)
    ·refine ⟨-Fd, Fc, by omega, by omega, by omega, ?_, ?_⟩
     ·exact Int.eq_of_mul_eq_mul_left (show L ≠ 0 by omega) (fin_of' cx dx)
     ·exact Int.eq_of_mul_eq_mul_left (show L ≠ 0 by omega) (fin_of' cy dy)
def Found (P Q : List S31) : Prop :=
 (∃ i, i < P.length ∧ InH Q (pt P i).f0 (pt P i).f1 1) ∨ (∃ k, k < Q.length ∧ InH P (pt Q k).f0 (pt Q k).f1 1) ∨
 ∃ i k, i < P.length ∧ k < Q.length ∧ par (pt P i) (pt P (nxt i P.length)) (pt Q k) (pt Q (nxt k Q.length)) ≠ 0 ∧ meetB (pt P i) (pt P (nxt i P.length)) (pt Q k) (pt Q (nxt k Q.length)) = true
theorem found_of {P Q : List S31} (hP : IsHull P P) (hQ : IsHull Q Q) {X Y D : Int} (h1 : InH P X Y D) (h2 : InH Q X Y D) : Found P Q := by
 by_cases hp0 : InH Q (pt P 0).f0 (pt P 0).f1 1
 ·exact Or.inl ⟨0, hP.pos, hp0⟩
 ·obtain ⟨l, m, _, _, i1, i2, g, hg, g0⟩ := clip h1 h2 (hull_in hP (pt_mem P 0 hP.pos)) hp0
  obtain ⟨k, hk, ho⟩ := on_edge hQ i2 hg g0
  generalize l * X + m * (pt P 0).f0 = X1 at *
  generalize l * Y + m * (pt P 0).f1 = Y1 at *
  generalize l * D + m * 1 = D1 at *
  by_cases hq : InH P (pt Q k).f0 (pt Q k).f1 1
  ·exact Or.inr (Or.inl ⟨k, hk, hq⟩)
  ·obtain ⟨l, m, hl, hm, j1, j2, g, hg, g0⟩ := clip i2 i1 (hull_in hQ (pt_mem Q k hk)) hq
   obtain ⟨i, hi, ho'⟩ := on_edge hP j2 hg g0
   have ho2 := ho.comb hl hm i1.1
   have hD2 := j1.1
   generalize l * X1 + m * (pt Q k).f0 = X2 at *
   generalize l * Y1 + m * (pt Q k).f1 = Y2 at *
   generalize l * D1 + m * 1 = D2 at *
   have hni := nxt_lt (i := i) hP.pos
   have hnk := nxt_lt (i := k) hQ.pos
   by_cases hpar : par (pt P i) (pt P (nxt i P.length)) (pt Q k) (pt Q (nxt k Q.length)) = 0
   ·rcases along_of hD2 ho' ho2 hpar with h | h | h
    ·exact Or.inl ⟨i, hi, OnS.inH hQ (pt_mem _ _ hk) (pt_mem _ _ hnk) (by omega) h⟩
    ·exact Or.inr (Or.inl ⟨k, hk, OnS.inH hP (pt_mem _ _ hi) (pt_mem _ _ hni) (by omega) h⟩)
    ·exact Or.inr (Or.inl ⟨_, hnk, OnS.inH hP (pt_mem _ _ hi) (pt_mem _ _ hni) (by omega) h⟩)
   ·exact Or.inr (Or.inr ⟨i, k, hi, hk, hpar, meet_of hD2 ho' ho2 hpar⟩)
end Go.Proofs.Ythaklbjcjoolcaa.P
namespace Go.Proofs.Ythaklbjcjoolcaa.P
open Go.RowKit Go.Shelf Go.Sort Go.Proofs.YthaklbjcjoolcaaW.PrintWords Go.Proofs.YthaklbjcjoolcaaW.PrintLast Go.Proofs.YthaklbjcjoolcaaW.PrintMore
set_option linter.unusedVariables false
set_option linter.unusedSimpArgs false
def sub (p q : S31) : S31 := ⟨p.f0 - q.f0, p.f1 - q.f1⟩
theorem lin_sub (u v : Int) (p q : S31) : lin u v (sub p q) = lin u v p - lin u v q := by unfold lin sub; grind
def Apt (u v : Int) (P Q : List S31) : Prop := ∀ p ∈ P, ∀ q ∈ Q, lin u v p < lin u v q
theorem sq_pos {x y : Int} (h : x ≠ 0 ∨ y ≠ 0) : 0 < x * x + y * y := by
 have q1 : ∀ x : Int, 0 ≤ x * x := fun x => by
  rcases Int.le_total 0 x with h | h
  ·exact nn_mul h h
  ·have := nn_mul (a := -x) (b := -x) (by omega) (by omega); grind
 have q2 : ∀ x : Int, x ≠ 0 → 0 < x * x := fun x hx => by
  rcases Int.lt_or_gt_of_ne hx with h | h
  ·have := ps_mul (a := -x) (b := -x) (by omega) (by omega); grind
  ·exact ps_mul h h
 rcases h with h | h
 ·have := q2 _ h; have := q1 y; omega
 ·have := q2 _ h; have := q1 x; omega
theorem ne_coord {a b : S31} (h : a ≠ b) : b.f0 - a.f0 ≠ 0 ∨ b.f1 - a.f1 ≠ 0 := by
 by_cases h0 : a.f0 = b.f0
 ·right; intro h1; exact h (S31.ext' h0 (by omega))
 ·left; omega
theorem lin_diff (u v : Int) (p q : S31) : lin u v q - lin u v p = u * (q.f0 - p.f0) + v * (q.f1 - p.f1) := by unfold lin; grind
theorem dir_normal {u v : Int} {E : S31} (hE : E.f0 ≠ 0 ∨ E.f1 ≠ 0) (huv : u ≠ 0 ∨ v ≠ 0) (h : u * E.f0 + v * E.f1 = 0) {P Q : List S31} (ha : Apt u v P Q) : ∃ w ∈ four E, Apt w.f0 w.f1 P Q := by
 have hL := sq_pos hE
 have e1 : (E.f0 * E.f0 + E.f1 * E.f1) * u = (u * E.f1 - v * E.f0) * E.f1 := by
  have : (E.f0 * E.f0 + E.f1 * E.f1) * u = (u * E.f1 - v * E.f0) * E.f1 + E.f0 * (u * E.f0 + v * E.f1) := by grind
  rw [this, h]; grind
 have e2 : (E.f0 * E.f0 + E.f1 * E.f1) * v = -((u * E.f1 - v * E.f0) * E.f0) := by
  have : (E.f0 * E.f0 + E.f1 * E.f1) * v = -((u * E.f1 - v * E.f0) * E.f0) + E.f1 * (u * E.f0 + v * E.f1) := by grind
  rw [this, h]; grind
 generalize E.f0 * E.f0 + E.f1 * E.f1 = L at *
 generalize hc : u * E.f1 - v * E.f0 = c at *
 have key : ∀ p q : S31, L * (lin u v q - lin u v p) = c * (E.f1 * (q.f0 - p.f0) + -E.f0 * (q.f1 - p.f1)) := by
  intro p q
  rw [lin_diff]
  have : L * (u * (q.f0 - p.f0) + v * (q.f1 - p.f1)) = (L * u) * (q.f0 - p.f0) + (L * v) * (q.f1 - p.f1) := by grind
  rw [this, e1, e2]; grind
 rcases Int.lt_trichotomy c 0 with h1 | h1 | h1
 ·refine ⟨⟨-E.f1, E.f0⟩, by simp [four], fun p hp q hq => ?_⟩
  have k1 := key p q
  have k2 := ps_mul hL (show 0 < lin u v q - lin u v p by have := ha p hp q hq; omega)
  have k3 : 0 < -c * (-(E.f1 * (q.f0 - p.f0) + -E.f0 * (q.f1 - p.f1))) := by grind
  have k4 := pos_of (by omega) k3
  have k5 := lin_diff (-E.f1) E.f0 p q
  show lin (-E.f1) E.f0 p < lin (-E.f1) E.f0 q
  grind
 ·rw [h1] at e1 e2
  rcases huv with h2 | h2
  ·have : L * u = 0 := by rw [e1]; grind
   rcases Int.mul_eq_zero.1 this with h3 | h3 <;> omega
  ·have : L * v = 0 := by rw [e2]; grind
   rcases Int.mul_eq_zero.1 this with h3 | h3 <;> omega
 ·refine ⟨⟨E.f1, -E.f0⟩, by simp [four], fun p hp q hq => ?_⟩
  have k1 := key p q
  have k2 := ps_mul hL (show 0 < lin u v q - lin u v p by have := ha p hp q hq; omega)
  have k4 := pos_of h1 (by rw [k1] at k2; exact k2)
  have k5 := lin_diff E.f1 (-E.f0) p q
  show lin E.f1 (-E.f0) p < lin E.f1 (-E.f0) q
  omega
theorem dir_along {u v : Int} {E : S31} (hE : E.f0 ≠ 0 ∨ E.f1 ≠ 0) (huv : u ≠ 0 ∨ v ≠ 0) (h : u * E.f1 - v * E.f0 = 0) {P Q : List S31} (ha : Apt u v P Q) : ∃ w ∈ four E, Apt w.f0 w.f1 P Q := by
 obtain ⟨w, hw, hA⟩ := dir_normal (E := ⟨E.f1, -E.f0⟩) (u := u) (v := v) (by simp only; omega) huv (by simp only; grind) ha
 refine ⟨w, ?_, hA⟩
 simp only [four, List.mem_cons, List.not_mem_nil, or_false, Int.neg_neg] at hw ⊢
 rcases hw with h | h | h | h
 ·exact Or.inr (Or.inr (Or.inl h))
 ·exact Or.inr (Or.inr (Or.inr h))
 ·exact Or.inr (Or.inl h)
 ·exact Or.inl h
theorem min_edge {P : List S31} (h : IsHull P P) (u v : Int) {m m' : S31} (hm : m ∈ P) (hm' : m' ∈ P) (hne : m ≠ m') (hmin : ∀ r ∈ P, lin u v m ≤ lin u v r) (he : lin u v m' = lin u v m) :
  ∃ i, i < P.length ∧ pt P i ≠ pt P (nxt i P.length) ∧ lin u v (pt P i) = lin u v (pt P (nxt i P.length)) := by
 obtain ⟨j, hj, rfl⟩ := mem_pt hm
 obtain ⟨j', hj', rfl⟩ := mem_pt hm'
 by_cases h1 : P.length = 1
 ·exfalso
  obtain rfl : j = j' := by omega
  exact hne rfl
 ·by_cases h2 : P.length = 2
  ·refine ⟨j, hj, ?_⟩
   have : nxt j P.length = j' := by
    have : j ≠ j' := fun e => hne (by rw [e])
    unfold nxt; split <;> omega
   rw [this]; exact ⟨hne, he.symm⟩
  ·obtain ⟨k, hk, hki⟩ := nxt_prev h.pos hj
   have hn := nxt_lt (i := j) h.pos
   by_cases ha : lin u v (pt P k) = lin u v (pt P j)
   ·exact ⟨k, hk, by rw [hki]; exact hull_ne h hk hj (by intro e; subst e; unfold nxt at hki; split at hki <;> omega), by rw [hki]; exact ha⟩
   ·by_cases hc : lin u v (pt P (nxt j P.length)) = lin u v (pt P j)
    ·exact ⟨j, hj, hull_ne h hj hn (by unfold nxt; split <;> omega), hc.symm⟩
    ·exfalso
     have t := hull_left h (by omega) k hk
     rw [hki] at t
     have e1 := (h.ed k hk _ hm').nn
     have e2 := (h.ed j hj _ hm').nn
     rw [hki] at e1
     have a1 := hmin _ (pt_mem P k hk)
     have c1 := hmin _ (pt_mem P _ hn)
     have key := lin_key u v (pt P k) (pt P j) (pt P (nxt j P.length)) (pt P j')
     have kx := lin_key 1 0 (pt P k) (pt P j) (pt P (nxt j P.length)) (pt P j')
     have ky := lin_key 0 1 (pt P k) (pt P j) (pt P (nxt j P.length)) (pt P j')
     generalize pt P (nxt j P.length) = c at *
     generalize pt P k = a at *
     generalize pt P j = b at *
     generalize pt P j' = m at *
     rw [he, Int.sub_self, Int.mul_zero] at key
     have m1 := nn_mul e1 (show 0 ≤ lin u v c - lin u v b by omega)
     have m2 := nn_mul e2 (show 0 ≤ lin u v a - lin u v b by omega)
     have z1 : crs a b m = 0 := by
      have : crs a b m * (lin u v c - lin u v b) = 0 := by omega
      rcases Int.mul_eq_zero.1 this with h | h <;> omega
     have z2 : crs b c m = 0 := by
      have : crs b c m * (lin u v a - lin u v b) = 0 := by omega
      rcases Int.mul_eq_zero.1 this with h | h <;> omega
     rw [z1, z2, Int.zero_mul, Int.zero_mul] at kx ky
     have x1 : lin 1 0 m - lin 1 0 b = 0 := by
      rcases Int.mul_eq_zero.1 (show crs a b c * (lin 1 0 m - lin 1 0 b) = 0 by omega) with h | h <;> omega
     have y1 : lin 0 1 m - lin 0 1 b = 0 := by
      rcases Int.mul_eq_zero.1 (show crs a b c * (lin 0 1 m - lin 0 1 b) = 0 by omega) with h | h <;> omega
     unfold lin at x1 y1
     exact hne (S31.ext' (by omega) (by omega))
def diffs (P Q : List S31) : List S31 := P.flatMap fun p => Q.map fun q => sub p q
theorem mem_diffs {P Q : List S31} {d : S31} : d ∈ diffs P Q ↔ ∃ p ∈ P, ∃ q ∈ Q, d = sub p q := by
 unfold diffs
 rw [List.mem_flatMap]
 constructor
 ·rintro ⟨p, hp, h⟩
  obtain ⟨q, hq, e⟩ := List.mem_map.1 h
  exact ⟨p, hp, q, hq, e.symm⟩
 ·rintro ⟨p, hp, q, hq, rfl⟩
  exact ⟨p, hp, List.mem_map.2 ⟨q, hq, rfl⟩⟩
theorem dir_in {P Q : List S31} {i : Nat} {w : S31} (h : (i < P.length ∧ w ∈ four (edgeD P i)) ∨ (i < Q.length ∧ w ∈ four (edgeD Q i))) : w ∈ dirM P Q 2 := by
 unfold dirM dirE
 rw [if_pos (by omega), if_pos (by omega)]
 rcases h with ⟨h1, h2⟩ | ⟨h1, h2⟩
 ·exact List.mem_append_left _ (List.mem_append_right _ (List.mem_flatMap.2 ⟨i, List.mem_range.2 h1, h2⟩))
 ·exact List.mem_append_right _ (List.mem_flatMap.2 ⟨i, List.mem_range.2 h1, h2⟩)
theorem edgeD_is {P : List S31} {i : Nat} (hi : i < P.length) : edgeD P i = ⟨(pt P (nxt i P.length)).f0 - (pt P i).f0, (pt P (nxt i P.length)).f1 - (pt P i).f1⟩ := by unfold edgeD; rw [nxt_mod hi]
def SepDir (P Q : List S31) : Prop := ∃ w ∈ dirM P Q 2, Apt w.f0 w.f1 P Q
theorem sep_normal {P Q : List S31} (hP : IsHull P P) (hQ : IsHull Q Q) {d d' : S31} (hd : d ∈ diffs P Q) (hd' : d' ∈ diffs P Q) (hne : d ≠ d') (hall : ∀ x ∈ diffs P Q, 0 ≤ crs d d' x) (ho : crs d d' z31 < 0) : SepDir P Q := by
 have hz : crs d d' z31 = lin (d'.f1 - d.f1) (-(d'.f0 - d.f0)) d := by unfold crs lin z31; simp only; grind
 have hx : ∀ x, crs d d' x = lin (d'.f1 - d.f1) (-(d'.f0 - d.f0)) d - lin (d'.f1 - d.f1) (-(d'.f0 - d.f0)) x := by intro x; unfold crs lin; grind
 have hdd : lin (d'.f1 - d.f1) (-(d'.f0 - d.f0)) d' = lin (d'.f1 - d.f1) (-(d'.f0 - d.f0)) d := by unfold lin; grind
 have hne' := ne_coord hne
 have huv : d'.f1 - d.f1 ≠ 0 ∨ -(d'.f0 - d.f0) ≠ 0 := by omega
 generalize d'.f1 - d.f1 = u at *
 generalize -(d'.f0 - d.f0) = v at *
 rw [hz] at ho
 have hmax : ∀ x ∈ diffs P Q, lin u v x ≤ lin u v d := by intro x hx'; have := hall x hx'; rw [hx] at this; omega
 have hA : Apt u v P Q := by
  intro p hp q hq
  have := hmax _ (mem_diffs.2 ⟨p, hp, q, hq, rfl⟩)
  rw [lin_sub] at this; omega
 obtain ⟨p, hp, q, hq, rfl⟩ := mem_diffs.1 hd
 obtain ⟨p', hp', q', hq', rfl⟩ := mem_diffs.1 hd'
 rw [lin_sub, lin_sub] at hdd
 have hpm : ∀ r ∈ P, lin u v r ≤ lin u v p := by
  intro r hr
  have := hmax _ (mem_diffs.2 ⟨r, hr, q, hq, rfl⟩)
  rw [lin_sub, lin_sub] at this; omega
 have hqm : ∀ r ∈ Q, lin u v q ≤ lin u v r := by
  intro r hr
  have := hmax _ (mem_diffs.2 ⟨p, hp, r, hr, rfl⟩)
  rw [lin_sub, lin_sub] at this; omega
 have h1 := hpm p' hp'
 have h2 := hqm q' hq'
 have hneg : ∀ r, lin (-u) (-v) r = - lin u v r := by intro r; unfold lin; grind
 by_cases hpp : p = p'
 ·have hqq : q ≠ q' := by
   intro e; subst e; subst hpp; exact hne rfl
  obtain ⟨i, hi, hni, he⟩ := min_edge hQ u v hq hq' hqq hqm (by omega)
  obtain ⟨w, hw, hwA⟩ := dir_normal (E := edgeD Q i) (by rw [edgeD_is hi]; exact ne_coord hni) huv (by rw [edgeD_is hi]; have := lin_diff u v (pt Q i) (pt Q (nxt i Q.length)); simp only; omega) hA
  exact ⟨w, dir_in (i := i) (Or.inr ⟨hi, hw⟩), hwA⟩
 ·obtain ⟨i, hi, hni, he⟩ := min_edge hP (-u) (-v) hp hp' hpp (fun r hr => by rw [hneg, hneg]; have := hpm r hr; omega) (by rw [hneg, hneg]; omega)
  rw [hneg, hneg] at he
  obtain ⟨w, hw, hwA⟩ := dir_normal (E := edgeD P i) (by rw [edgeD_is hi]; exact ne_coord hni) huv (by rw [edgeD_is hi]; have := lin_diff u v (pt P i) (pt P (nxt i P.length)); simp only; omega) hA
  exact ⟨w, dir_in (i := i) (Or.inl ⟨hi, hw⟩), hwA⟩
def Common (P Q : List S31) : Prop := ∃ X Y D, InH P X Y D ∧ InH Q X Y D
theorem in3 {P : List S31} (h : IsHull P P) {a b c : S31} (ha : a ∈ P) (hb : b ∈ P) (hc : c ∈ P) {s t r : Int} (hs : 0 ≤ s) (ht : 0 ≤ t) (hr : 0 ≤ r) (hsum : 0 < s + t + r) :
  InH P (s * a.f0 + t * b.f0 + r * c.f0) (s * a.f1 + t * b.f1 + r * c.f1) (s + t + r) := by
 refine ⟨hsum, fun g hg => ?_⟩
 have e : g.v (s * a.f0 + t * b.f0 + r * c.f0) (s * a.f1 + t * b.f1 + r * c.f1) (s + t + r) = s * g.v a.f0 a.f1 1 + t * g.v b.f0 b.f1 1 + r * g.v c.f0 c.f1 1 := by unfold Fm.v; grind
 rw [e]
 have := nn_mul hs ((hull_in h ha).2 g hg)
 have := nn_mul ht ((hull_in h hb).2 g hg)
 have := nn_mul hr ((hull_in h hc).2 g hg)
 omega
theorem common3 {P Q : List S31} (hP : IsHull P P) (hQ : IsHull Q Q) {a b c : S31} (ha : a ∈ diffs P Q) (hb : b ∈ diffs P Q) (hc : c ∈ diffs P Q) {s t r : Int} (hs : 0 ≤ s) (ht : 0 ≤ t) (hr : 0 ≤ r) (hsum : 0 < s + t + r)
  (hx : s * a.f0 + t * b.f0 + r * c.f0 = 0) (hy : s * a.f1 + t * b.f1 + r * c.f1 = 0) : Common P Q := by
 obtain ⟨p1, hp1, q1, hq1, rfl⟩ := mem_diffs.1 ha
 obtain ⟨p2, hp2, q2, hq2, rfl⟩ := mem_diffs.1 hb
 obtain ⟨p3, hp3, q3, hq3, rfl⟩ := mem_diffs.1 hc
 unfold sub at hx hy
 simp only at hx hy
 refine ⟨_, _, _, in3 hP hp1 hp2 hp3 hs ht hr hsum, ?_⟩
 have h2 := in3 hQ hq1 hq2 hq3 hs ht hr hsum
 have ex : s * p1.f0 + t * p2.f0 + r * p3.f0 = s * q1.f0 + t * q2.f0 + r * q3.f0 := by grind
 have ey : s * p1.f1 + t * p2.f1 + r * p3.f1 = s * q1.f1 + t * q2.f1 + r * q3.f1 := by grind
 rw [ex, ey]; exact h2
theorem on_of_onB {a b p : S31} (h : onB a b p = true) : OnS a b p.f0 p.f1 1 := by
 obtain ⟨h1, h2, h3⟩ := (onB_iff a b p).1 h
 exact on_box (by omega) (by rw [sd_crs]; exact h1) (by simp only [Int.mul_one]; exact h2) (by simp only [Int.mul_one]; exact h3)
theorem turns_at (f : Nat → Int) : ∀ n, 0 ≤ f 0 → f n ≤ 0 → 0 < n → ∃ i, i < n ∧ 0 ≤ f i ∧ f (i + 1) ≤ 0
 | 0, _, _, h => by omega
 | 1, h0, h1, _ => ⟨0, by omega, h0, h1⟩
 | n + 2, h0, h1, _ => by
  rcases Int.le_total (f (n + 1)) 0 with h | h
  ·obtain ⟨i, hi, h2, h3⟩ := turns_at f (n + 1) h0 h (by omega)
   exact ⟨i, by omega, h2, h3⟩
  ·exact ⟨n + 1, by omega, h, h1⟩
theorem bary (a b c : S31) : crs b c z31 + crs c a z31 + crs a b z31 = crs a b c ∧ crs b c z31 * a.f0 + crs c a z31 * b.f0 + crs a b z31 * c.f0 = 0 ∧ crs b c z31 * a.f1 + crs c a z31 * b.f1 + crs a b z31 * c.f1 = 0 := by
 unfold crs z31; simp only
 exact ⟨by grind, by grind, by grind⟩
theorem sep_or {P Q : List S31} (hP : IsHull P P) (hQ : IsHull Q Q) : SepDir P Q ∨ Common P Q := by
 have hD0 : 0 < (diffs P Q).length := List.length_pos_of_mem (mem_diffs.2 ⟨_, pt_mem P 0 hP.pos, _, pt_mem Q 0 hQ.pos, rfl⟩)
 have hD := corners_hull (diffs P Q) hD0
 generalize cornersS (diffs P Q) = H at *
 have hm := hD.mem
 by_cases h1 : H.length = 1
 ·have hall := hD.one h1
  have hP0 := mem_diffs.2 ⟨_, pt_mem P 0 hP.pos, _, pt_mem Q 0 hQ.pos, rfl⟩
  have e0 := hall _ hP0
  by_cases ho : sub (pt P 0) (pt Q 0) = z31
  ·right
   refine common3 hP hQ hP0 hP0 hP0 (s := 1) (t := 0) (r := 0) (by omega) (by omega) (by omega) (by omega) ?_ ?_
   ·rw [ho]; rfl
   ·rw [ho]; rfl
  ·left
   refine ⟨⟨(pt Q 0).f0 - (pt P 0).f0, (pt Q 0).f1 - (pt P 0).f1⟩, by unfold dirM; simp, fun p hp q hq => ?_⟩
   have e1 := hall _ (mem_diffs.2 ⟨p, hp, q, hq, rfl⟩)
   rw [← e0] at e1
   have x1 : p.f0 - q.f0 = (pt P 0).f0 - (pt Q 0).f0 := congrArg S31.f0 e1
   have y1 : p.f1 - q.f1 = (pt P 0).f1 - (pt Q 0).f1 := congrArg S31.f1 e1
   have hn : (pt Q 0).f0 - (pt P 0).f0 ≠ 0 ∨ (pt Q 0).f1 - (pt P 0).f1 ≠ 0 := by
    refine ne_coord (fun e => ho ?_)
    rw [e]; unfold sub z31; simp
   have hs := sq_pos hn
   have := lin_diff ((pt Q 0).f0 - (pt P 0).f0) ((pt Q 0).f1 - (pt P 0).f1) p q
   rw [show q.f0 - p.f0 = (pt Q 0).f0 - (pt P 0).f0 by omega, show q.f1 - p.f1 = (pt Q 0).f1 - (pt P 0).f1 by omega] at this
   show lin ((pt Q 0).f0 - (pt P 0).f0) ((pt Q 0).f1 - (pt P 0).f1) p < lin ((pt Q 0).f0 - (pt P 0).f0) ((pt Q 0).f1 - (pt P 0).f1) q
   omega
 ·by_cases hneg : ∃ i, i < H.length ∧ crs (pt H i) (pt H (nxt i H.length)) z31 < 0
  ·obtain ⟨i, hi, hni⟩ := hneg
   left
   exact sep_normal hP hQ (hm i hi) (hm _ (nxt_lt hD.pos)) (hull_ne hD hi (nxt_lt hD.pos) (by unfold nxt; split <;> omega)) (fun x hx => (hD.ed i hi x hx).nn) hni
  ·have hnn : ∀ i, i < H.length → 0 ≤ crs (pt H i) (pt H (nxt i H.length)) z31 := by
    intro i hi
    rcases Int.lt_or_le (crs (pt H i) (pt H (nxt i H.length)) z31) 0 with h | h
    ·exact absurd ⟨i, hi, h⟩ hneg
    ·exact h
   by_cases h2 : H.length = 2
   ·have n0 := hnn 0 (by omega)
    have n1 := hnn 1 (by omega)
    rw [show nxt 0 H.length = 1 by unfold nxt; rw [if_pos (by omega)]] at n0
    rw [show nxt 1 H.length = 0 by unfold nxt; rw [if_neg (by omega)]] at n1
    have hsw : crs (pt H 1) (pt H 0) z31 = - crs (pt H 0) (pt H 1) z31 := by unfold crs; grind
    have hc0 : crs (pt H 0) (pt H 1) z31 = 0 := by omega
    have hon : ∀ x ∈ diffs P Q, onB (pt H 0) (pt H 1) x = true := by
     intro x hx
     have := hull_two hD (by omega) hx
     rwa [h2] at this
    have hm0 := hm 0 (by omega)
    have hm1 := hm 1 (by omega)
    have hne := hD.ner 0 (by omega)
    rw [Nat.zero_add] at hne
    generalize pt H 0 = d0 at *
    generalize pt H 1 = d1 at *
    by_cases hz : onB d0 d1 z31 = true
    ·right
     obtain ⟨s, t, k1, k2, k3, k4, k5⟩ := on_of_onB hz
     refine common3 hP hQ hm0 hm1 hm1 (s := s) (t := t) (r := 0) k1 k2 (by omega) (by omega) ?_ ?_
     ·have : (s + t) * z31.f0 = 0 := by unfold z31; simp
      grind
     ·have : (s + t) * z31.f1 = 0 := by unfold z31; simp
      grind
    ·left
     have hE := ne_coord hne
     have hL := sq_pos hE
     have lx := line_x hc0
     have ly := line_y hc0
     have hz0 : z31.f0 = 0 := rfl
     have hz1 : z31.f1 = 0 := rfl
     rw [hz0, hz1] at lx ly
     have key : 0 < lin (d1.f0 - d0.f0) (d1.f1 - d0.f1) d0 ∨ lin (d1.f0 - d0.f0) (d1.f1 - d0.f1) d1 < 0 := by
      rcases Int.lt_or_le 0 (lin (d1.f0 - d0.f0) (d1.f1 - d0.f1) d0) with h | h
      ·exact Or.inl h
      ·rcases Int.lt_or_le (lin (d1.f0 - d0.f0) (d1.f1 - d0.f1) d1) 0 with h' | h'
       ·exact Or.inr h'
       ·exfalso
        refine hz (on_onB ⟨lin (d1.f0 - d0.f0) (d1.f1 - d0.f1) d1, -lin (d1.f0 - d0.f0) (d1.f1 - d0.f1) d0, h', by omega, ?_, ?_, ?_⟩)
        ·have := lin_diff (d1.f0 - d0.f0) (d1.f1 - d0.f1) d0 d1; omega
        ·rw [hz0, Int.mul_zero, Int.one_mul]
         refine Int.eq_of_mul_eq_mul_left (show ((d1.f0 - d0.f0) * (d1.f0 - d0.f0) + (d1.f1 - d0.f1) * (d1.f1 - d0.f1)) ≠ 0 by omega) ?_
         unfold lin; grind
        ·rw [hz1, Int.mul_zero, Int.one_mul]
         refine Int.eq_of_mul_eq_mul_left (show ((d1.f0 - d0.f0) * (d1.f0 - d0.f0) + (d1.f1 - d0.f1) * (d1.f1 - d0.f1)) ≠ 0 by omega) ?_
         unfold lin; grind
     have hcx : ∀ x ∈ diffs P Q, crs d0 d1 x = 0 := fun x hx => ((onB_iff _ _ _).1 (hon x hx)).1
     have hgap := lin_diff (d1.f0 - d0.f0) (d1.f1 - d0.f1) d0 d1
     have hedge : (∃ i, i < P.length ∧ (edgeD P i).f0 * (d1.f1 - d0.f1) - (edgeD P i).f1 * (d1.f0 - d0.f0) = 0 ∧ ((edgeD P i).f0 ≠ 0 ∨ (edgeD P i).f1 ≠ 0)) ∨ (∃ i, i < Q.length ∧ (edgeD Q i).f0 * (d1.f1 - d0.f1) - (edgeD Q i).f1 * (d1.f0 - d0.f0) = 0 ∧ ((edgeD Q i).f0 ≠ 0 ∨ (edgeD Q i).f1 ≠ 0)) := by
      by_cases hp1 : 1 < P.length
      ·left
       refine ⟨0, by omega, ?_, ?_⟩
       ·rw [edgeD_is (by omega), show nxt 0 P.length = 1 by unfold nxt; rw [if_pos (by omega)]]
        have c0 := hcx _ (mem_diffs.2 ⟨_, pt_mem P 0 hP.pos, _, pt_mem Q 0 hQ.pos, rfl⟩)
        have c1 := hcx _ (mem_diffs.2 ⟨_, pt_mem P 1 (by omega), _, pt_mem Q 0 hQ.pos, rfl⟩)
        unfold crs sub at c0 c1
        simp only at c0 c1 ⊢
        grind
       ·rw [edgeD_is (by omega), show nxt 0 P.length = 1 by unfold nxt; rw [if_pos (by omega)]]
        exact ne_coord (hP.ner 0 (by omega))
      ·by_cases hq1 : 1 < Q.length
       ·right
        refine ⟨0, by omega, ?_, ?_⟩
        ·rw [edgeD_is (by omega), show nxt 0 Q.length = 1 by unfold nxt; rw [if_pos (by omega)]]
         have c0 := hcx _ (mem_diffs.2 ⟨_, pt_mem P 0 hP.pos, _, pt_mem Q 0 hQ.pos, rfl⟩)
         have c1 := hcx _ (mem_diffs.2 ⟨_, pt_mem P 0 hP.pos, _, pt_mem Q 1 (by omega), rfl⟩)
         unfold crs sub at c0 c1
         simp only at c0 c1 ⊢
         grind
        ·rw [edgeD_is (by omega), show nxt 0 Q.length = 1 by unfold nxt; rw [if_pos (by omega)]]
         exact ne_coord (hQ.ner 0 (by omega))
       ·exfalso
        obtain ⟨p, hp, q, hq, rfl⟩ := mem_diffs.1 hm0
        obtain ⟨p', hp', q', hq', rfl⟩ := mem_diffs.1 hm1
        obtain ⟨a, ha, rfl⟩ := mem_pt hp
        obtain ⟨b, hb, rfl⟩ := mem_pt hp'
        obtain ⟨c, hc, rfl⟩ := mem_pt hq
        obtain ⟨d, hd, rfl⟩ := mem_pt hq'
        obtain rfl : a = b := by omega
        obtain rfl : c = d := by omega
        exact hne rfl
     have hApt : Apt (d1.f0 - d0.f0) (d1.f1 - d0.f1) P Q ∨ Apt (-(d1.f0 - d0.f0)) (-(d1.f1 - d0.f1)) P Q := by
      rcases key with h | h
      ·right
       intro p hp q hq
       have hx := hon _ (mem_diffs.2 ⟨p, hp, q, hq, rfl⟩)
       have h3 := lin_on (-(d1.f0 - d0.f0)) (-(d1.f1 - d0.f1)) hx
       have hneg : ∀ r, lin (-(d1.f0 - d0.f0)) (-(d1.f1 - d0.f1)) r = - lin (d1.f0 - d0.f0) (d1.f1 - d0.f1) r := by intro r; unfold lin; grind
       have hs := lin_sub (-(d1.f0 - d0.f0)) (-(d1.f1 - d0.f1)) p q
       rw [hneg d0, hneg d1] at h3
       omega
      ·left
       intro p hp q hq
       have hx := hon _ (mem_diffs.2 ⟨p, hp, q, hq, rfl⟩)
       have h3 := lin_on (d1.f0 - d0.f0) (d1.f1 - d0.f1) hx
       have hs := lin_sub (d1.f0 - d0.f0) (d1.f1 - d0.f1) p q
       omega
     rcases hedge with ⟨i, hi, hp, hn⟩ | ⟨i, hi, hp, hn⟩
     ·rcases hApt with hA | hA
      ·obtain ⟨w, hw, hwA⟩ := dir_along hn hE (by grind) hA
       exact ⟨w, dir_in (i := i) (Or.inl ⟨hi, hw⟩), hwA⟩
      ·obtain ⟨w, hw, hwA⟩ := dir_along hn (by omega) (by grind) hA
       exact ⟨w, dir_in (i := i) (Or.inl ⟨hi, hw⟩), hwA⟩
     ·rcases hApt with hA | hA
      ·obtain ⟨w, hw, hwA⟩ := dir_along hn hE (by grind) hA
       exact ⟨w, dir_in (i := i) (Or.inr ⟨hi, hw⟩), hwA⟩
      ·obtain ⟨w, hw, hwA⟩ := dir_along hn (by omega) (by grind) hA
       exact ⟨w, dir_in (i := i) (Or.inr ⟨hi, hw⟩), hwA⟩
   ·right
    have h3 : 3 ≤ H.length := by have := hD.pos; omega
    have n0 := hnn 0 (by omega)
    have n1 := hnn (H.length - 1) (by omega)
    rw [show nxt 0 H.length = 1 by unfold nxt; rw [if_pos (by omega)]] at n0
    rw [show nxt (H.length - 1) H.length = 0 by unfold nxt; rw [if_neg (by omega)]] at n1
    have hsw : ∀ a b : S31, crs b a z31 = - crs a b z31 := by intro a b; unfold crs; grind
    rw [hsw] at n1
    obtain ⟨i, hi, f1, f2⟩ := turns_at (fun i => crs (pt H 0) (pt H (i + 1)) z31) (H.length - 2) n0 (by show crs (pt H 0) (pt H (H.length - 2 + 1)) z31 ≤ 0; rw [show H.length - 2 + 1 = H.length - 1 by omega]; omega) (by omega)
    have ne := hnn (i + 1) (by omega)
    rw [show nxt (i + 1) H.length = i + 1 + 1 by unfold nxt; rw [if_pos (by omega)]] at ne
    have e0 := hD.ed (i + 1) (by omega) _ (hm 0 (by omega))
    rw [show nxt (i + 1) H.length = i + 1 + 1 by unfold nxt; rw [if_pos (by omega)]] at e0
    have l1 := hD.least _ (hm (i + 1) (by omega))
    have l2 := hD.least _ (hm (i + 1 + 1) (by omega))
    have d1 := hD.ne (i + 1) (by omega) (by omega)
    have d2 := hD.ne (i + 1 + 1) (by omega) (by omega)
    have m0 := hm 0 (by omega)
    have m1 := hm (i + 1) (by omega)
    have m2 := hm (i + 1 + 1) (by omega)
    generalize pt H 0 = a at *
    generalize pt H (i + 1) = b at *
    generalize pt H (i + 1 + 1) = c at *
    obtain ⟨b0, b1, b2⟩ := bary a b c
    have hpos : 0 < crs a b c := by
     rcases e0 with e0 | e0
     ·rw [← crs_rot a b c]; exact e0
     ·exfalso
      obtain ⟨k1, k2, k3⟩ := (onB_iff' _ _ _).1 e0
      have g1 : ltP a b = true := by
       rcases ltP_tot a b with h | h | h
       ·exact h
       ·exact absurd h.symm d1
       ·exact absurd h l1
      have g2 : ltP a c = true := by
       rcases ltP_tot a c with h | h | h
       ·exact h
       ·exact absurd h.symm d2
       ·exact absurd h l2
      unfold ltP at g1 g2
      rw [decide_eq_true_eq] at g1 g2
      unfold crs at k1
      by_cases hbc : b.f0 = c.f0
      ·omega
      ·rcases Int.lt_or_gt_of_ne hbc with h | h
       ·have hx : a.f0 = b.f0 := by omega
        rw [hx, Int.sub_self, Int.mul_zero, Int.sub_zero] at k1
        rcases Int.mul_eq_zero.1 k1 with h4 | h4 <;> omega
       ·have hx : a.f0 = c.f0 := by omega
        rw [hx] at k1
        have k1' : (c.f0 - b.f0) * (a.f1 - c.f1) = 0 := by grind
        rcases Int.mul_eq_zero.1 k1' with h4 | h4 <;> omega
    have hca := hsw a c
    exact common3 hP hQ m0 m1 m2 (s := crs b c z31) (t := crs c a z31) (r := crs a b z31) ne (by omega) f1 (by omega) b1 b2
end Go.Proofs.Ythaklbjcjoolcaa.P
namespace Go.Proofs.Ythaklbjcjoolcaa.P
open Go.RowKit Go.Shelf Go.Sort Go.Proofs.YthaklbjcjoolcaaW.PrintWords Go.Proofs.YthaklbjcjoolcaaW.PrintLast Go.Proofs.YthaklbjcjoolcaaW.PrintMore
set_option linter.unusedVariables false
set_option linter.unusedSimpArgs false
theorem inH_lin {P : List S31} (h : IsHull P P) {X Y D : Int} (hin : InH P X Y D) (u v m : Int) (hm : ∀ p ∈ P, lin u v p ≤ m) : u * X + v * Y ≤ m * D := by
 have hD := hin.1
 by_cases h3 : P.length < 3
 ·have hbox := (fmB_v (a := pt P 0) (b := pt P (P.length - 1)) (X := X) (Y := Y) (D := D)).1 (fun g hg => hin.2 g (List.mem_append_right _ (by rw [if_pos h3]; exact hg)))
  have hsd : sd (pt P 0) (pt P (P.length - 1)) X Y D = 0 := by
   by_cases h1 : P.length = 1
   ·rw [h1]; unfold sd; grind
   ·have h2 : P.length = 2 := by have := h.pos; omega
    have e0 := hin.2 _ (fm_edge (H := P) (i := 0) (by omega))
    have e1 := hin.2 _ (fm_edge (H := P) (i := 1) (by omega))
    rw [show nxt 0 P.length = 1 by unfold nxt; rw [if_pos (by omega)], fmE_v] at e0
    rw [show nxt 1 P.length = 0 by unfold nxt; rw [if_neg (by omega)], fmE_v] at e1
    have e : sd (pt P 1) (pt P 0) X Y D = - sd (pt P 0) (pt P 1) X Y D := by unfold sd; grind
    rw [h2]; show sd (pt P 0) (pt P 1) X Y D = 0; omega
  obtain ⟨s, t, k1, k2, k3, k4, k5⟩ := on_box hD hsd hbox.1 hbox.2
  have m0 := hm _ (pt_mem P 0 h.pos)
  have m1 := hm _ (pt_mem P (P.length - 1) (by have := h.pos; omega))
  generalize pt P 0 = a at *
  generalize pt P (P.length - 1) = b at *
  have e : (s + t) * (m * D - (u * X + v * Y)) = D * (s * (m - lin u v a) + t * (m - lin u v b)) := by
   have : (s + t) * (m * D - (u * X + v * Y)) = (s + t) * m * D - (u * ((s + t) * X) + v * ((s + t) * Y)) := by grind
   rw [this, k4, k5]; unfold lin; grind
  have n1 := nn_mul k1 (show 0 ≤ m - lin u v a by omega)
  have n2 := nn_mul k2 (show 0 ≤ m - lin u v b by omega)
  have n3 := nn_mul (Int.le_of_lt hD) (show 0 ≤ s * (m - lin u v a) + t * (m - lin u v b) by omega)
  have := nn_of k3 (by rw [e]; exact n3)
  omega
 ·obtain ⟨i, hi, hmax⟩ := max_at (lin u v) P h.pos
  obtain ⟨k, hk, hki⟩ := nxt_prev h.pos hi
  have ht := hull_left h (by omega) k hk
  have e1 := hin.2 _ (fm_edge hk)
  have e2 := hin.2 _ (fm_edge hi)
  rw [fmE_v] at e1 e2
  rw [hki] at ht e1
  have f1 := hmax k hk
  have f2 := hmax _ (nxt_lt (i := i) h.pos)
  have mb := hm _ (pt_mem P i hi)
  generalize pt P (nxt i P.length) = c at *
  generalize pt P i = b at *
  generalize pt P k = a at *
  have key : crs a b c * ((u * X + v * Y) - lin u v b * D) = sd a b X Y D * (lin u v c - lin u v b) + sd b c X Y D * (lin u v a - lin u v b) := by unfold crs sd lin; grind
  have m2 := nn_mul (a := sd a b X Y D) (b := lin u v b - lin u v c) e1 (by omega)
  have m3 := nn_mul (a := sd b c X Y D) (b := lin u v b - lin u v a) e2 (by omega)
  have n1 : 0 ≤ lin u v b * D - (u * X + v * Y) := by
   refine nn_of ht ?_
   have e : crs a b c * (lin u v b * D - (u * X + v * Y)) = -(crs a b c * ((u * X + v * Y) - lin u v b * D)) := by grind
   rw [e, key]; grind
  have n2 := nn_mul (a := m - lin u v b) (b := D) (by omega) (by omega)
  have : m * D - (u * X + v * Y) = (m - lin u v b) * D + (lin u v b * D - (u * X + v * Y)) := by grind
  omega
theorem lin_neg (u v : Int) (q : S31) : lin (-u) (-v) q = -lin u v q := by unfold lin; grind
theorem apt_not {P Q : List S31} (hP : IsHull P P) (hQ : IsHull Q Q) {u v w : Int} (h1 : ∀ p ∈ P, lin u v p < w) (h2 : ∀ q ∈ Q, w < lin u v q) : ¬ Common P Q := by
 rintro ⟨X, Y, D, i1, i2⟩
 have a1 := inH_lin hP i1 u v (w - 1) (fun p hp => by have := h1 p hp; omega)
 have a2 := inH_lin hQ i2 (-u) (-v) (-(w + 1)) (fun q hq => by have := h2 q hq; rw [lin_neg]; omega)
 have := i1.1
 grind
theorem apt_common {P Q : List S31} (hP : IsHull P P) (hQ : IsHull Q Q) {u v : Int} (h : Apt u v P Q) : ¬ Common P Q := by
 obtain ⟨i, hi, hm⟩ := max_at (lin u v) P hP.pos
 rintro ⟨X, Y, D, i1, i2⟩
 have a1 := inH_lin hP i1 u v (lin u v (pt P i)) (fun p hp => by obtain ⟨j, hj, rfl⟩ := mem_pt hp; exact hm j hj)
 have a2 := inH_lin hQ i2 (-u) (-v) (-(lin u v (pt P i) + 1)) (fun q hq => by have := h _ (pt_mem P i hi) q hq; rw [lin_neg]; omega)
 have := i1.1
 grind
theorem common_of_found {P Q : List S31} (hP : IsHull P P) (hQ : IsHull Q Q) (i : Nat) (hi : i < P.length) (h : InH Q (pt P i).f0 (pt P i).f1 1) : Common P Q := ⟨_, _, _, hull_in hP (pt_mem P i hi), h⟩
def Opp (a b : Int) : Prop := 0 ≤ a ∧ b ≤ 0 ∨ a ≤ 0 ∧ 0 ≤ b
theorem opp_of {s t a b : Int} (hs : 0 ≤ s) (ht : 0 ≤ t) (hst : 0 < s + t) (h : s * a + t * b = 0) : Opp a b := by
 unfold Opp
 rcases Int.lt_trichotomy a 0 with h1 | h1 | h1
 ·right
  refine ⟨by omega, ?_⟩
  by_cases ht0 : t = 0
  ·subst ht0
   have : s * a = 0 := by omega
   rcases Int.mul_eq_zero.1 this with h2 | h2 <;> omega
  ·have := nn_mul (a := s) (b := -a) hs (by omega)
   exact nn_of (b := t) (by omega) (by grind)
 ·omega
 ·left
  refine ⟨by omega, ?_⟩
  by_cases ht0 : t = 0
  ·subst ht0
   have : s * a = 0 := by omega
   rcases Int.mul_eq_zero.1 this with h2 | h2 <;> omega
  ·have := nn_mul (a := s) (b := a) hs (by omega)
   have := nn_of (b := t) (t := -b) (by omega) (by grind)
   omega
theorem opp_on {a b c d : S31} (h : onB a b c = true) : Opp (crs c d a) (crs c d b) := by
 obtain ⟨s, t, k1, k2, k3, k4, k5⟩ := on_of_onB h
 refine opp_of k1 k2 k3 ?_
 have e : s * crs c d a + t * crs c d b = (d.f0 - c.f0) * ((s * a.f1 + t * b.f1) - (s + t) * c.f1) - (d.f1 - c.f1) * ((s * a.f0 + t * b.f0) - (s + t) * c.f0) := by unfold crs; grind
 rw [e, k4, k5]; grind
theorem opp_sgn {a b : Int} (h : sgn a * sgn b < 0) : Opp a b := by
 unfold Opp
 rcases Int.lt_trichotomy a 0 with h1 | h1 | h1
 ·right
  refine ⟨by omega, ?_⟩
  rcases Int.lt_or_le b 0 with h2 | h2
  ·have a1 := sgn_neg.2 h1; have a2 := sgn_neg.2 h2
   have := ps_mul (a := -sgn a) (b := -sgn b) (by omega) (by omega); grind
  ·exact h2
 ·omega
 ·left
  refine ⟨by omega, ?_⟩
  rcases Int.lt_or_le 0 b with h2 | h2
  ·have a1 := sgn_pos.2 h1; have a2 := sgn_pos.2 h2
   have := ps_mul a1 a2; omega
  ·exact h2
theorem opp_flip (a b c d : S31) : crs d c a = - crs c d a := by unfold crs; grind
theorem opp_neg {a b : Int} (h : Opp (-a) (-b)) : Opp a b := by unfold Opp at *; omega
theorem meet_opp {a b c d : S31} (h : meetB a b c d = true) : Opp (crs c d a) (crs c d b) ∧ Opp (crs a b c) (crs a b d) := by
 have zero : ∀ x y : Int, x = 0 → Opp x y := by intro x y hx; unfold Opp; omega
 have zero' : ∀ x y : Int, y = 0 → Opp x y := by intro x y hx; unfold Opp; omega
 unfold meetB at h
 simp only [Bool.or_eq_true, Bool.and_eq_true, decide_eq_true_eq] at h
 rcases h with h | h | h | h | ⟨h, h'⟩
 ·exact ⟨opp_on h, zero _ _ ((onB_iff _ _ _).1 h).1⟩
 ·have := opp_on (d := c) h
  rw [opp_flip a b c d, opp_flip b b c d] at this
  exact ⟨opp_neg this, zero' _ _ ((onB_iff _ _ _).1 h).1⟩
 ·exact ⟨zero _ _ ((onB_iff _ _ _).1 h).1, opp_on h⟩
 ·have := opp_on (d := a) h
  rw [opp_flip c c a b, opp_flip d d a b] at this
  exact ⟨zero' _ _ ((onB_iff _ _ _).1 h).1, opp_neg this⟩
 ·exact ⟨opp_sgn h', opp_sgn h⟩
theorem cross_on {a b c d : S31} (h1 : Opp (crs c d a) (crs c d b)) (h2 : Opp (crs a b c) (crs a b d)) (hp : 0 < par a b c d) :
  OnS a b (a.f0 * par a b c d + crs c d a * (b.f0 - a.f0)) (a.f1 * par a b c d + crs c d a * (b.f1 - a.f1)) (par a b c d) ∧ OnS c d (a.f0 * par a b c d + crs c d a * (b.f0 - a.f0)) (a.f1 * par a b c d + crs c d a * (b.f1 - a.f1)) (par a b c d) := by
 have e1 : crs c d b = crs c d a - par a b c d := by unfold crs par; grind
 have e2 := par_crs a b c d
 have ix : a.f0 * par a b c d + crs c d a * (b.f0 - a.f0) = crs a b d * c.f0 + -crs a b c * d.f0 := by unfold crs par; grind
 have iy : a.f1 * par a b c d + crs c d a * (b.f1 - a.f1) = crs a b d * c.f1 + -crs a b c * d.f1 := by unfold crs par; grind
 refine ⟨⟨par a b c d - crs c d a, crs c d a, ?_, ?_, by omega, by grind, by grind⟩, ⟨crs a b d, -crs a b c, ?_, ?_, by omega, ?_, ?_⟩⟩
 ·unfold Opp at h1; omega
 ·unfold Opp at h1; omega
 ·unfold Opp at h2; omega
 ·unfold Opp at h2; omega
 ·rw [ix, show crs a b d + -crs a b c = par a b c d by omega]
 ·rw [iy, show crs a b d + -crs a b c = par a b c d by omega]
theorem opp_neg' {a b : Int} (h : Opp a b) : Opp (-a) (-b) := by unfold Opp at *; omega
theorem opp_comm {a b : Int} (h : Opp a b) : Opp b a := by unfold Opp at *; omega
theorem cross_on' {a b c d : S31} (h : meetB a b c d = true) (hp : par a b c d ≠ 0) : ∃ s : Int, (s = 1 ∧ 0 < par a b c d ∨ s = -1 ∧ par a b c d < 0) ∧
  OnS a b (a.f0 * (s * par a b c d) + s * crs c d a * (b.f0 - a.f0)) (a.f1 * (s * par a b c d) + s * crs c d a * (b.f1 - a.f1)) (s * par a b c d) ∧ OnS c d (a.f0 * (s * par a b c d) + s * crs c d a * (b.f0 - a.f0)) (a.f1 * (s * par a b c d) + s * crs c d a * (b.f1 - a.f1)) (s * par a b c d) := by
 obtain ⟨h1, h2⟩ := meet_opp h
 rcases Int.lt_or_gt_of_ne hp with h3 | h3
 ·refine ⟨-1, Or.inr ⟨rfl, h3⟩, ?_⟩
  have e : par a b d c = -1 * par a b c d := by unfold par; grind
  have e2 : crs d c a = -1 * crs c d a := by unfold crs; grind
  have e3 : crs d c b = -1 * crs c d b := by unfold crs; grind
  have := cross_on (a := a) (b := b) (c := d) (d := c) (by rw [e2, e3]; have := opp_neg' h1; simpa using this) (opp_comm h2) (by rw [e]; omega)
  rw [e, e2] at this
  exact ⟨this.1, this.2.swap⟩
 ·refine ⟨1, Or.inl ⟨rfl, h3⟩, ?_⟩
  have := cross_on h1 h2 h3
  simp only [Int.one_mul]
  exact this
end Go.Proofs.Ythaklbjcjoolcaa.P
namespace Go.Proofs.Ythaklbjcjoolcaa.P
open Go.RowKit Go.Proofs.YthaklbjcjoolcaaW.PrintWords Go.Proofs.YthaklbjcjoolcaaW.PrintLast Go.Proofs.YthaklbjcjoolcaaW.PrintMore
set_option linter.unusedVariables false
set_option linter.unusedSimpArgs false
structure Bd (X Y D : Int) : Prop where
 x : -4398046511104 ≤ X ∧ X ≤ 4398046511104
 y : -4398046511104 ≤ Y ∧ Y ≤ 4398046511104
 d : 1 ≤ D ∧ D ≤ 1073741824
theorem side_is {a b : S31} (ha : okPt a = true) (hb : okPt b = true) {X Y D : Int} (h : Bd X Y D) : sideW a b X Y D = sd a b X Y D := by
 obtain ⟨hx, hy, hd⟩ := h
 rw [okPt_iff] at ha hb
 have h1 := mul_bd (a := a.f1) (b := D) (m := 4096) (n := 1073741824) (by omega) (by omega)
 have h2 := mul_bd (a := a.f0) (b := D) (m := 4096) (n := 1073741824) (by omega) (by omega)
 have h3 := mul_bd (a := b.f0 - a.f0) (b := Y - a.f1 * D) (m := 8192) (n := 8796093022208) (by omega) (by omega)
 have h4 := mul_bd (a := b.f1 - a.f1) (b := X - a.f0 * D) (m := 8192) (n := 8796093022208) (by omega) (by omega)
 unfold sideW sd
 rw [w64i (x := a.f1 * D) (by omega) (by omega), w64i (x := a.f0 * D) (by omega) (by omega), w64i (x := b.f0 - a.f0) (by omega) (by omega), w64i (x := b.f1 - a.f1) (by omega) (by omega), w64i (x := Y - a.f1 * D) (by omega) (by omega), w64i (x := X - a.f0 * D) (by omega) (by omega),
  w64i (x := (b.f0 - a.f0) * (Y - a.f1 * D)) (by omega) (by omega), w64i (x := (b.f1 - a.f1) * (X - a.f0 * D)) (by omega) (by omega), w64i (by omega) (by omega)]
theorem cor_w64 {c D : Int} (hc : -4096 ≤ c ∧ c ≤ 4096) (hd : 1 ≤ D ∧ D ≤ 1073741824) : wrap64 (c * D) = c * D := by
 have h1 := mul_bd (a := c) (b := D) (m := 4096) (n := 1073741824) (by omega) (by omega)
 exact w64i (by omega) (by omega)
theorem mn_bd {a b lo hi : Int} (ha : lo ≤ a ∧ a ≤ hi) (hb : lo ≤ b ∧ b ≤ hi) : (lo ≤ mn a b ∧ mn a b ≤ hi) ∧ lo ≤ mx a b ∧ mx a b ≤ hi := by
 unfold mn mx
 split <;> split <;> omega
theorem holds_iff {H : List S31} (hH : IsHull H H) (hok : allOk H = true) {X Y D : Int} (h : Bd X Y D) : holdsB H X Y D = true ↔ InH H X Y D := by
 have okH : ∀ i, i < H.length → okPt (pt H i) = true := fun i hi => List.all_eq_true.1 hok _ (pt_mem H i hi)
 have hD : 0 < D := by have := h.d; omega
 have bits : InH H X Y D ↔ (∀ i, i < H.length → 0 ≤ sd (pt H i) (pt H (nxt i H.length)) X Y D) ∧ (H.length < 3 → (mn (pt H 0).f0 (pt H (H.length - 1)).f0 * D ≤ X ∧ X ≤ mx (pt H 0).f0 (pt H (H.length - 1)).f0 * D) ∧ (mn (pt H 0).f1 (pt H (H.length - 1)).f1 * D ≤ Y ∧ Y ≤ mx (pt H 0).f1 (pt H (H.length - 1)).f1 * D)) := by
  constructor
  ·intro hi
   refine ⟨fun i hlt => by have := hi.2 _ (fm_edge hlt); rwa [fmE_v] at this, fun h3 => fmB_v.1 (fun g hg => hi.2 g (List.mem_append_right _ (by rw [if_pos h3]; exact hg)))⟩
  ·rintro ⟨h1, h2⟩
   refine ⟨hD, fun g hg => ?_⟩
   unfold fms at hg
   rw [List.mem_append] at hg
   rcases hg with hg | hg
   ·obtain ⟨i, hi, rfl⟩ := List.mem_map.1 hg
    rw [fmE_v]; exact h1 i (List.mem_range.1 hi)
   ·split at hg
    ·rename_i h3; exact fmB_v.2 (h2 h3) g hg
    ·simp at hg
 rw [bits]
 unfold holdsB
 by_cases h1 : H.length = 1
 ·rw [if_pos h1, decide_eq_true_eq]
  have o0 := (okPt_iff _).1 (okH 0 (by omega))
  rw [cor_w64 o0.1 h.d, cor_w64 o0.2 h.d, h1]
  have e0 : nxt 0 1 = 0 := rfl
  have em : ∀ c : Int, mn c c = c ∧ mx c c = c := fun c => by unfold mn mx; split <;> exact ⟨rfl, rfl⟩
  simp only [Nat.sub_self]
  rw [(em _).1, (em _).2, (em _).1, (em _).2]
  constructor
  ·rintro ⟨rfl, rfl⟩
   refine ⟨fun i hi => ?_, fun _ => ⟨⟨by omega, by omega⟩, by omega, by omega⟩⟩
   obtain rfl : i = 0 := by omega
   rw [e0]; unfold sd; grind
  ·rintro ⟨_, h2⟩
   have := h2 (by omega)
   exact ⟨by omega, by omega⟩
 ·rw [if_neg h1]
  by_cases h2 : H.length = 2
  ·rw [if_pos h2, decide_eq_true_eq]
   have o0 := (okPt_iff _).1 (okH 0 (by omega))
   have o1 := (okPt_iff _).1 (okH 1 (by omega))
   have b0 := mn_bd o0.1 o1.1
   have b1 := mn_bd o0.2 o1.2
   rw [cor_w64 b0.1 h.d, cor_w64 b0.2 h.d, cor_w64 b1.1 h.d, cor_w64 b1.2 h.d, side_is (okH 0 (by omega)) (okH 1 (by omega)) h, h2]
   have e0 : nxt 0 2 = 1 := rfl
   have e1 : nxt 1 2 = 0 := rfl
   have es : sd (pt H 1) (pt H 0) X Y D = - sd (pt H 0) (pt H 1) X Y D := by unfold sd; grind
   constructor
   ·rintro ⟨h3, h4⟩
    refine ⟨fun i hi => ?_, fun _ => h4⟩
    have : i = 0 ∨ i = 1 := by omega
    rcases this with rfl | rfl
    ·rw [e0]; omega
    ·rw [e1]; omega
   ·rintro ⟨h3, h4⟩
    have a0 := h3 0 (by omega)
    have a1 := h3 1 (by omega)
    rw [e0] at a0; rw [e1] at a1
    exact ⟨by omega, h4 (by omega)⟩
  ·rw [if_neg h2, List.all_eq_true]
   have hp := hH.pos
   constructor
   ·intro h3
    refine ⟨fun i hi => ?_, fun h4 => by omega⟩
    have := h3 i (List.mem_range.2 hi)
    rw [decide_eq_true_eq, ← nxt_mod hi, side_is (okH i hi) (okH _ (nxt_lt hp)) h] at this
    exact this
   ·rintro ⟨h3, _⟩ i hi
    have hi := List.mem_range.1 hi
    rw [decide_eq_true_eq, ← nxt_mod hi, side_is (okH i hi) (okH _ (nxt_lt hp)) h]
    exact h3 i hi
end Go.Proofs.Ythaklbjcjoolcaa.P
namespace Go.Proofs.Ythaklbjcjoolcaa.P
open Go.RowKit Go.Proofs.YthaklbjcjoolcaaW.PrintWords Go.Proofs.YthaklbjcjoolcaaW.PrintLast Go.Proofs.YthaklbjcjoolcaaW.PrintMore
set_option linter.unusedVariables false
set_option linter.unusedSimpArgs false
/-! ### extremes, lines -/
theorem lin_bd {u v : Int} (hu : -8192 ≤ u ∧ u ≤ 8192) (hv : -8192 ≤ v ∧ v ≤ 8192) {p : S31} (hp : okPt p = true) : -67108864 ≤ lin u v p ∧ lin u v p ≤ 67108864 := by
 rw [okPt_iff] at hp
 have h1 := mul_bd (a := u) (b := p.f0) (m := 8192) (n := 4096) (by omega) (by omega)
 have h2 := mul_bd (a := v) (b := p.f1) (m := 8192) (n := 4096) (by omega) (by omega)
 unfold lin; omega
theorem value_is {u v : Int} {p : S31} (h1 : wrap64 (u * p.f0) = u * p.f0) (h2 : wrap64 (v * p.f1) = v * p.f1) (h3 : wrap64 (lin u v p) = lin u v p) : plane_value.f u v p.f0 p.f1 = some (lin u v p) := by
 unfold plane_value.f
 rw [h1, h2]; unfold lin at *; rw [h3]
def Fine (u v : Int) (l : List S31) : Prop := ∀ p ∈ l, plane_value.f u v p.f0 p.f1 = some (lin u v p)
theorem fine_of {u v : Int} (hu : -8192 ≤ u ∧ u ≤ 8192) (hv : -8192 ≤ v ∧ v ≤ 8192) {l : List S31} (hl : allOk l = true) : Fine u v l := by
 intro p hp
 have ho := List.all_eq_true.1 hl p hp
 have hb := lin_bd hu hv ho
 rw [okPt_iff] at ho
 have h1 := mul_bd (a := u) (b := p.f0) (m := 8192) (n := 4096) (by omega) (by omega)
 have h2 := mul_bd (a := v) (b := p.f1) (m := 8192) (n := 4096) (by omega) (by omega)
 exact value_is (w64i (by omega) (by omega)) (w64i (by omega) (by omega)) (w64i (by omega) (by omega))
structure Ext (u v : Int) (l : List S31) (lo hi : Int) : Prop where
 ge : ∀ p ∈ l, lo ≤ lin u v p
 le : ∀ p ∈ l, lin u v p ≤ hi
 atlo : ∃ p ∈ l, lin u v p = lo
 athi : ∃ p ∈ l, lin u v p = hi
theorem ext_from (u v : Int) (l : List S31) (hf : Fine u v l) (hl : l.length < 9223372036854775807) : ∀ (n i : Nat) (lo hi : Int), l.length - i = n → i ≤ l.length → (∃ p ∈ l, lin u v p = lo) → (∃ p ∈ l, lin u v p = hi) → (∀ j, j < i → lo ≤ lin u v (pt l j) ∧ lin u v (pt l j) ≤ hi) →
  ∃ lo' hi', Ev (fun k => plane_extremes.l0 k u v lo hi l (l.length : Int) (i : Int)) (lo', hi') ∧ Ext u v l lo' hi'
 | 0, i, lo, hi, hn, hi', h1, h2, h3 => by
  refine ⟨lo, hi, Ev.step (f := fun _ => some (lo, hi)) (fun k => ?_) (Ev.now _), ?_⟩
  ·unfold plane_extremes.l0; rw [if_neg (by omega)]
  ·refine ⟨fun p hp => ?_, fun p hp => ?_, h1, h2⟩
   ·obtain ⟨j, hj, rfl⟩ := mem_pt hp; exact (h3 j (by omega)).1
   ·obtain ⟨j, hj, rfl⟩ := mem_pt hp; exact (h3 j (by omega)).2
 | n + 1, i, lo, hi, hn, hi', h1, h2, h3 => by
  have hlt : i < l.length := by omega
  have hm := pt_mem l i hlt
  obtain ⟨lo', hi'', he, hx⟩ := ext_from u v l hf hl n (i + 1) (mn lo (lin u v (pt l i))) (mx hi (lin u v (pt l i))) (by omega) (by omega)
   (by unfold mn; split; exact ⟨_, hm, rfl⟩; exact h1) (by unfold mx; split; exact ⟨_, hm, rfl⟩; exact h2)
   (fun j hj => by
    have a1 := mn_le lo (lin u v (pt l i))
    have a2 := le_mx hi (lin u v (pt l i))
    rcases Nat.lt_or_ge j i with h | h
    ·have := h3 j h; omega
    ·obtain rfl : j = i := by omega
     omega)
  refine ⟨lo', hi'', Ev.step (fun k => ?_) he, hx⟩
  conv => lhs; unfold plane_extremes.l0
  rw [if_pos (by omega), if_pos (by omega), if_pos (by omega), rd_pt, hf _ hm, Option.bind_some, Option.bind_some, w64i (x := (i : Int) + 1) (by omega) (by omega)]
  rfl
theorem ext_ev (u v : Int) (l : List S31) (hf : Fine u v l) (h0 : 0 < l.length) (hl : l.length < 9223372036854775807) : ∃ lo hi, Ev (fun k => plane_extremes.f k u v l) (lo, hi) ∧ Ext u v l lo hi := by
 have hm := pt_mem l 0 h0
 obtain ⟨lo, hi, he, hx⟩ := ext_from u v l hf hl (l.length - 0) 0 (lin u v (pt l 0)) (lin u v (pt l 0)) rfl (by omega) ⟨_, hm, rfl⟩ ⟨_, hm, rfl⟩ (fun j hj => by omega)
 refine ⟨lo, hi, ?_, hx⟩
 unfold plane_extremes.f
 refine ev_pos (by omega) ?_
 rw [show rd_T31 l 0 = pt l 0 from rfl, hf _ hm]
 exact he
def lineV (u v w : Int) : Bool × Int × Int × Int × Int × Int × Int × Bool := (false, 0, 0, 0, 2 * u, 2 * v, w, true)
theorem line_ev {u v : Int} (hu : -8192 ≤ u ∧ u ≤ 8192) (hv : -8192 ≤ v ∧ v ≤ 8192) {P Q : List S31} (hP : allOk P = true) (hQ : allOk Q = true) (p0 : 0 < P.length) (q0 : 0 < Q.length) (pl : P.length < 9223372036854775807) (ql : Q.length < 9223372036854775807) :
  ∃ t, Ev (fun k => plane_line.f k u v P Q) t ∧ ((Apt u v P Q ∧ ∃ w, t = lineV u v w ∧ (-134217728 ≤ w ∧ w ≤ 134217728) ∧ (∀ p ∈ P, 2 * lin u v p < w) ∧ ∀ q ∈ Q, w < 2 * lin u v q) ∨ (¬ Apt u v P Q ∧ t = (false, 0, 0, 0, 0, 0, 0, false))) := by
 obtain ⟨lo, hi, e1, x1⟩ := ext_ev u v P (fine_of hu hv hP) p0 pl
 obtain ⟨lo', hi', e2, x2⟩ := ext_ev u v Q (fine_of hu hv hQ) q0 ql
 obtain ⟨a, ha, ea⟩ := x1.athi
 obtain ⟨b, hb, eb⟩ := x2.atlo
 have ba := lin_bd hu hv (List.all_eq_true.1 hP _ ha)
 have bb := lin_bd hu hv (List.all_eq_true.1 hQ _ hb)
 by_cases h : hi ≥ lo'
 ·refine ⟨(false, 0, 0, 0, 0, 0, 0, false), ?_, Or.inr ⟨fun hA => ?_, rfl⟩⟩
  ·unfold plane_line.f
   exact Ev.bind e1 (Ev.bind e2 (ev_pos h (Ev.now _)))
  ·have := hA a ha b hb; omega
 ·refine ⟨lineV u v (hi + lo'), ?_, Or.inl ⟨fun p hp q hq => ?_, hi + lo', rfl, by omega, fun p hp => ?_, fun q hq => ?_⟩⟩
  ·unfold plane_line.f lineV
   refine Ev.bind e1 (Ev.bind e2 (ev_neg h ?_))
   simp only
   rw [w64i (x := 2 * u) (by omega) (by omega), w64i (x := 2 * v) (by omega) (by omega), w64i (x := hi + lo') (by omega) (by omega)]
   exact Ev.now _
  ·have := x1.le p hp; have := x2.ge q hq; omega
  ·have := x1.le p hp; omega
  ·have := x2.ge q hq; omega
/-! ### crossings, common points -/
theorem par_w {a b c d : S31} (ha : okPt a = true) (hb : okPt b = true) (hc : okPt c = true) (hd : okPt d = true) :
  wrap64 (wrap64 (wrap64 (b.f0 - a.f0) * wrap64 (d.f1 - c.f1)) - wrap64 (wrap64 (b.f1 - a.f1) * wrap64 (d.f0 - c.f0))) = par a b c d ∧ (-134217728 ≤ par a b c d ∧ par a b c d ≤ 134217728) := by
 rw [okPt_iff] at ha hb hc hd
 have h1 := mul_bd (a := b.f0 - a.f0) (b := d.f1 - c.f1) (m := 8192) (n := 8192) (by omega) (by omega)
 have h2 := mul_bd (a := b.f1 - a.f1) (b := d.f0 - c.f0) (m := 8192) (n := 8192) (by omega) (by omega)
 unfold par
 rw [w64i (x := b.f0 - a.f0) (by omega) (by omega), w64i (x := d.f1 - c.f1) (by omega) (by omega), w64i (x := b.f1 - a.f1) (by omega) (by omega), w64i (x := d.f0 - c.f0) (by omega) (by omega),
  w64i (x := (b.f0 - a.f0) * (d.f1 - c.f1)) (by omega) (by omega), w64i (x := (b.f1 - a.f1) * (d.f0 - c.f0)) (by omega) (by omega)]
 exact ⟨w64i (by omega) (by omega), by omega⟩
theorem at_w {a c d : S31} (ha : okPt a = true) (hc : okPt c = true) (hd : okPt d = true) :
  wrap64 (wrap64 (wrap64 (c.f0 - a.f0) * wrap64 (d.f1 - c.f1)) - wrap64 (wrap64 (c.f1 - a.f1) * wrap64 (d.f0 - c.f0))) = crs c d a := by
 have hb := crs_bd hc hd ha
 rw [okPt_iff] at ha hc hd
 have h1 := mul_bd (a := c.f0 - a.f0) (b := d.f1 - c.f1) (m := 8192) (n := 8192) (by omega) (by omega)
 have h2 := mul_bd (a := c.f1 - a.f1) (b := d.f0 - c.f0) (m := 8192) (n := 8192) (by omega) (by omega)
 rw [w64i (x := c.f0 - a.f0) (by omega) (by omega), w64i (x := d.f1 - c.f1) (by omega) (by omega), w64i (x := c.f1 - a.f1) (by omega) (by omega), w64i (x := d.f0 - c.f0) (by omega) (by omega),
  w64i (x := (c.f0 - a.f0) * (d.f1 - c.f1)) (by omega) (by omega), w64i (x := (c.f1 - a.f1) * (d.f0 - c.f0)) (by omega) (by omega)]
 have e : (c.f0 - a.f0) * (d.f1 - c.f1) - (c.f1 - a.f1) * (d.f0 - c.f0) = crs c d a := by unfold crs; grind
 rw [e]; exact w64i (by omega) (by omega)
theorem comb_w {a b D t : Int} (ha : -4096 ≤ a ∧ a ≤ 4096) (hb : -8192 ≤ b ∧ b ≤ 8192) (hD : -134217728 ≤ D ∧ D ≤ 134217728) (ht : -134217728 ≤ t ∧ t ≤ 134217728) :
  wrap64 (wrap64 (a * D) + wrap64 (t * wrap64 b)) = a * D + t * b ∧ (-4398046511104 ≤ a * D + t * b ∧ a * D + t * b ≤ 4398046511104) := by
 have h1 := mul_bd (a := a) (b := D) (m := 4096) (n := 134217728) (by omega) (by omega)
 have h2 := mul_bd (a := t) (b := b) (m := 134217728) (n := 8192) (by omega) (by omega)
 rw [w64i (x := b) (by omega) (by omega), w64i (x := a * D) (by omega) (by omega), w64i (x := t * b) (by omega) (by omega)]
 exact ⟨w64i (by omega) (by omega), by omega⟩
def Crs (a b c d : S31) : Prop := par a b c d ≠ 0 ∧ meetB a b c d = true
theorem crossing_ev {a b c d : S31} (ha : okPt a = true) (hb : okPt b = true) (hc : okPt c = true) (hd : okPt d = true) :
  ∃ t, Ev (fun k => plane_crossing.f k a.f0 a.f1 b.f0 b.f1 c.f0 c.f1 d.f0 d.f1) t ∧ ((¬ Crs a b c d ∧ t = (false, 0, 0, 0, 0, 0, 0, false)) ∨ ∃ X Y D, t = (true, X, Y, D, 0, 0, 0, true) ∧ Bd X Y D ∧ OnS a b X Y D ∧ OnS c d X Y D) := by
 obtain ⟨pw, pb⟩ := par_w ha hb hc hd
 have aw := at_w ha hc hd
 have ab := crs_bd hc hd ha
 have oa := (okPt_iff a).1 ha
 have ob := (okPt_iff b).1 hb
 have no : ∀ j : Bool, j = true → Ev (fun k => plane_crossing.j0 k (wrap64 (b.f0 - a.f0)) (wrap64 (b.f1 - a.f1)) (wrap64 (d.f0 - c.f0)) (wrap64 (d.f1 - c.f1)) (par a b c d) j a.f0 a.f1 b.f0 b.f1 c.f0 c.f1 d.f0 d.f1) (false, 0, 0, 0, 0, 0, 0, false) := by
  intro j hj
  refine Ev.step (f := fun _ => some (false, 0, 0, 0, 0, 0, 0, false)) (fun k => ?_) (Ev.now _)
  rw [plane_crossing.j0, if_pos hj]
 by_cases h0 : par a b c d = 0
 ·refine ⟨(false, 0, 0, 0, 0, 0, 0, false), ?_, Or.inl ⟨fun h => h.1 h0, rfl⟩⟩
  unfold plane_crossing.f
  rw [pw]
  exact ev_pos h0 (no true rfl)
 ·by_cases hm : meetB a b c d = true
  ·obtain ⟨s, hs, on1, on2⟩ := cross_on' hm h0
   have hx := comb_w (a := a.f0) (b := b.f0 - a.f0) (D := s * par a b c d) (t := s * crs c d a) (by omega) (by omega) (by rcases hs with ⟨rfl, _⟩ | ⟨rfl, _⟩ <;> omega) (by rcases hs with ⟨rfl, _⟩ | ⟨rfl, _⟩ <;> omega)
   have hy := comb_w (a := a.f1) (b := b.f1 - a.f1) (D := s * par a b c d) (t := s * crs c d a) (by omega) (by omega) (by rcases hs with ⟨rfl, _⟩ | ⟨rfl, _⟩ <;> omega) (by rcases hs with ⟨rfl, _⟩ | ⟨rfl, _⟩ <;> omega)
   refine ⟨(true, a.f0 * (s * par a b c d) + s * crs c d a * (b.f0 - a.f0), a.f1 * (s * par a b c d) + s * crs c d a * (b.f1 - a.f1), s * par a b c d, 0, 0, 0, true), ?_, Or.inr ⟨_, _, _, rfl, ⟨hx.2, hy.2, by rcases hs with ⟨rfl, _⟩ | ⟨rfl, _⟩ <;> omega⟩, on1, on2⟩⟩
   unfold plane_crossing.f
   rw [pw]
   refine ev_neg h0 ?_
   have hme : Ev (fun k => plane_segment_meets.f k a.f0 a.f1 b.f0 b.f1 c.f0 c.f1 d.f0 d.f1) true := Ev.step (f := fun _ => some true) (fun k => by rw [meets_is ha hb hc hd, hm]) (Ev.now _)
   refine Ev.bind hme ?_
   refine Ev.step (f := fun _ => some (true, a.f0 * (s * par a b c d) + s * crs c d a * (b.f0 - a.f0), a.f1 * (s * par a b c d) + s * crs c d a * (b.f1 - a.f1), s * par a b c d, 0, 0, 0, true)) (fun k => ?_) (Ev.now _)
   rw [plane_crossing.j0, if_neg (by decide), aw]
   rcases hs with ⟨rfl, hp⟩ | ⟨rfl, hp⟩
   ·rw [if_neg (by omega)]
    rw [Int.one_mul, Int.one_mul] at hx hy
    rw [hx.1, hy.1, Int.one_mul, Int.one_mul]
   ·rw [if_pos hp]
    rw [show -1 * par a b c d = - par a b c d by omega, show -1 * crs c d a = - crs c d a by omega] at hx hy
    rw [w64i (x := -par a b c d) (by omega) (by omega), w64i (x := -crs c d a) (by omega) (by omega), hx.1, hy.1, show -1 * par a b c d = - par a b c d by omega, show -1 * crs c d a = - crs c d a by omega]
  ·refine ⟨(false, 0, 0, 0, 0, 0, 0, false), ?_, Or.inl ⟨fun h => hm h.2, rfl⟩⟩
   unfold plane_crossing.f
   rw [pw]
   refine ev_neg h0 ?_
   rw [Bool.not_eq_true] at hm
   have hme : Ev (fun k => plane_segment_meets.f k a.f0 a.f1 b.f0 b.f1 c.f0 c.f1 d.f0 d.f1) false := Ev.step (f := fun _ => some false) (fun k => by rw [meets_is ha hb hc hd, hm]) (Ev.now _)
   refine Ev.bind hme ?_
   exact no _ rfl
def ComV (P Q : List S31) (t : Bool × Int × Int × Int × Int × Int × Int) (N : Prop) : Prop :=
 (t = (false, 0, 0, 0, 0, 0, 0) ∧ N) ∨ ∃ X Y D, t = (true, X, Y, D, 0, 0, 0) ∧ Bd X Y D ∧ InH P X Y D ∧ InH Q X Y D
section
variable {P Q : List S31} (hP : IsHull P P) (hQ : IsHull Q Q) (okP : allOk P = true) (okQ : allOk Q = true) (lP : P.length ≤ 4096) (lQ : Q.length ≤ 4096)
include hP hQ okP okQ lP lQ
theorem com_l3 (i : Nat) (hi : i < P.length) (N : Prop) (next : ∃ t, Ev (fun k => plane_common.l2 k P Q (P.length : Int) ((i + 1 : Nat) : Int)) t ∧ ComV P Q t N) : ∀ (m j : Nat), Q.length - j = m → j ≤ Q.length →
  ∃ t, Ev (fun k => plane_common.l3 k P Q (i : Int) (P.length : Int) (i : Int) (Q.length : Int) (j : Int)) t ∧ ComV P Q t ((∀ k, j ≤ k → k < Q.length → ¬ Crs (pt P i) (pt P (nxt i P.length)) (pt Q k) (pt Q (nxt k Q.length))) ∧ N)
 | 0, j, hm, hj => by
  obtain ⟨t, ht, hc⟩ := next
  refine ⟨t, Ev.step (fun k => ?_) ht, ?_⟩
  ·conv => lhs; unfold plane_common.l3
   rw [if_neg (by omega), w64i (x := (i : Int) + 1) (by omega) (by omega)]
   rfl
  ·rcases hc with ⟨h1, h2⟩ | h
   ·exact Or.inl ⟨h1, fun k h3 h4 => by omega, h2⟩
   ·exact Or.inr h
 | m + 1, j, hm, hj => by
  have hlt : j < Q.length := by omega
  have ni := nxt_lt (i := i) hP.pos
  have nj := nxt_lt (i := j) hQ.pos
  have okp : ∀ n, n < P.length → okPt (pt P n) = true := fun n hn => List.all_eq_true.1 okP _ (pt_mem P n hn)
  have okq : ∀ n, n < Q.length → okPt (pt Q n) = true := fun n hn => List.all_eq_true.1 okQ _ (pt_mem Q n hn)
  obtain ⟨t, ht, hc⟩ := com_l3 i hi N next m (j + 1) (by omega) (by omega)
  obtain ⟨v, hv, hvc⟩ := crossing_ev (okp i hi) (okp _ ni) (okq j hlt) (okq _ nj)
  have e1 := edge_is P i hi lP
  have e2 := edge_is Q j hlt lQ
  rw [← nxt_mod hi] at e1
  rw [← nxt_mod hlt] at e2
  have go : ∀ (r : Bool × Int × Int × Int × Int × Int × Int), Ev (fun k => if v.2.2.2.2.2.2.2 = true then (some (v.1, v.2.1, v.2.2.1, v.2.2.2.1, v.2.2.2.2.1, v.2.2.2.2.2.1, v.2.2.2.2.2.2.1)) else (plane_common.l3 k P Q (i : Int) (P.length : Int) (i : Int) (Q.length : Int) (wrap64 ((j : Int) + 1)))) r → Ev (fun k => plane_common.l3 k P Q (i : Int) (P.length : Int) (i : Int) (Q.length : Int) (j : Int)) r := by
   intro r hr
   refine Ev.step (f := fun k => (plane_crossing.f k (pt P i).f0 (pt P i).f1 (pt P (nxt i P.length)).f0 (pt P (nxt i P.length)).f1 (pt Q j).f0 (pt Q j).f1 (pt Q (nxt j Q.length)).f0 (pt Q (nxt j Q.length)).f1).bind fun bt656 => (if bt656.2.2.2.2.2.2.2 = true then (some (bt656.1, bt656.2.1, bt656.2.2.1, bt656.2.2.2.1, bt656.2.2.2.2.1, bt656.2.2.2.2.2.1, bt656.2.2.2.2.2.2.1)) else (plane_common.l3 k P Q (i : Int) (P.length : Int) (i : Int) (Q.length : Int) (wrap64 ((j : Int) + 1))))) (fun k => ?_) (Ev.bind hv hr)
   conv => lhs; unfold plane_common.l3
   rw [if_pos (by omega), e1, e2, Option.bind_some, Option.bind_some]
  rcases hvc with ⟨hn, rfl⟩ | ⟨X, Y, D, rfl, hb, o1, o2⟩
  ·refine ⟨t, go t (ev_neg (by decide) ?_), ?_⟩
   ·rw [w64i (x := (j : Int) + 1) (by omega) (by omega)]; exact ht
   ·rcases hc with ⟨h1, h2, h3⟩ | h
    ·refine Or.inl ⟨h1, fun k h4 h5 => ?_, h3⟩
     rcases Nat.lt_or_ge j k with h6 | h6
     ·exact h2 k (by omega) h5
     ·obtain rfl : k = j := by omega
      exact hn
    ·exact Or.inr h
  ·have hD : 0 < D := by have := hb.d; omega
   refine ⟨_, go _ (ev_pos rfl (Ev.now _)), Or.inr ⟨X, Y, D, rfl, hb, OnS.inH hP (pt_mem _ _ hi) (pt_mem _ _ ni) hD o1, OnS.inH hQ (pt_mem _ _ hlt) (pt_mem _ _ nj) hD o2⟩⟩
theorem com_l2 : ∀ (m i : Nat), P.length - i = m → i ≤ P.length →
  ∃ t, Ev (fun k => plane_common.l2 k P Q (P.length : Int) (i : Int)) t ∧ ComV P Q t (∀ n, i ≤ n → n < P.length → ∀ k, k < Q.length → ¬ Crs (pt P n) (pt P (nxt n P.length)) (pt Q k) (pt Q (nxt k Q.length)))
 | 0, i, hm, hi => by
  refine ⟨(false, 0, 0, 0, 0, 0, 0), Ev.step (f := fun _ => some (false, 0, 0, 0, 0, 0, 0)) (fun k => ?_) (Ev.now _), Or.inl ⟨rfl, fun n h1 h2 => by omega⟩⟩
  unfold plane_common.l2
  rw [if_neg (by omega)]
 | m + 1, i, hm, hi => by
  have hlt : i < P.length := by omega
  obtain ⟨t, ht, hc⟩ := com_l3 hP hQ okP okQ lP lQ i hlt _ (com_l2 m (i + 1) (by omega) (by omega)) Q.length 0 (by omega) (by omega)
  refine ⟨t, Ev.step (fun k => ?_) ht, ?_⟩
  ·conv => lhs; unfold plane_common.l2
   rw [if_pos (by omega)]
   rfl
  ·rcases hc with ⟨h1, h2, h3⟩ | h
   ·refine Or.inl ⟨h1, fun n h4 h5 k h6 => ?_⟩
    rcases Nat.lt_or_ge i n with h7 | h7
    ·exact h3 n (by omega) h5 k h6
    ·obtain rfl : n = i := by omega
     exact h2 k (by omega) h6
   ·exact Or.inr h
theorem com_l1 (N : Prop) (next : ∃ t, Ev (fun k => plane_common.l2 k P Q (P.length : Int) ((0 : Nat) : Int)) t ∧ ComV P Q t N) : ∀ (m j : Nat), Q.length - j = m → j ≤ Q.length →
  ∃ t, Ev (fun k => plane_common.l1 k P Q Q (Q.length : Int) (j : Int)) t ∧ ComV P Q t ((∀ k, j ≤ k → k < Q.length → ¬ InH P (pt Q k).f0 (pt Q k).f1 1) ∧ N)
 | 0, j, hm, hj => by
  obtain ⟨t, ht, hc⟩ := next
  refine ⟨t, Ev.step (fun k => ?_) ht, ?_⟩
  ·conv => lhs; unfold plane_common.l1
   rw [if_neg (by omega)]
   rfl
  ·rcases hc with ⟨h1, h2⟩ | h
   ·exact Or.inl ⟨h1, fun k h3 h4 => by omega, h2⟩
   ·exact Or.inr h
 | m + 1, j, hm, hj => by
  have hlt : j < Q.length := by omega
  have hb : Bd (pt Q j).f0 (pt Q j).f1 1 := by
   have := (okPt_iff _).1 (List.all_eq_true.1 okQ _ (pt_mem Q j hlt))
   exact ⟨by omega, by omega, by omega⟩
  have hf : plane_holds.f P (pt Q j).f0 (pt Q j).f1 1 = some (holdsB P (pt Q j).f0 (pt Q j).f1 1) := by unfold plane_holds.f; rw [if_pos lP]
  have hiff := holds_iff hP okP hb
  by_cases hh : holdsB P (pt Q j).f0 (pt Q j).f1 1 = true
  ·refine ⟨(true, (pt Q j).f0, (pt Q j).f1, 1, 0, 0, 0), Ev.step (f := fun _ => some (true, (pt Q j).f0, (pt Q j).f1, 1, 0, 0, 0)) (fun k => ?_) (Ev.now _), Or.inr ⟨_, _, _, rfl, hb, hiff.1 hh, hull_in hQ (pt_mem Q j hlt)⟩⟩
   unfold plane_common.l1
   rw [if_pos (by omega), if_pos (by omega), if_pos (by omega), rd_pt, hf, Option.bind_some, if_pos hh]
  ·obtain ⟨t, ht, hc⟩ := com_l1 N next m (j + 1) (by omega) (by omega)
   refine ⟨t, Ev.step (fun k => ?_) ht, ?_⟩
   ·conv => lhs; unfold plane_common.l1
    rw [if_pos (by omega), if_pos (by omega), if_pos (by omega), rd_pt, hf, Option.bind_some, if_neg hh, w64i (x := (j : Int) + 1) (by omega) (by omega)]
    rfl
   ·rcases hc with ⟨h1, h2, h3⟩ | h
    ·refine Or.inl ⟨h1, fun k h4 h5 => ?_, h3⟩
     rcases Nat.lt_or_ge j k with h6 | h6
     ·exact h2 k (by omega) h5
     ·obtain rfl : k = j := by omega
      exact fun hi => hh (hiff.2 hi)
    ·exact Or.inr h
theorem com_l0 (N : Prop) (next : ∃ t, Ev (fun k => plane_common.l1 k P Q Q (Q.length : Int) ((0 : Nat) : Int)) t ∧ ComV P Q t N) : ∀ (m j : Nat), P.length - j = m → j ≤ P.length →
  ∃ t, Ev (fun k => plane_common.l0 k P Q P (P.length : Int) (j : Int)) t ∧ ComV P Q t ((∀ k, j ≤ k → k < P.length → ¬ InH Q (pt P k).f0 (pt P k).f1 1) ∧ N)
 | 0, j, hm, hj => by
  obtain ⟨t, ht, hc⟩ := next
  refine ⟨t, Ev.step (fun k => ?_) ht, ?_⟩
  ·conv => lhs; unfold plane_common.l0
   rw [if_neg (by omega)]
   rfl
  ·rcases hc with ⟨h1, h2⟩ | h
   ·exact Or.inl ⟨h1, fun k h3 h4 => by omega, h2⟩
   ·exact Or.inr h
 | m + 1, j, hm, hj => by
  have hlt : j < P.length := by omega
  have hb : Bd (pt P j).f0 (pt P j).f1 1 := by
   have := (okPt_iff _).1 (List.all_eq_true.1 okP _ (pt_mem P j hlt))
   exact ⟨by omega, by omega, by omega⟩
  have hf : plane_holds.f Q (pt P j).f0 (pt P j).f1 1 = some (holdsB Q (pt P j).f0 (pt P j).f1 1) := by unfold plane_holds.f; rw [if_pos lQ]
  have hiff := holds_iff hQ okQ hb
  by_cases hh : holdsB Q (pt P j).f0 (pt P j).f1 1 = true
  ·refine ⟨(true, (pt P j).f0, (pt P j).f1, 1, 0, 0, 0), Ev.step (f := fun _ => some (true, (pt P j).f0, (pt P j).f1, 1, 0, 0, 0)) (fun k => ?_) (Ev.now _), Or.inr ⟨_, _, _, rfl, hb, hull_in hP (pt_mem P j hlt), hiff.1 hh⟩⟩
   unfold plane_common.l0
   rw [if_pos (by omega), if_pos (by omega), if_pos (by omega), rd_pt, hf, Option.bind_some, if_pos hh]
  ·obtain ⟨t, ht, hc⟩ := com_l0 N next m (j + 1) (by omega) (by omega)
   refine ⟨t, Ev.step (fun k => ?_) ht, ?_⟩
   ·conv => lhs; unfold plane_common.l0
    rw [if_pos (by omega), if_pos (by omega), if_pos (by omega), rd_pt, hf, Option.bind_some, if_neg hh, w64i (x := (j : Int) + 1) (by omega) (by omega)]
    rfl
   ·rcases hc with ⟨h1, h2, h3⟩ | h
    ·refine Or.inl ⟨h1, fun k h4 h5 => ?_, h3⟩
     rcases Nat.lt_or_ge j k with h6 | h6
     ·exact h2 k (by omega) h5
     ·obtain rfl : k = j := by omega
      exact fun hi => hh (hiff.2 hi)
    ·exact Or.inr h
theorem common_ev : ∃ t, Ev (fun k => plane_common.f k P Q) t ∧ ComV P Q t (¬ Common P Q) := by
 obtain ⟨t, ht, hc⟩ := com_l0 hP hQ okP okQ lP lQ _ (com_l1 hP hQ okP okQ lP lQ _ (com_l2 hP hQ okP okQ lP lQ P.length 0 (by omega) (by omega)) Q.length 0 (by omega) (by omega)) P.length 0 (by omega) (by omega)
 refine ⟨t, ht, ?_⟩
 rcases hc with ⟨h1, h2, h3, h4⟩ | h
 ·refine Or.inl ⟨h1, ?_⟩
  rintro ⟨X, Y, D, i1, i2⟩
  rcases found_of hP hQ i1 i2 with ⟨i, hi, h⟩ | ⟨k, hk, h⟩ | ⟨i, k, hi, hk, h5, h6⟩
  ·exact h2 i (by omega) hi h
  ·exact h3 k (by omega) hk h
  ·exact h4 i (by omega) hi k hk ⟨h5, h6⟩
 ·exact Or.inr h
def SepV (P Q : List S31) (t : Bool × Int × Int × Int × Int × Int × Int × Int) : Prop :=
 (∃ u v w, t = (false, 0, 0, 0, 2 * u, 2 * v, w, 0) ∧ (-8192 ≤ u ∧ u ≤ 8192) ∧ (-8192 ≤ v ∧ v ≤ 8192) ∧ (-134217728 ≤ w ∧ w ≤ 134217728) ∧ (∀ p ∈ P, 2 * lin u v p < w) ∧ ∀ q ∈ Q, w < 2 * lin u v q) ∨
 ∃ X Y D, t = (true, X, Y, D, 0, 0, 0, 0) ∧ Bd X Y D ∧ InH P X Y D ∧ InH Q X Y D
theorem sepL_ev : ∀ ds : List S31, (∀ d ∈ ds, (-8192 ≤ d.f0 ∧ d.f0 ≤ 8192) ∧ -8192 ≤ d.f1 ∧ d.f1 ≤ 8192) → ((∃ d ∈ ds, Apt d.f0 d.f1 P Q) ∨ Common P Q) → ∃ t, Ev (fun k => sepL k P Q ds) t ∧ SepV P Q t
 | [], _, h => by
  obtain ⟨t, ht, hc⟩ := common_ev hP hQ okP okQ lP lQ
  have hC : Common P Q := by
   rcases h with ⟨d, hd, _⟩ | h
   ·simp at hd
   ·exact h
  rcases hc with ⟨_, hn⟩ | ⟨X, Y, D, rfl, hb, i1, i2⟩
  ·exact absurd hC hn
  ·exact ⟨_, Ev.bind ht (Ev.now _), Or.inr ⟨X, Y, D, rfl, hb, i1, i2⟩⟩
 | d :: ds, hd, h => by
  have hb := hd d (by simp)
  obtain ⟨t, ht, hc⟩ := line_ev hb.1 hb.2 okP okQ hP.pos hQ.pos (by omega) (by omega)
  rcases hc with ⟨_, w, rfl, hw, h1, h2⟩ | ⟨hn, rfl⟩
  ·exact ⟨_, Ev.bind ht (ev_pos rfl (Ev.now _)), Or.inl ⟨d.f0, d.f1, w, rfl, hb.1, hb.2, hw, h1, h2⟩⟩
  ·have h' : (∃ d ∈ ds, Apt d.f0 d.f1 P Q) ∨ Common P Q := by
    rcases h with ⟨e, he, hA⟩ | h
    ·rw [List.mem_cons] at he
     rcases he with rfl | he
     ·exact absurd hA hn
     ·exact Or.inl ⟨e, he, hA⟩
    ·exact Or.inr h
   obtain ⟨t, ht2, hc2⟩ := sepL_ev ds (fun e he => hd e (by simp [he])) h'
   exact ⟨t, Ev.bind ht (ev_neg (by decide) ht2), hc2⟩
end
theorem dirs_bd {P Q : List S31} (okP : allOk P = true) (okQ : allOk Q = true) (p0 : 0 < P.length) (q0 : 0 < Q.length) : ∀ d ∈ dirM P Q 2, (-8192 ≤ d.f0 ∧ d.f0 ≤ 8192) ∧ -8192 ≤ d.f1 ∧ d.f1 ≤ 8192 := by
 have hE : ∀ l : List S31, allOk l = true → 0 < l.length → ∀ d ∈ dirE l l.length, (-8192 ≤ d.f0 ∧ d.f0 ≤ 8192) ∧ -8192 ≤ d.f1 ∧ d.f1 ≤ 8192 := by
  intro l hl h0 d hd
  unfold dirE at hd
  obtain ⟨i, hi, h⟩ := List.mem_flatMap.1 hd
  have hi := List.mem_range.1 hi
  have o1 := (okPt_iff _).1 (List.all_eq_true.1 hl _ (pt_mem l i hi))
  have o2 := (okPt_iff _).1 (List.all_eq_true.1 hl _ (pt_mem l ((i + 1) % l.length) (Nat.mod_lt _ h0)))
  have e0 : (edgeD l i).f0 = (pt l ((i + 1) % l.length)).f0 - (pt l i).f0 := rfl
  have e1 : (edgeD l i).f1 = (pt l ((i + 1) % l.length)).f1 - (pt l i).f1 := rfl
  unfold four at h
  simp only [List.mem_cons, List.not_mem_nil, or_false] at h
  rcases h with rfl | rfl | rfl | rfl <;> (simp only; omega)
 intro d hd
 unfold dirM at hd
 rw [if_pos (by omega), if_pos (by omega), List.mem_append, List.mem_append, List.mem_singleton] at hd
 rcases hd with (rfl | hd) | hd
 ·have o1 := (okPt_iff _).1 (List.all_eq_true.1 okP _ (pt_mem P 0 p0))
  have o2 := (okPt_iff _).1 (List.all_eq_true.1 okQ _ (pt_mem Q 0 q0))
  simp only; omega
 ·exact hE P okP p0 d hd
 ·exact hE Q okQ q0 d hd
theorem separate_ev {a b : List S31} (ha : isSetB a = true) (hb : isSetB b = true) : ∃ t, Ev (fun k => plane_Separate.f k a b) t ∧ SepV (cornersS a) (cornersS b) t := by
 obtain ⟨⟨a1, a2⟩, a3⟩ := (isSetB_iff a).1 ha
 obtain ⟨⟨b1, b2⟩, b3⟩ := (isSetB_iff b).1 hb
 have hP := hull_self (corners_hull a a1)
 have hQ := hull_self (corners_hull b b1)
 have lP := cornersS_len a
 have lQ := cornersS_len b
 have okP := cornersS_ok a3
 have okQ := cornersS_ok b3
 obtain ⟨t, ht, hc⟩ := sepL_ev hP hQ okP okQ (by omega) (by omega) (dirM (cornersS a) (cornersS b) 2) (dirs_bd okP okQ hP.pos hQ.pos) (sep_or hP hQ)
 exact ⟨t, by unfold plane_Separate.f; exact ev_pos ⟨ha, hb⟩ ht, hc⟩
theorem sepV_meet {P Q : List S31} (hP : IsHull P P) (hQ : IsHull Q Q) {t : Bool × Int × Int × Int × Int × Int × Int × Int} (h : SepV P Q t) : t.2.2.2.2.2.2.2 = 0 ∧ (t.1 = true ↔ Common P Q) := by
 rcases h with ⟨u, v, w, rfl, _, _, _, h1, h2⟩ | ⟨X, Y, D, rfl, _, i1, i2⟩
 ·refine ⟨rfl, fun h => by simp at h, fun hC => ?_⟩
  refine absurd hC (apt_common hP hQ (u := u) (v := v) (fun p hp q hq => ?_))
  have := h1 p hp; have := h2 q hq; omega
 ·exact ⟨rfl, fun _ => ⟨X, Y, D, i1, i2⟩, fun _ => rfl⟩
end Go.Proofs.Ythaklbjcjoolcaa.P
namespace Go.Proofs.Ythaklbjcjoolcaa.Pure
open Go.RowKit Go.Proofs.Ythaklbjcjoolcaa.P Go.Proofs.YthaklbjcjoolcaaW.PrintWords Go.Proofs.YthaklbjcjoolcaaW.PrintLast Go.Proofs.YthaklbjcjoolcaaW.PrintMore
def mir (far : Int) (p : S31) : S31 := ⟨2 * far + 1 - p.f0, p.f1⟩
theorem end_ev {x y : List S31} (hx : isSetB x = true) (hy : isSetB y = true) (lx : x.length ≤ 60) (ly : y.length ≤ 60) : Ev (fun k => silversidelaw01_PlaneMeets.j3 k x y) true := by
 obtain ⟨⟨x1, x2⟩, x3⟩ := (isSetB_iff x).1 hx
 obtain ⟨⟨y1, y2⟩, y3⟩ := (isSetB_iff y).1 hy
 have sx := corners_set x1 (by omega) x3
 have sy := corners_set y1 (by omega) y3
 obtain ⟨t, ht, hs⟩ := separate_ev hx hy
 obtain ⟨u, hu, hs'⟩ := separate_ev sx sy
 rw [corners_again x1, corners_again y1] at hs'
 have hP := hull_self (corners_hull x x1)
 have hQ := hull_self (corners_hull y y1)
 obtain ⟨e1, m1⟩ := sepV_meet hP hQ hs
 obtain ⟨e2, m2⟩ := sepV_meet hP hQ hs'
 have hb : (t.1 == u.1) = true := by
  rw [beq_iff_eq, Bool.eq_iff_iff, m1, m2]
 have hj4 : Ev (fun k => silversidelaw01_PlaneMeets.j4 k x y (cornersS x) (cornersS y) false) true := by
  refine Ev.step (f := fun k => ((plane_Separate.f k x y).bind fun bt426 => ((plane_Separate.f k (cornersS x) (cornersS y)).bind fun bt435 => (if bt426.2.2.2.2.2.2.2 = 0 then (if bt435.2.2.2.2.2.2.2 = 0 then (if (bt426.1 == bt435.1) = true then ((silversidelaw01_awake.f k).bind fun t444 => (some t444)) else (some false)) else (some false)) else (some false))))) (fun k => ?_) ?_
  ·rw [silversidelaw01_PlaneMeets.j4, if_neg (by decide)]
  ·exact Ev.bind ht (Ev.bind hu (ev_pos e1 (ev_pos e2 (ev_pos hb awake_bind))))
 have lxs := ((isSetB_iff _).1 sx).1
 have lys := ((isSetB_iff _).1 sy).1
 refine Ev.step (f := fun k => ((silversideref01_Set.f k (cornersS x)).bind fun t424 => (if t424 = true then ((silversideref01_Set.f k (cornersS y)).bind fun t425 => (silversidelaw01_PlaneMeets.j4 k x y (cornersS x) (cornersS y) (!t425))) else (silversidelaw01_PlaneMeets.j4 k x y (cornersS x) (cornersS y) true)))) (fun k => ?_) ?_
 ·rw [silversidelaw01_PlaneMeets.j3, hull_is hx, hull_is hy, Option.bind_some, Option.bind_some, if_pos rfl, if_pos rfl]
 ·have s1 := set_ev (cornersS x) (by omega)
  have s2 := set_ev (cornersS y) (by omega)
  rw [sx] at s1
  rw [sy] at s2
  exact Ev.bind s1 (ev_pos rfl (Ev.bind s2 hj4))
theorem mir_common {x : List S31} (x1 : 1 ≤ x.length) {far : Int} (hf : ∀ p ∈ x, p.f0 ≤ far) : ¬ Common (cornersS x) (cornersS (x.map (mir far))) := by
 have hP := corners_hull x x1
 have hQ := corners_hull (x.map (mir far)) (by rw [List.length_map]; omega)
 refine apt_common (hull_self hP) (hull_self hQ) (u := 1) (v := 0) (fun p hp q hq => ?_)
 obtain ⟨i, hi, rfl⟩ := mem_pt hp
 obtain ⟨j, hj, rfl⟩ := mem_pt hq
 have a1 := hf _ (hP.mem i hi)
 obtain ⟨r, hr, e⟩ := List.mem_map.1 (hQ.mem j hj)
 have a2 := hf r hr
 have : (pt (cornersS (x.map (mir far))) j).f0 = 2 * far + 1 - r.f0 := by rw [← e]; rfl
 unfold lin; omega
theorem mir_ev {x y : List S31} (hx : isSetB x = true) (hy : isSetB y = true) (lx : x.length ≤ 60) (ly : y.length ≤ 60) {far : Int} (h0 : 0 ≤ far) (h1 : far ≤ 4096) (hf : ∀ p ∈ x, p.f0 ≤ far) {b : Bool} (hb : b = true) {v1 v2 v3 v4 v5 v6 : Int} : ∀ (m j : Nat), x.length - j = m → j ≤ x.length →
  Ev (fun k => silversidelaw01_PlaneMeets.l1 k x y 0 far ((x.take j).map (mir far)) (j : Int) b v1 v2 v3 v4 v5 v6) true
 | 0, j, hm, hj => by
  obtain ⟨⟨x1, x2⟩, x3⟩ := (isSetB_iff x).1 hx
  have e : j = x.length := by omega
  subst e
  rw [List.take_length]
  have hl : (x.map (mir far)).length = x.length := List.length_map ..
  have hend := end_ev hx hy lx ly
  have hj2 : Ev (fun k => silversidelaw01_PlaneMeets.j2 k x y (x.map (mir far)) false) true := by
   refine Ev.step (f := fun k => ((silversideref01_Valids.f k (x.map (mir far))).bind fun t406 => (if t406 = true then ((plane_Separate.f k x (x.map (mir far))).bind fun bt407 => (if bt407.2.2.2.2.2.2.2 = 0 then (if bt407.1 = true then (some false) else (silversidelaw01_PlaneMeets.j3 k x y)) else (some false))) else (silversidelaw01_PlaneMeets.j3 k x y)))) (fun k => ?_) ?_
   ·rw [silversidelaw01_PlaneMeets.j2, if_neg (by decide)]
   ·refine Ev.bind (valids_ev _ (by omega)) ?_
    by_cases hv : allOk (x.map (mir far)) = true
    ·obtain ⟨t, ht, hs⟩ := separate_ev hx (isSet_of (by omega) (by omega) hv)
     obtain ⟨e1, m1⟩ := sepV_meet (hull_self (corners_hull x x1)) (hull_self (corners_hull _ (by omega))) hs
     exact ev_pos hv (Ev.bind ht (ev_pos e1 (ev_neg (fun h => mir_common x1 hf (m1.1 h)) hend)))
    ·exact ev_neg hv hend
  refine Ev.step (fun k => ?_) hj2
  conv => lhs; unfold silversidelaw01_PlaneMeets.l1
  rw [if_neg (by omega), if_pos rfl, hb]
  rfl
 | m + 1, j, hm, hj => by
  obtain ⟨⟨x1, x2⟩, x3⟩ := (isSetB_iff x).1 hx
  have hlt : j < x.length := by omega
  have ih := mir_ev hx hy lx ly h0 h1 hf hb (v1 := v1) (v2 := v2) (v3 := v3) (v4 := v4) (v5 := v5) (v6 := v6) m (j + 1) (by omega) (by omega)
  have hp := (okPt_iff _).1 (List.all_eq_true.1 x3 _ (pt_mem x j hlt))
  rw [take_pt x j hlt, List.map_append] at ih
  refine Ev.step (fun k => ?_) ih
  conv => lhs; unfold silversidelaw01_PlaneMeets.l1
  rw [if_pos (by omega), if_pos (by omega), rd_pt, Option.bind_some, if_pos (by rw [List.length_map, List.length_take]; simp only [List.length_singleton]; omega), w64i (x := 2 * far) (by omega) (by omega), w64i (x := 2 * far + 1) (by omega) (by omega), w64i (x := 2 * far + 1 - (pt x j).f0) (by omega) (by omega), w64i (x := (j : Int) + 1) (by omega) (by omega)]
  rfl
theorem far_ev {x y : List S31} (hx : isSetB x = true) (hy : isSetB y = true) (lx : x.length ≤ 60) (ly : y.length ≤ 60) {b : Bool} (hb : b = true) {v1 v2 v3 v4 v5 v6 : Int} : ∀ (m j : Nat) (far : Int), x.length - j = m → j ≤ x.length → 0 ≤ far → far ≤ 4096 → (∀ i, i < j → (pt x i).f0 ≤ far) →
  Ev (fun k => silversidelaw01_PlaneMeets.l0 k x y 0 far (j : Int) b v1 v2 v3 v4 v5 v6) true
 | 0, j, far, hm, hj, h0, h1, hf => by
  have hall := mir_ev hx hy lx ly h0 h1 (fun p hp => by obtain ⟨i, hi, rfl⟩ := mem_pt hp; exact hf i (by omega)) hb (v1 := v1) (v2 := v2) (v3 := v3) (v4 := v4) (v5 := v5) (v6 := v6) x.length 0 (by omega) (by omega)
  refine Ev.step (fun k => ?_) hall
  conv => lhs; unfold silversidelaw01_PlaneMeets.l0
  rw [if_neg (by omega)]
  rfl
 | m + 1, j, far, hm, hj, h0, h1, hf => by
  obtain ⟨⟨x1, x2⟩, x3⟩ := (isSetB_iff x).1 hx
  have hlt : j < x.length := by omega
  have hp := (okPt_iff _).1 (List.all_eq_true.1 x3 _ (pt_mem x j hlt))
  have hmx := le_mx far (pt x j).f0
  have hmb := (mn_bd (lo := -4096) (hi := 4096) (a := far) (b := (pt x j).f0) (by omega) (by omega)).2
  have ih := far_ev hx hy lx ly hb (v1 := v1) (v2 := v2) (v3 := v3) (v4 := v4) (v5 := v5) (v6 := v6) m (j + 1) (mx far (pt x j).f0) (by omega) (by omega) (by omega) (by omega) (fun i hi => by
   rcases Nat.lt_or_ge i j with h | h
   ·have := hf i h; omega
   ·obtain rfl : i = j := by omega
    omega)
  refine Ev.step (fun k => ?_) ih
  conv => lhs; unfold silversidelaw01_PlaneMeets.l0
  rw [if_pos (by omega), if_pos (by omega), rd_pt, w64i (x := (j : Int) + 1) (by omega) (by omega)]
  rfl
theorem PlaneMeets (l m : List S31) (_ : ∀ q ∈ l, (Lit.int .i64 q.f0).wf = true ∧ (Lit.int .i64 q.f1).wf = true) (_ : ∀ q ∈ m, (Lit.int .i64 q.f0).wf = true ∧ (Lit.int .i64 q.f1).wf = true) : ∃ k, silversidelaw01_PlaneMeets.f k l m = some true := by
 refine Ev.rounds ?_
 unfold silversidelaw01_PlaneMeets.f
 obtain ⟨x, hx, x1, x2, x3⟩ := gset_ev l 30 (by omega) (by omega)
 obtain ⟨y, hy, y1, y2, y3⟩ := gset_ev m 30 (by omega) (by omega)
 have sx := isSet_of x1 (by omega) x3
 have sy := isSet_of y1 (by omega) y3
 refine Ev.bind hx (Ev.bind hy (Ev.bind hy (ev_pos (by omega) ?_)))
 refine Ev.bind (Ev.now _) (ev_pos (by simp only [List.length_singleton]; omega) ?_)
 rw [show rd_T31 x 0 = pt x 0 from rfl]
 have hx0 := pt_mem x 0 x1
 have sb : isSetB (y ++ [(⟨(pt x 0).f0, (pt x 0).f1⟩ : S31)]) = true := isSet_of (by simp) (by simp only [List.length_append, List.length_singleton]; omega) (allOk_snoc y3 (List.all_eq_true.1 x3 _ hx0))
 obtain ⟨t, ht, hs⟩ := separate_ev sx sb
 have hP := corners_hull x x1
 have hQ := corners_hull (y ++ [(⟨(pt x 0).f0, (pt x 0).f1⟩ : S31)]) (by simp)
 obtain ⟨e1, m1⟩ := sepV_meet (hull_self hP) (hull_self hQ) hs
 have ht1 : t.1 = true := m1.2 ⟨_, _, _, hull_in hP hx0, hull_in hQ (p := pt x 0) (List.mem_append_right _ (by simp))⟩
 refine Ev.bind ht ?_
 rw [e1]
 exact far_ev sx sy (by omega) (by omega) ht1 x.length 0 0 (by omega) (by omega) (by omega) (by omega) (fun i hi => by omega)
end Go.Proofs.Ythaklbjcjoolcaa.Pure
