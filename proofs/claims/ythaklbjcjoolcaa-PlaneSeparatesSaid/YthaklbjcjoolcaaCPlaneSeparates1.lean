/- Proved here: what functions that the law reaches compute, and plain laws of that. No conditions but those that the theorems state. Put together by a program; a part of it was printed by a program of the session's, by way of the kit's printer (wip/printplus.py, wip/mend*.py). -/
import Derived.Test.YthaklbjcjoolcaaB1
import Derived.Test.YthaklbjcjoolcaaB4
import Derived.Test.YthaklbjcjoolcaaB2
import Derived.Test.YthaklbjcjoolcaaB3
import Derived.Outline
import Derived.Deep.DeepMust
import Derived.Laws.EntriesVeiled
import Derived.BigRegion
import Derived.BigQuiet
set_option linter.unusedVariables false
set_option linter.unusedSimpArgs false
namespace Go.Proofs.Ythaklbjcjoolcaa.P
open Go.RowKit Go.Proofs.YthaklbjcjoolcaaW.PrintWords Go.Proofs.YthaklbjcjoolcaaW.PrintLast Go.Proofs.YthaklbjcjoolcaaW.PrintMore
attribute [local go_sem] max2_int min2_int max_two min_two max_three min_three max_four min_four   -- for this text's walks alone

theorem eqA44 (d : Nat) (w : World) (x0 y0 : Bool) (x1 y1 : Int) (x2 y2 : Int) (x3 y3 : Int) (x4 y4 : Int) (x5 y5 : Int) (x6 y6 : Int) :
    (Op.equalIn (d + 2) 44 (.agg #[.bool x0, .int .i64 x1, .int .i64 x2, .int .i64 x3, .int .i64 x4, .int .i64 x5, .int .i64 x6]) (.agg #[.bool y0, .int .i64 y1, .int .i64 y2, .int .i64 y3, .int .i64 y4, .int .i64 y5, .int .i64 y6])).run Try.prog w = .ok (x0 == y0 && (x1 == y1 && (x2 == y2 && (x3 == y3 && (x4 == y4 && (x5 == y5 && (x6 == y6))))))) w := by
  refine eqA_of Try.underlying44 (by kernel_rfl) ?_
  refine eqf_cons (by rfl) (by go_simp; rfl) (by go_simp; rfl) (by go_simp) ?_
  refine eqf_cons (by rfl) (by go_simp; rfl) (by go_simp; rfl) (by go_simp) ?_
  refine eqf_cons (by rfl) (by go_simp; rfl) (by go_simp; rfl) (by go_simp) ?_
  refine eqf_cons (by rfl) (by go_simp; rfl) (by go_simp; rfl) (by go_simp) ?_
  refine eqf_cons (by rfl) (by go_simp; rfl) (by go_simp; rfl) (by go_simp) ?_
  refine eqf_cons (by rfl) (by go_simp; rfl) (by go_simp; rfl) (by go_simp) ?_
  exact eqf_last (by rfl) (by go_simp; rfl) (by go_simp; rfl) (by go_simp)

/-! ### silversideref01_Set: function 33 -/
def silversideref01_Set.f (k : Nat) (l0 : List (S31)) : Option (Bool) := if (l0.length : Int) ≥ 1 then (if (l0.length : Int) ≤ 512 then ((silversideref01_Valids.f k l0).bind fun t306 => (some t306)) else (some false)) else (some false)
theorem silversideref01_Set.mono : ∀ a0 k, LeO (silversideref01_Set.f k a0) (silversideref01_Set.f (k + 1) a0) := by
 intro a0 k
 unfold silversideref01_Set.f
 repeat' first
   | (with_reducible exact silversideref01_Valids.mono _ _)
   | (with_reducible exact LeO.refl _)
   | (with_reducible exact LeO.none _)
   | (with_reducible refine LeO.ite ?_ ?_)
   | (with_reducible refine LeO.bind ?_ (fun _ => ?_))
   | exact silversideref01_Valids.mono _ _
   | exact LeO.none _
   | refine LeO.ite ?_ ?_
   | refine LeO.bind ?_ (fun _ => ?_)
set_option maxHeartbeats 8000000 in
set_option maxRecDepth 100000 in
theorem silversideref01_Set.calls (k : Nat) (A0 : Option Addr) (c0 : Nat) (l0 : List (S31)) (r : Bool) (w : World) (hr0 : Kd.C k31 w A0 l0.length l0) (hc0 : l0.length ≤ c0) (h : silversideref01_Set.f k l0 = some r) :
  Calls Try.prog 33 #[.slice A0 l0.length c0] w fun e w' => e = .returned (.bool r) ∧ Below w.heap.size w w' := by
 have HR0 := Aside0.mk hr0
 have HC0 := Aside0.mk hc0
 clear hr0 hc0
 have HB := Aside0.mk (Below.refl w.heap.size w)
 have H : (if (l0.length : Int) ≥ 1 then (if (l0.length : Int) ≤ 512 then ((silversideref01_Valids.f k l0).bind fun t306 => (some t306)) else (some false)) else (some false)) = some r := h
 clear h
 by_cases c2 : (l0.length : Int) ≥ 1
 ·rw [if_pos c2] at H
  have c2b0 : decide (1 ≤ (l0.length : Int)) = true := decide_eq_true c2
  have c2b1 : decide (1 ≤ l0.length) = true := decide_eq_true (by omega)
  clear c2
  by_cases c3 : (l0.length : Int) ≤ 512
  ·rw [if_pos c3] at H
   have c3b0 : decide ((l0.length : Int) ≤ 512) = true := decide_eq_true c3
   have c3b1 : decide (l0.length ≤ 512) = true := decide_eq_true (by omega)
   clear c3
   replace H := Option.bind_eq_some_iff.mp H
   obtain ⟨t306, A40, H⟩ := H
   replace H : (some t306) = some r := H
   have A4 := Aside0.mk A40
   clear A40
   obtain rfl := Option.some.inj H
   go_enter Try.func33, Try.ntmps33
   go_wp2_with (first | (go_at_call 22; (with_reducible refine (silversideref01_Valids.calls k _ _ l0 t306 _ ?side1 ?side2 A4.out).mono ?_); (case side1 => repeat (first | exact HR0.out | (with_reducible refine Kd.C_alloc ?_ _) | (with_reducible refine Kd.C_drewN ?_ _) | (with_reducible refine Kd.C_drew ?_))); (case side2 => exact HC0.out); rintro e w5 ⟨rfl, hb⟩; have n0_ := Aside0.mk (below_step lB hb); clear HB; have HB := n0_; clear n0_; (try clear hb); (try clear hb2); (try clear hk); (try clear hi)))
   go_ret
   exact en
  rw [if_neg c3] at H
  have c3b0 : decide ((l0.length : Int) ≤ 512) = false := decide_eq_false c3
  have c3b1 : decide (l0.length ≤ 512) = false := decide_eq_false (by omega)
  clear c3
  obtain rfl := Option.some.inj H
  go_enter Try.func33, Try.ntmps33
  go_wp2
  go_ret
  exact en
 rw [if_neg c2] at H
 have c2b0 : decide (1 ≤ (l0.length : Int)) = false := decide_eq_false c2
 have c2b1 : decide (1 ≤ l0.length) = false := decide_eq_false (by omega)
 clear c2
 obtain rfl := Option.some.inj H
 go_enter Try.func33, Try.ntmps33
 go_wp2
 go_ret
 exact en

end Go.Proofs.Ythaklbjcjoolcaa.P
namespace Go.Proofs.Ythaklbjcjoolcaa.P
open Go.RowKit Go.Shelf Go.Sort Go.Proofs.YthaklbjcjoolcaaW.PrintWords Go.Proofs.YthaklbjcjoolcaaW.PrintLast Go.Proofs.YthaklbjcjoolcaaW.PrintMore
/-- a point is on a segment -/
def onB (a b p : S31) : Bool := decide (crs a b p = 0) && (decide (mn a.f0 b.f0 ≤ p.f0) && (decide (p.f0 ≤ mx a.f0 b.f0) && (decide (mn a.f1 b.f1 ≤ p.f1) && decide (p.f1 ≤ mx a.f1 b.f1))))
/-- a vector points into the right half plane (or straight up) -/
def rgt (x y : Int) : Prop := 0 < x ∨ x = 0 ∧ 0 < y
/-- the order of two vectors by their directions -/
def cr (ax ay bx b_y : Int) : Int := ax * b_y - ay * bx
theorem cr_key (ax ay bx b_y cx cy : Int) : bx * cr ax ay cx cy = ax * cr bx b_y cx cy + cx * cr ax ay bx b_y := by unfold cr; grind
theorem cr_swap (ax ay bx b_y : Int) : cr bx b_y ax ay = - cr ax ay bx b_y := by unfold cr; grind
theorem nn_of {b t : Int} (hb : 0 < b) (h : 0 ≤ b * t) : 0 ≤ t := by
  rcases Int.lt_or_le t 0 with h1 | h1
  · have := Int.mul_neg_of_pos_of_neg hb h1; omega
  · exact h1
theorem pos_of {b t : Int} (hb : 0 < b) (h : 0 < b * t) : 0 < t := by
  rcases Int.lt_or_le 0 t with h1 | h1
  · exact h1
  · have := Int.mul_le_mul_of_nonneg_left h1 (Int.le_of_lt hb); omega
theorem nn_mul {a b : Int} (ha : 0 ≤ a) (hb : 0 ≤ b) : 0 ≤ a * b := Int.mul_nonneg ha hb
theorem ps_mul {a b : Int} (ha : 0 < a) (hb : 0 < b) : 0 < a * b := Int.mul_pos ha hb
theorem cr_trans {ax ay bx b_y cx cy : Int} (ha : rgt ax ay) (hb : rgt bx b_y) (hc : rgt cx cy) (h1 : 0 ≤ cr ax ay bx b_y) (h2 : 0 ≤ cr bx b_y cx cy) : 0 ≤ cr ax ay cx cy := by
  have hax : 0 ≤ ax := by unfold rgt at ha; omega
  have hcx : 0 ≤ cx := by unfold rgt at hc; omega
  rcases hb with hb | ⟨rfl, hb⟩
  · refine nn_of hb ?_
    rw [cr_key ax ay bx b_y cx cy]
    have := nn_mul hax h2; have := nn_mul hcx h1; omega
  · unfold cr at h1 h2
    have h3 : 0 ≤ ax * b_y := by grind
    have h4 : 0 ≤ -(b_y * cx) := by grind
    have hcx0 : cx = 0 := by
      rcases Int.lt_or_le 0 cx with h | h
      · have := ps_mul hb h; omega
      · omega
    subst hcx0
    have hcy : 0 < cy := by unfold rgt at hc; omega
    unfold cr
    have := nn_mul hax (Int.le_of_lt hcy)
    grind
theorem cr_trans_lt {ax ay bx b_y cx cy : Int} (ha : rgt ax ay) (hb : rgt bx b_y) (hc : rgt cx cy) (h1 : 0 ≤ cr ax ay bx b_y) (h2 : 0 ≤ cr bx b_y cx cy) (h3 : 0 < cr ax ay bx b_y ∨ 0 < cr bx b_y cx cy) : 0 < cr ax ay cx cy := by
  have hax : 0 ≤ ax := by unfold rgt at ha; omega
  have hcx : 0 ≤ cx := by unfold rgt at hc; omega
  rcases hb with hb | ⟨rfl, hb⟩
  · refine pos_of hb ?_
    rw [cr_key ax ay bx b_y cx cy]
    have m1 := nn_mul hax h2; have m2 := nn_mul hcx h1
    rcases h3 with h3 | h3
    · rcases Int.lt_or_le 0 cx with h | h
      · have := ps_mul h h3; omega
      · have hcx0 : cx = 0 := by omega
        subst hcx0
        have hcy : 0 < cy := by unfold rgt at hc; omega
        have h4 : 0 < cr bx b_y 0 cy := by unfold cr; have := ps_mul hb hcy; grind
        rcases Int.lt_or_le 0 ax with h5 | h5
        · have := ps_mul h5 h4; omega
        · have hax0 : ax = 0 := by omega
          subst hax0
          have hay : 0 < ay := by unfold rgt at ha; omega
          unfold cr at h3
          have := ps_mul hay hb
          grind
    · rcases Int.lt_or_le 0 ax with h | h
      · have := ps_mul h h3; omega
      · have hax0 : ax = 0 := by omega
        subst hax0
        have hay : 0 < ay := by unfold rgt at ha; omega
        unfold cr at h1
        have := ps_mul hay hb
        grind
  · unfold cr at h1 h2 h3
    have h4 : 0 ≤ -(b_y * cx) := by grind
    have hcx0 : cx = 0 := by
      rcases Int.lt_or_le 0 cx with h | h
      · have := ps_mul hb h; omega
      · omega
    subst hcx0
    have hcy : 0 < cy := by unfold rgt at hc; omega
    have hax1 : 0 < ax := by
      rcases h3 with h3 | h3
      · rcases Int.lt_or_le 0 ax with h | h
        · exact h
        · have : ax = 0 := by omega
          subst this; grind
      · grind
    unfold cr
    have := ps_mul hax1 hcy
    grind
theorem crs_cr (a b c : S31) : crs a b c = cr (b.f0 - a.f0) (b.f1 - a.f1) (c.f0 - a.f0) (c.f1 - a.f1) := rfl
theorem ltP_rgt {a b : S31} : ltP a b = true ↔ rgt (b.f0 - a.f0) (b.f1 - a.f1) := by unfold ltP rgt; rw [decide_eq_true_eq]; omega
theorem crs_turn (a b c : S31) : crs a b c = cr (b.f0 - a.f0) (b.f1 - a.f1) (c.f0 - b.f0) (c.f1 - b.f1) := by unfold crs cr; grind
theorem crs_rot (a b c : S31) : crs b c a = crs a b c := by unfold crs; grind
theorem crs_swap (a b c : S31) : crs a c b = - crs a b c := by unfold crs; grind
theorem ltP_trans {a b c : S31} (h1 : ltP a b = true) (h2 : ltP b c = true) : ltP a c = true := by unfold ltP at *; rw [decide_eq_true_eq] at *; omega
theorem ltP_irr (a : S31) : ¬ ltP a a = true := by unfold ltP; rw [decide_eq_true_eq]; omega
theorem ltP_tot (a b : S31) : ltP a b = true ∨ a = b ∨ ltP b a = true := by
  unfold ltP; rw [decide_eq_true_eq, decide_eq_true_eq]
  by_cases h : a = b
  · exact Or.inr (Or.inl h)
  · have : a.f0 ≠ b.f0 ∨ a.f1 ≠ b.f1 := by
      by_cases h0 : a.f0 = b.f0
      · exact Or.inr (fun h1 => h (S31.ext' h0 h1))
      · exact Or.inl h0
    omega
/-- three turns: two left turns on the way to the right make the whole way turn left -/
theorem turn_far {a b c q : S31} (h1 : ltP a b = true) (h2 : ltP b c = true) (h3 : ltP c q = true) (ht1 : 0 < crs a b c) (ht2 : 0 < crs b c q) : 0 < crs a b q := by
  have ha := ltP_rgt.1 h1; have hb := ltP_rgt.1 h2; have hc := ltP_rgt.1 h3
  rw [crs_turn] at ht1 ht2
  have := cr_trans_lt ha hb hc (Int.le_of_lt ht1) (Int.le_of_lt ht2) (Or.inl ht1)
  have e : crs a b q = cr (b.f0 - a.f0) (b.f1 - a.f1) (c.f0 - b.f0) (c.f1 - b.f1) + cr (b.f0 - a.f0) (b.f1 - a.f1) (q.f0 - c.f0) (q.f1 - c.f1) := by unfold crs cr; grind
  omega
/-- what lies to the left of an edge lies to the left of the next one if it is further back -/
theorem turn_back_pt {w u p r : S31} (h1 : ltP w u = true) (h2 : ltP u p = true) (h3 : ltP r u = true) (ht1 : 0 ≤ crs w u r) (ht2 : 0 < crs w u p) : 0 < crs u p r := by
  have ha := ltP_rgt.1 h1; have hb := ltP_rgt.1 h2; have hc := ltP_rgt.1 h3
  rw [crs_turn] at ht2
  have e : cr (u.f0 - r.f0) (u.f1 - r.f1) (u.f0 - w.f0) (u.f1 - w.f1) = crs w u r := by unfold crs cr; grind
  have := cr_trans_lt hc ha hb (by rw [e]; exact ht1) (Int.le_of_lt ht2) (Or.inr ht2)
  have e2 : crs u p r = cr (u.f0 - r.f0) (u.f1 - r.f1) (p.f0 - u.f0) (p.f1 - u.f1) := by unfold crs cr; grind
  omega
/-- what lies to the left of a way lies to the left of a way further right -/
theorem turn_on {u v p r : S31} (h1 : ltP u v = true) (h2 : ltP u p = true) (h3 : ltP u r = true) (ht1 : 0 ≤ crs u v r) (ht2 : crs u v p ≤ 0) : 0 ≤ crs u p r := by
  have ha := ltP_rgt.1 h1; have hb := ltP_rgt.1 h2; have hc := ltP_rgt.1 h3
  rw [crs_cr] at *
  exact cr_trans hb ha hc (by rw [cr_swap]; omega) ht1
theorem pt_app_l (A B : List S31) (i : Nat) (h : i < A.length) : pt (A ++ B) i = pt A i := by
  unfold pt; rw [List.getD_eq_getElem?_getD, List.getD_eq_getElem?_getD, List.getElem?_append_left h]
theorem pt_app_r (A B : List S31) (i : Nat) (h : A.length ≤ i) : pt (A ++ B) i = pt B (i - A.length) := by
  unfold pt; rw [List.getD_eq_getElem?_getD, List.getD_eq_getElem?_getD, List.getElem?_append_right h]
theorem pt_take (A : List S31) (n i : Nat) (h : i < n) : pt (A.take n) i = pt A i := by
  unfold pt; rw [List.getD_eq_getElem?_getD, List.getD_eq_getElem?_getD, List.getElem?_take, if_pos h]
theorem pt_mem (A : List S31) (i : Nat) (h : i < A.length) : pt A i ∈ A := by rw [pt_eq A i h]; exact List.getElem_mem _
theorem mem_pt {A : List S31} {p : S31} (h : p ∈ A) : ∃ i, i < A.length ∧ pt A i = p := by
  obtain ⟨i, hi, e⟩ := List.mem_iff_getElem.1 h
  exact ⟨i, hi, by rw [pt_eq A i hi, e]⟩
/-- a point is to the left of a way to the right, or between its ends -/
def Up (a b r : S31) : Prop := 0 ≤ crs a b r ∧ (crs a b r = 0 → ¬ ltP r a = true ∧ ¬ ltP b r = true)
/-- what a chain keeps: it goes to the right, turns left, and leaves no point that was read on its right -/
structure Ch (R out : List S31) : Prop where
  pos : 0 < out.length
  inc : ∀ i, i + 1 < out.length → ltP (pt out i) (pt out (i + 1)) = true
  mem : ∀ i, i < out.length → pt out i ∈ R
  ed : ∀ i, i + 1 < out.length → ∀ r ∈ R, Up (pt out i) (pt out (i + 1)) r
  trn : ∀ i, i + 2 < out.length → 0 < crs (pt out i) (pt out (i + 1)) (pt out (i + 2))
  hd : ∀ r ∈ R, ¬ ltP r (pt out 0) = true
  lst : ∀ r ∈ R, ¬ ltP (pt out (out.length - 1)) r = true
theorem popN_spec (out : List S31) (p : S31) : ∀ m, 1 ≤ m → 1 ≤ popN out p m ∧ (2 ≤ popN out p m → 0 < crs (pt out (popN out p m - 2)) (pt out (popN out p m - 1)) p) ∧ (popN out p m < m → crs (pt out (popN out p m - 1)) (pt out (popN out p m)) p ≤ 0)
  | 0, h => by omega
  | 1, _ => by simp [popN]
  | m + 2, _ => by
    have ih := popN_spec out p (m + 1) (by omega)
    have hle := popN_le out p (m + 1)
    unfold popN
    by_cases h : crs (pt out m) (pt out (m + 1)) p ≤ 0
    · rw [if_pos h]
      refine ⟨ih.1, ih.2.1, fun _ => ?_⟩
      rcases Nat.lt_or_ge (popN out p (m + 1)) (m + 1) with h1 | h1
      · exact ih.2.2 h1
      · have e : popN out p (m + 1) = m + 1 := by omega
        rw [e]; exact h
    · rw [if_neg h]
      refine ⟨by omega, fun _ => ?_, fun h1 => by omega⟩
      show 0 < crs (pt out m) (pt out (m + 1)) p
      omega
theorem crs_same (a b : S31) : crs a b a = 0 := by unfold crs; grind
theorem crs_end (a b : S31) : crs a b b = 0 := by unfold crs; grind
theorem ltP_asym {a b : S31} (h : ltP a b = true) : ¬ ltP b a = true := fun h1 => ltP_irr a (ltP_trans h h1)
theorem Ch.step {R out : List S31} {p : S31} (H : Ch R out) (hp : ∀ r ∈ R, ltP r p = true) : Ch (R ++ [p]) (chStep out p) := by
  obtain ⟨hn1, hn2, hn3⟩ := popN_spec out p out.length H.pos
  have hnl := popN_le out p out.length
  have hlen : (chStep out p).length = popN out p out.length + 1 := by unfold chStep; rw [List.length_append, List.length_take]; simp; omega
  have hold : ∀ i, i < popN out p out.length → pt (chStep out p) i = pt out i := by
    intro i hi
    unfold chStep
    rw [pt_app_l _ _ _ (by rw [List.length_take]; omega), pt_take _ _ _ hi]
  have hnew : pt (chStep out p) (popN out p out.length) = p := by
    unfold chStep
    rw [pt_app_r _ _ _ (by rw [List.length_take]; omega), List.length_take, Nat.min_eq_left hnl, Nat.sub_self]; rfl
  generalize chStep out p = O at *
  generalize popN out p out.length = n at *
  have far : ∀ d i, i + 2 + d = n → 0 < crs (pt out i) (pt out (i + 1)) p := by
    intro d
    induction d with
    | zero => intro i hi; obtain rfl : n = i + 2 := by omega
              exact hn2 (by omega)
    | succ d ih =>
      intro i hi
      exact turn_far (H.inc i (by omega)) (H.inc (i + 1) (by omega)) (hp _ (H.mem (i + 2) (by omega))) (H.trn i (by omega)) (ih (i + 1) (by omega))
  refine ⟨by omega, ?_, ?_, ?_, ?_, ?_, ?_⟩
  · intro i hi
    rw [hold i (by omega)]
    rcases Nat.lt_or_ge (i + 1) n with h | h
    · rw [hold _ h]; exact H.inc i (by omega)
    · obtain rfl : n = i + 1 := by omega
      rw [hnew]; exact hp _ (H.mem i (by omega))
  · intro i hi
    rcases Nat.lt_or_ge i n with h | h
    · rw [hold i h]; exact List.mem_append_left _ (H.mem i (by omega))
    · obtain rfl : n = i := by omega
      rw [hnew]; simp
  · intro i hi r hr
    rw [hold i (by omega)]
    rw [List.mem_append, List.mem_singleton] at hr
    rcases Nat.lt_or_ge (i + 1) n with h | h
    · rw [hold _ h]
      rcases hr with hr | rfl
      · exact H.ed i (by omega) r hr
      · have := far (n - (i + 2)) i (by omega)
        exact ⟨by omega, fun h => by omega⟩
    · obtain rfl : n = i + 1 := by omega
      rw [hnew]
      rcases hr with hr | rfl
      · rcases ltP_tot r (pt out i) with h1 | rfl | h1
        · have hi0 : 0 < i := by
            rcases Nat.eq_zero_or_pos i with rfl | h2
            · exact absurd h1 (H.hd r hr)
            · exact h2
          obtain ⟨j, rfl⟩ : ∃ j, i = j + 1 := ⟨i - 1, by omega⟩
          have h3 := turn_back_pt (H.inc j (by omega)) (hp _ (H.mem (j + 1) (by omega))) h1 (H.ed j (by omega) r hr).1 (far 0 j (by omega))
          exact ⟨by omega, fun h => by omega⟩
        · rw [Up, crs_same]
          exact ⟨Int.le_refl 0, fun _ => ⟨ltP_irr _, ltP_asym (hp _ hr)⟩⟩
        · have hl : i + 1 < out.length := by
            rcases Nat.lt_or_ge (i + 1) out.length with h2 | h2
            · exact h2
            · have e : out.length - 1 = i := by omega
              have := H.lst r hr; rw [e] at this; exact absurd h1 this
          refine ⟨turn_on (H.inc i hl) (hp _ (H.mem i (by omega))) h1 (H.ed i hl r hr).1 (hn3 (by omega)), fun _ => ⟨ltP_asym h1, ltP_asym (hp _ hr)⟩⟩
      · rw [Up, crs_end]
        exact ⟨Int.le_refl 0, fun _ => ⟨ltP_asym (hp _ (H.mem i (by omega))), ltP_irr _⟩⟩
  · intro i hi
    rw [hold i (by omega), hold (i + 1) (by omega)]
    rcases Nat.lt_or_ge (i + 2) n with h | h
    · rw [hold _ h]; exact H.trn i (by omega)
    · obtain rfl : n = i + 2 := by omega
      rw [hnew]; exact far 0 i (by omega)
  · intro r hr
    rw [hold 0 (by omega)]
    rw [List.mem_append, List.mem_singleton] at hr
    rcases hr with hr | rfl
    · exact H.hd r hr
    · exact ltP_asym (hp _ (H.mem 0 (by omega)))
  · intro r hr
    have e : O.length - 1 = n := by omega
    rw [e, hnew]
    rw [List.mem_append, List.mem_singleton] at hr
    rcases hr with hr | rfl
    · exact ltP_asym (hp _ hr)
    · exact ltP_irr _
theorem Ch.one (p : S31) : Ch [p] [p] := by
  refine ⟨by simp, by simp, by simp [pt], by simp, by simp, ?_, ?_⟩
  · intro r hr; rw [List.mem_singleton] at hr; subst hr; exact ltP_irr _
  · intro r hr; rw [List.mem_singleton] at hr; subst hr; exact ltP_irr _
/-- points in order, each once -/
def Asc (l : List S31) : Prop := ∀ i j, i < j → j < l.length → ltP (pt l i) (pt l j) = true
theorem chain_ch (l : List S31) (h : Asc l) (h1 : 0 < l.length) : Ch l (chainL l) := by
  have key : ∀ k, k < l.length → Ch (l.take (k + 1)) (chainL (l.take (k + 1))) := by
    intro k
    induction k with
    | zero =>
      intro hk
      have e : l.take (0 + 1) = [pt l 0] := by rw [take_pt l 0 hk]; rfl
      rw [e]; exact Ch.one _
    | succ k ih =>
      intro hk
      rw [take_pt l (k + 1) hk, chainL_snoc]
      refine (ih (by omega)).step ?_
      intro r hr
      obtain ⟨i, hi, rfl⟩ := mem_pt hr
      rw [List.length_take] at hi
      rw [pt_take _ _ _ (by omega)]
      exact h i (k + 1) (by omega) hk
  have := key (l.length - 1) (by omega)
  rw [show l.length - 1 + 1 = l.length by omega, List.take_length] at this
  exact this
theorem sortP_asc (l : List S31) (i j : Nat) (hij : i < j) (hj : j < (sortP l).length) : ¬ ltP (pt (sortP l) j) (pt (sortP l) i) = true := by
  have hp : (sortP l).Pairwise (fun x y => (!ltP y x) = true) := by
    unfold sortP
    refine List.pairwise_mergeSort ?_ ?_ l
    · intro a b c h1 h2
      simp only [Bool.not_eq_true', ltP, decide_eq_false_iff_not] at *
      omega
    · intro a b
      simp only [Bool.or_eq_true, Bool.not_eq_true', ltP, decide_eq_false_iff_not]
      omega
  have := List.pairwise_iff_getElem.1 hp i j (by omega) hj hij
  rw [pt_eq _ _ hj, pt_eq _ _ (by omega)]
  simpa using this
theorem sortP_mem (l : List S31) (p : S31) : p ∈ sortP l ↔ p ∈ l := (List.mergeSort_perm _ _).mem_iff
theorem asc_snoc {L : List S31} {p : S31} (h : Asc L) (hp : ∀ r ∈ L, ltP r p = true) : Asc (L ++ [p]) := by
  intro i j hij hj
  rw [List.length_append, List.length_singleton] at hj
  rw [pt_app_l L _ i (by omega)]
  rcases Nat.lt_or_ge j L.length with h1 | h1
  · rw [pt_app_l L _ j h1]; exact h i j hij h1
  · obtain rfl : j = L.length := by omega
    rw [pt_app_r L _ _ (Nat.le_refl _), Nat.sub_self]
    exact hp _ (pt_mem L i (by omega))
theorem ddL_facts (xs : List S31) (hs : ∀ i j, i < j → j < xs.length → ¬ ltP (pt xs j) (pt xs i) = true) : ∀ k, 1 ≤ k → k ≤ xs.length →
    Asc (ddL xs k) ∧ 0 < (ddL xs k).length ∧ (∀ r ∈ ddL xs k, r = pt xs (k - 1) ∨ ltP r (pt xs (k - 1)) = true) ∧ (∀ i, i < k → pt xs i ∈ ddL xs k)
  | 0, h, _ => by omega
  | 1, _, _ => by
    refine ⟨fun i j hij hj => ?_, by simp [ddL], by simp [ddL], ?_⟩
    · simp [ddL] at hj; omega
    · intro i hi; obtain rfl : i = 0 := by omega
      simp [ddL]
  | k + 2, _, hk => by
    obtain ⟨a1, a2, a3, a4⟩ := ddL_facts xs hs (k + 1) (by omega) (by omega)
    unfold ddL
    rw [show k + 1 - 1 = k by omega] at a3
    rw [show k + 2 - 1 = k + 1 by omega]
    by_cases he : pt xs (k + 1) = pt xs k
    · rw [if_pos he]
      refine ⟨a1, a2, by rw [he]; exact a3, fun i hi => ?_⟩
      rcases Nat.lt_or_ge i (k + 1) with h | h
      · exact a4 i h
      · obtain rfl : i = k + 1 := by omega
        rw [he]; exact a4 k (by omega)
    · rw [if_neg he]
      have hlt : ltP (pt xs k) (pt xs (k + 1)) = true := by
        rcases ltP_tot (pt xs k) (pt xs (k + 1)) with h | h | h
        · exact h
        · exact absurd h.symm he
        · exact absurd h (hs k (k + 1) (by omega) (by omega))
      have hall : ∀ r ∈ ddL xs (k + 1), ltP r (pt xs (k + 1)) = true := by
        intro r hr
        rcases a3 r hr with rfl | h
        · exact hlt
        · exact ltP_trans h hlt
      refine ⟨asc_snoc a1 hall, by simp, ?_, ?_⟩
      · intro r hr
        rw [List.mem_append, List.mem_singleton] at hr
        rcases hr with hr | rfl
        · exact Or.inr (hall r hr)
        · exact Or.inl rfl
      · intro i hi
        rcases Nat.lt_or_ge i (k + 1) with h | h
        · exact List.mem_append_left _ (a4 i h)
        · obtain rfl : i = k + 1 := by omega
          simp
theorem ddL_mem (xs : List S31) : ∀ k, k ≤ xs.length → ∀ p, p ∈ ddL xs k → p ∈ xs
  | 0, _, p, h => by simp [ddL] at h
  | 1, hk, p, h => by
    simp only [ddL, List.mem_singleton] at h
    rw [h]; exact pt_mem xs 0 (by omega)
  | k + 2, hk, p, h => by
    unfold ddL at h
    split at h
    · exact ddL_mem xs (k + 1) (by omega) p h
    · rw [List.mem_append, List.mem_singleton] at h
      rcases h with h | h
      · exact ddL_mem xs (k + 1) (by omega) p h
      · rw [h]; exact pt_mem xs (k + 1) (by omega)
theorem sortP_length (xs : List S31) : (sortP xs).length = xs.length := List.length_mergeSort ..
theorem sortedS_asc (l : List S31) (h : 0 < l.length) : Asc (sortedS l) ∧ 0 < (sortedS l).length := by
  have := ddL_facts (sortP l) (fun i j h1 h2 => sortP_asc l i j h1 h2) (sortP l).length (by rw [sortP_length]; exact h) (Nat.le_refl _)
  exact ⟨this.1, this.2.1⟩
theorem sortedS_mem (l : List S31) (p : S31) : p ∈ sortedS l ↔ p ∈ l := by
  rw [← sortP_mem l p]
  constructor
  · exact ddL_mem _ _ (Nat.le_refl _) p
  · intro h
    obtain ⟨i, hi, rfl⟩ := mem_pt h
    have := ddL_facts (sortP l) (fun i j h1 h2 => sortP_asc l i j h1 h2) (sortP l).length (by omega) (Nat.le_refl _)
    exact this.2.2.2 i hi
/-- a point turned round the origin -/
def neg (p : S31) : S31 := ⟨-p.f0, -p.f1⟩
theorem neg_neg (p : S31) : neg (neg p) = p := by unfold neg; cases p; simp
theorem crs_neg (a b c : S31) : crs (neg a) (neg b) (neg c) = crs a b c := by unfold crs neg; grind
theorem ltP_neg (a b : S31) : ltP (neg a) (neg b) = ltP b a := by
  rw [Bool.eq_iff_iff]; unfold ltP neg; rw [decide_eq_true_eq, decide_eq_true_eq]
  show (-a.f0 < -b.f0 ∨ -a.f0 = -b.f0 ∧ -a.f1 < -b.f1) ↔ _
  omega
theorem pt_neg (l : List S31) (i : Nat) : pt (l.map neg) i = neg (pt l i) := by
  unfold pt
  rw [List.getD_eq_getElem?_getD, List.getD_eq_getElem?_getD, List.getElem?_map]
  cases l[i]? <;> rfl
theorem popN_neg (out : List S31) (p : S31) : ∀ m, popN (out.map neg) (neg p) m = popN out p m
  | 0 => rfl
  | 1 => rfl
  | m + 2 => by unfold popN; rw [pt_neg, pt_neg, crs_neg, popN_neg out p (m + 1)]
theorem chain_neg (l : List S31) : chainL (l.map neg) = (chainL l).map neg := by
  have key : ∀ (xs out : List S31), (xs.map neg).foldl chStep (out.map neg) = (xs.foldl chStep out).map neg := by
    intro xs
    induction xs with
    | nil => intro out; rfl
    | cons p xs ih =>
      intro out
      rw [List.map_cons, List.foldl_cons, List.foldl_cons, ← ih]
      congr 1
      unfold chStep
      rw [List.length_map, popN_neg, List.map_append, List.map_take]; rfl
  exact key l []
theorem pt_rev (l : List S31) (i : Nat) (h : i < l.length) : pt l.reverse i = pt l (l.length - 1 - i) := by
  rw [pt_eq _ _ (by rw [List.length_reverse]; exact h), pt_eq _ _ (by omega), List.getElem_reverse]
theorem upper_ch (l : List S31) (h : Asc l) (h1 : 0 < l.length) : Ch (l.reverse.map neg) ((chainL l.reverse).map neg) := by
  rw [← chain_neg]
  refine chain_ch _ ?_ (by simpa using h1)
  intro i j hij hj
  rw [List.length_map, List.length_reverse] at hj
  rw [pt_neg, pt_neg, ltP_neg, pt_rev l j hj, pt_rev l i (by omega)]
  exact h _ _ (by omega) (by omega)
theorem onB_iff (a b r : S31) : onB a b r = true ↔ crs a b r = 0 ∧ (mn a.f0 b.f0 ≤ r.f0 ∧ r.f0 ≤ mx a.f0 b.f0) ∧ (mn a.f1 b.f1 ≤ r.f1 ∧ r.f1 ≤ mx a.f1 b.f1) := by
  unfold onB; simp only [Bool.and_eq_true, decide_eq_true_eq, and_assoc]
theorem btw (a b r : Int) : (mn a b ≤ r ∧ r ≤ mx a b) ↔ (a ≤ r ∧ r ≤ b ∨ b ≤ r ∧ r ≤ a) := by unfold mn mx; split <;> omega
theorem onB_iff' (a b r : S31) : onB a b r = true ↔ crs a b r = 0 ∧ (a.f0 ≤ r.f0 ∧ r.f0 ≤ b.f0 ∨ b.f0 ≤ r.f0 ∧ r.f0 ≤ a.f0) ∧ (a.f1 ≤ r.f1 ∧ r.f1 ≤ b.f1 ∨ b.f1 ≤ r.f1 ∧ r.f1 ≤ a.f1) := by rw [onB_iff, btw, btw]
theorem onB_neg (a b r : S31) : onB (neg a) (neg b) (neg r) = onB a b r := by
  rw [Bool.eq_iff_iff, onB_iff', onB_iff', crs_neg]
  unfold neg; simp only
  constructor <;> (intro ⟨h1, h2, h3⟩; exact ⟨h1, by omega, by omega⟩)
theorem onB_swap (a b r : S31) : onB b a r = onB a b r := by
  rw [Bool.eq_iff_iff, onB_iff', onB_iff', show crs b a r = - crs a b r by unfold crs; grind]
  constructor <;> (intro ⟨h1, h2, h3⟩; exact ⟨by omega, by omega, by omega⟩)
/-- a point is to the left of an edge or on it -/
def Lf (a b r : S31) : Prop := 0 < crs a b r ∨ onB a b r = true
theorem Lf.nn {a b r : S31} (h : Lf a b r) : 0 ≤ crs a b r := by
  rcases h with h | h
  · omega
  · have := ((onB_iff a b r).1 h).1; omega
theorem Up.lf {a b r : S31} (h : Up a b r) (hab : ltP a b = true) : Lf a b r := by
  obtain ⟨h1, h2⟩ := h
  rcases Int.lt_or_eq_of_le h1 with h3 | h3
  · exact Or.inl h3
  · right
    obtain ⟨h4, h5⟩ := h2 h3.symm
    rw [onB_iff']
    refine ⟨h3.symm, ?_⟩
    have hc := h3.symm
    unfold crs at hc
    unfold ltP at hab h4 h5
    rw [decide_eq_true_eq] at hab h4 h5
    rcases hab with hab | ⟨ha, hab⟩
    · have hx0 : a.f0 ≤ r.f0 := by omega
      have hx1 : r.f0 ≤ b.f0 := by omega
      refine ⟨Or.inl ⟨hx0, hx1⟩, ?_⟩
      have hd : 0 < b.f0 - a.f0 := by omega
      rcases Int.le_total a.f1 b.f1 with hy | hy
      · left
        have m1 := nn_mul (a := b.f1 - a.f1) (b := r.f0 - a.f0) (by omega) (by omega)
        have m2 := nn_mul (a := b.f1 - a.f1) (b := b.f0 - r.f0) (by omega) (by omega)
        have e1 := nn_of (t := r.f1 - a.f1) hd (by omega)
        have e2 := nn_of (t := b.f1 - r.f1) hd (by grind)
        omega
      · right
        have m1 := nn_mul (a := a.f1 - b.f1) (b := r.f0 - a.f0) (by omega) (by omega)
        have m2 := nn_mul (a := a.f1 - b.f1) (b := b.f0 - r.f0) (by omega) (by omega)
        have e1 := nn_of (t := a.f1 - r.f1) hd (by grind)
        have e2 := nn_of (t := r.f1 - b.f1) hd (by grind)
        omega
    · have hx : r.f0 = a.f0 := by omega
      exact ⟨by omega, by omega⟩
/-- the square of the distance -/
def sqd (a b : S31) : Int := (a.f0 - b.f0) * (a.f0 - b.f0) + (a.f1 - b.f1) * (a.f1 - b.f1)
theorem sq_mono {s t : Int} (h : 0 ≤ s ∧ s ≤ t ∨ t ≤ s ∧ s ≤ 0) : s * s ≤ t * t := by
  rcases h with h | h
  · have := nn_mul (a := t - s) (b := t + s) (by omega) (by omega); grind
  · have := nn_mul (a := s - t) (b := -(t + s)) (by omega) (by omega); grind
theorem sq_mono_lt {s t : Int} (h : 0 ≤ s ∧ s < t ∨ t < s ∧ s ≤ 0) : s * s < t * t := by
  rcases h with h | h
  · have := ps_mul (a := t - s) (b := t + s) (by omega) (by omega); grind
  · have := ps_mul (a := s - t) (b := -(t + s)) (by omega) (by omega); grind
theorem on_sq {a b r : S31} (h : onB a b r = true) (hr : r ≠ b) : sqd a r < sqd a b := by
  obtain ⟨_, h1, h2⟩ := (onB_iff' a b r).1 h
  unfold sqd
  have hne : r.f0 ≠ b.f0 ∨ r.f1 ≠ b.f1 := by
    by_cases h0 : r.f0 = b.f0
    · exact Or.inr (fun h1 => hr (S31.ext' h0 h1))
    · exact Or.inl h0
  have m1 : (a.f0 - r.f0) * (a.f0 - r.f0) ≤ (a.f0 - b.f0) * (a.f0 - b.f0) := sq_mono (by omega)
  have m2 : (a.f1 - r.f1) * (a.f1 - r.f1) ≤ (a.f1 - b.f1) * (a.f1 - b.f1) := sq_mono (by omega)
  rcases hne with h3 | h3
  · have m3 : (a.f0 - r.f0) * (a.f0 - r.f0) < (a.f0 - b.f0) * (a.f0 - b.f0) := sq_mono_lt (by omega)
    omega
  · have m3 : (a.f1 - r.f1) * (a.f1 - r.f1) < (a.f1 - b.f1) * (a.f1 - b.f1) := sq_mono_lt (by omega)
    omega
/-- one step of a look for the next corner -/
def scStep (at_ tq p : S31) : S31 := if p = at_ then tq else if tq = at_ ∨ crs at_ tq p < 0 ∨ (crs at_ tq p = 0 ∧ sqd at_ tq < sqd at_ p) then p else tq
theorem scan_is (at_ b : S31) (hb : b ≠ at_) : ∀ (l : List S31) (tq : S31), (∀ p ∈ l, Lf at_ b p) → (tq = at_ ∨ Lf at_ b tq) → (b ∈ l ∨ tq = b) → l.foldl (scStep at_) tq = b := by
  intro l
  induction l with
  | nil => intro tq _ _ h; rcases h with h | h
           · simp at h
           · exact h
  | cons p l ih =>
    intro tq hl ht hb'
    rw [List.foldl_cons]
    have hp := hl p (by simp)
    by_cases hto : tq = b
    · refine ih _ (fun q hq => hl q (by simp [hq])) ?_ (Or.inr ?_)
      · unfold scStep; split
        · exact ht
        · split
          · exact Or.inr hp
          · exact ht
      · subst hto
        unfold scStep
        split
        · rfl
        · rename_i hpa
          rw [if_neg]
          rintro (h | h | ⟨h1, h2⟩)
          · exact hb h
          · have := hp.nn; omega
          · rcases hp with h | h
            · omega
            · by_cases he : p = tq
              · rw [he] at h2; omega
              · have := on_sq h he; omega
    · by_cases hpb : p = b
      · subst hpb
        refine ih _ (fun q hq => hl q (by simp [hq])) ?_ (Or.inr ?_)
        · unfold scStep; split
          · exact ht
          · split
            · exact Or.inr hp
            · exact ht
        · unfold scStep
          rw [if_neg hb]
          by_cases hta : tq = at_
          · rw [if_pos (Or.inl hta)]
          · rw [if_pos]
            rcases ht with h | h
            · exact absurd h hta
            · have e := crs_swap at_ p tq
              rcases h with h | h
              · right; left; omega
              · right; right
                have h0 := ((onB_iff at_ p tq).1 h).1
                exact ⟨by omega, on_sq h hto⟩
      · have hbl : b ∈ l := by
          rcases hb' with h | h
          · rw [List.mem_cons] at h
            rcases h with h | h
            · exact absurd h.symm hpb
            · exact h
          · exact absurd h hto
        refine ih _ (fun q hq => hl q (by simp [hq])) ?_ (Or.inl hbl)
        unfold scStep; split
        · exact ht
        · split
          · exact Or.inr hp
          · exact ht
/-- the place behind a place of a ring -/
def nxt (i n : Nat) : Nat := if i + 1 < n then i + 1 else 0
/-- the corners of a hull -/
structure IsHull (l H : List S31) : Prop where
  pos : 0 < H.length
  mem : ∀ i, i < H.length → pt H i ∈ l
  least : ∀ r ∈ l, ¬ ltP r (pt H 0) = true
  one : H.length = 1 → ∀ r ∈ l, r = pt H 0
  ed : ∀ i, i < H.length → ∀ r ∈ l, Lf (pt H i) (pt H (nxt i H.length)) r
  ne : ∀ i, 0 < i → i < H.length → pt H i ≠ pt H 0
  ner : ∀ i, i + 1 < H.length → pt H i ≠ pt H (i + 1)
theorem onB_self (a : S31) : onB a a a = true := by rw [onB_iff']; refine ⟨crs_same a a, by omega, by omega⟩
theorem Ch.mono {R out : List S31} (H : Ch R out) : ∀ j i, i < j → j < out.length → ltP (pt out i) (pt out j) = true
  | 0, i, h, _ => by omega
  | j + 1, i, h, hj => by
    rcases Nat.lt_or_ge i j with h1 | h1
    · exact ltP_trans (Ch.mono H j i h1 (by omega)) (H.inc j hj)
    · obtain rfl : i = j := by omega
      exact H.inc i hj
theorem pt_dropLast (l : List S31) (i : Nat) (h : i + 1 < l.length) : pt l.dropLast i = pt l i := by
  rw [pt_eq _ _ (by rw [List.length_dropLast]; omega), pt_eq _ _ (by omega), List.getElem_dropLast]
theorem neg_inj {a b : S31} (h : neg a = neg b) : a = b := by rw [← neg_neg a, h, neg_neg]
theorem corners_hull (l : List S31) (h : 0 < l.length) : IsHull l (cornersS l) := by
  obtain ⟨has, hpos⟩ := sortedS_asc l h
  have hm := sortedS_mem l
  unfold cornersS
  generalize sortedS l = S at *
  by_cases h3 : S.length < 3
  · rw [if_pos h3]
    by_cases h2 : S.length = 1
    · have hone : ∀ r ∈ l, r = pt S 0 := by
        intro r hr
        obtain ⟨i, hi, rfl⟩ := mem_pt ((hm r).2 hr)
        obtain rfl : i = 0 := by omega
        rfl
      refine ⟨hpos, fun i hi => (hm _).1 (pt_mem S i hi), ?_, fun _ => hone, ?_, by omega, by omega⟩
      · intro r hr; rw [hone r hr]; exact ltP_irr _
      · intro i hi r hr
        obtain rfl : i = 0 := by omega
        have : nxt 0 S.length = 0 := by unfold nxt; rw [if_neg (by omega)]
        rw [this, hone r hr]; exact Or.inr (onB_self _)
    · have h2' : S.length = 2 := by omega
      have hlt := has 0 1 (by omega) (by omega)
      have htwo : ∀ r ∈ l, r = pt S 0 ∨ r = pt S 1 := by
        intro r hr
        obtain ⟨i, hi, rfl⟩ := mem_pt ((hm r).2 hr)
        have : i = 0 ∨ i = 1 := by omega
        rcases this with rfl | rfl
        · exact Or.inl rfl
        · exact Or.inr rfl
      refine ⟨hpos, fun i hi => (hm _).1 (pt_mem S i hi), ?_, by omega, ?_, ?_, ?_⟩
      · intro r hr
        rcases htwo r hr with rfl | rfl
        · exact ltP_irr _
        · exact ltP_asym hlt
      · have ends : ∀ a b : S31, Lf a b a ∧ Lf a b b := by
          intro a b
          exact ⟨Or.inr ((onB_iff' a b a).2 ⟨crs_same a b, by omega, by omega⟩), Or.inr ((onB_iff' a b b).2 ⟨crs_end a b, by omega, by omega⟩)⟩
        intro i hi r hr
        have : i = 0 ∨ i = 1 := by omega
        rcases this with rfl | rfl
        · rw [show nxt 0 S.length = 1 by unfold nxt; rw [if_pos (by omega)]]
          rcases htwo r hr with rfl | rfl
          · exact (ends _ _).1
          · exact (ends _ _).2
        · rw [show nxt 1 S.length = 0 by unfold nxt; rw [if_neg (by omega)]]
          rcases htwo r hr with rfl | rfl
          · exact (ends _ _).2
          · exact (ends _ _).1
      · intro i h0 hi e
        obtain rfl : i = 1 := by omega
        rw [e] at hlt; exact ltP_irr _ hlt
      · intro i hi e
        obtain rfl : i = 0 := by omega
        rw [e] at hlt; exact ltP_irr _ hlt
  · rw [if_neg h3]
    have hl := chain_ch S has hpos
    have hu := upper_ch S has hpos
    have hl0 := hl.lst
    generalize chainL S = A at *
    generalize chainL S.reverse = B at *
    have hBl : (B.map neg).length = B.length := List.length_map ..
    have hmR : ∀ r, r ∈ S → neg r ∈ S.reverse.map neg := fun r hr => List.mem_map.2 ⟨r, List.mem_reverse.2 hr, rfl⟩
    have hmR' : ∀ r, neg r ∈ S.reverse.map neg → r ∈ S := by
      intro r hr
      obtain ⟨q, hq, e⟩ := List.mem_map.1 hr
      rw [← neg_inj e]; exact List.mem_reverse.1 hq
    -- the ends
    have e0 : pt A 0 = pt S 0 := by
      rcases ltP_tot (pt A 0) (pt S 0) with h1 | h1 | h1
      · obtain ⟨i, hi, e⟩ := mem_pt (hl.mem 0 hl.pos)
        rw [← e] at h1
        rcases Nat.eq_zero_or_pos i with rfl | h2
        · exact absurd h1 (ltP_irr _)
        · exact absurd h1 (ltP_asym (has 0 i h2 hi))
      · exact h1
      · exact absurd h1 (hl.hd _ (pt_mem S 0 hpos))
    have e1 : pt A (A.length - 1) = pt S (S.length - 1) := by
      rcases ltP_tot (pt A (A.length - 1)) (pt S (S.length - 1)) with h1 | h1 | h1
      · exact absurd h1 (hl.lst _ (pt_mem S _ (by omega)))
      · exact h1
      · obtain ⟨i, hi, e⟩ := mem_pt (hl.mem (A.length - 1) (by have := hl.pos; omega))
        rw [← e] at h1
        rcases Nat.lt_or_ge i (S.length - 1) with h2 | h2
        · exact absurd h1 (ltP_asym (has i _ h2 (by omega)))
        · rw [show i = S.length - 1 by omega] at h1; exact absurd h1 (ltP_irr _)
    have hBp : 0 < B.length := by have := hu.pos; rwa [hBl] at this
    have ninc : ∀ i, i + 1 < B.length → ltP (pt B (i + 1)) (pt B i) = true := by
      intro i hi; have := hu.inc i (by rw [hBl]; exact hi); rwa [pt_neg, pt_neg, ltP_neg] at this
    have nmono : ∀ i j, i < j → j < B.length → ltP (pt B j) (pt B i) = true := by
      intro i j hij hj; have := hu.mono j i hij (by rw [hBl]; exact hj); rwa [pt_neg, pt_neg, ltP_neg] at this
    have nmem : ∀ i, i < B.length → pt B i ∈ S := by
      intro i hi; have := hu.mem i (by rw [hBl]; exact hi); rw [pt_neg] at this; exact hmR' _ this
    have e2 : pt B 0 = pt S (S.length - 1) := by
      rcases ltP_tot (pt B 0) (pt S (S.length - 1)) with h1 | h1 | h1
      · have := hu.hd _ (hmR _ (pt_mem S (S.length - 1) (by omega)))
        rw [pt_neg, ltP_neg] at this; exact absurd h1 this
      · exact h1
      · obtain ⟨i, hi, e⟩ := mem_pt (nmem 0 hBp)
        rw [← e] at h1
        rcases Nat.lt_or_ge i (S.length - 1) with h2 | h2
        · exact absurd h1 (ltP_asym (has i _ h2 (by omega)))
        · rw [show i = S.length - 1 by omega] at h1; exact absurd h1 (ltP_irr _)
    have e3 : pt B (B.length - 1) = pt S 0 := by
      rcases ltP_tot (pt B (B.length - 1)) (pt S 0) with h1 | h1 | h1
      · obtain ⟨i, hi, e⟩ := mem_pt (nmem (B.length - 1) (by omega))
        rw [← e] at h1
        rcases Nat.eq_zero_or_pos i with rfl | h2
        · exact absurd h1 (ltP_irr _)
        · exact absurd h1 (ltP_asym (has 0 i h2 hi))
      · exact h1
      · have := hu.lst _ (hmR _ (pt_mem S 0 hpos))
        rw [pt_neg, ltP_neg, hBl] at this; exact absurd h1 this
    have hS := has 0 (S.length - 1) (by omega) (by omega)
    have hA2 : 2 ≤ A.length := by
      rcases Nat.lt_or_ge A.length 2 with h1 | h1
      · have h2 := hl.pos
        rw [show A.length - 1 = 0 by omega, e0] at e1
        rw [← e1] at hS; exact absurd hS (ltP_irr _)
      · exact h1
    have hB2 : 2 ≤ B.length := by
      rcases Nat.lt_or_ge B.length 2 with h1 | h1
      · rw [show B.length - 1 = 0 by omega, e2] at e3
        rw [e3] at hS; exact absurd hS (ltP_irr _)
      · exact h1
    have hlen : (A.dropLast ++ B.dropLast).length = A.length - 1 + (B.length - 1) := by rw [List.length_append, List.length_dropLast, List.length_dropLast]
    have hA : ∀ i, i < A.length - 1 → pt (A.dropLast ++ B.dropLast) i = pt A i := by
      intro i hi
      rw [pt_app_l _ _ _ (by rw [List.length_dropLast]; exact hi), pt_dropLast _ _ (by omega)]
    have hB : ∀ i, i < B.length - 1 → pt (A.dropLast ++ B.dropLast) (A.length - 1 + i) = pt B i := by
      intro i hi
      rw [pt_app_r _ _ _ (by rw [List.length_dropLast]; omega), List.length_dropLast, Nat.add_sub_cancel_left, pt_dropLast _ _ (by omega)]
    have hA' : pt (A.dropLast ++ B.dropLast) (A.length - 1) = pt A (A.length - 1) := by
      have := hB 0 (by omega); rw [Nat.add_zero] at this; rw [this, e2, e1]
    have h0 : pt (A.dropLast ++ B.dropLast) 0 = pt S 0 := by rw [hA 0 (by omega), e0]
    generalize A.dropLast ++ B.dropLast = H at *
    have part : ∀ i, i < H.length → i < A.length - 1 ∨ ∃ j, i = A.length - 1 + j ∧ j < B.length - 1 := by
      intro i hi
      rcases Nat.lt_or_ge i (A.length - 1) with h1 | h1
      · exact Or.inl h1
      · exact Or.inr ⟨i - (A.length - 1), by omega, by omega⟩
    have edA : ∀ i, i + 1 < A.length → ∀ r ∈ l, Lf (pt A i) (pt A (i + 1)) r := fun i hi r hr => (hl.ed i hi r ((hm r).2 hr)).lf (hl.inc i hi)
    have edB : ∀ i, i + 1 < B.length → ∀ r ∈ l, Lf (pt B i) (pt B (i + 1)) r := by
      intro i hi r hr
      have h4 := (hu.ed i (by rw [hBl]; exact hi) _ (hmR r ((hm r).2 hr))).lf (hu.inc i (by rw [hBl]; exact hi))
      rw [pt_neg, pt_neg] at h4
      unfold Lf at h4
      rw [crs_neg, onB_neg] at h4
      exact h4
    refine ⟨by omega, ?_, ?_, by omega, ?_, ?_, ?_⟩
    · intro i hi
      rcases part i hi with h1 | ⟨j, rfl, h1⟩
      · rw [hA i h1]; exact (hm _).1 (hl.mem i (by omega))
      · rw [hB j h1]; exact (hm _).1 (nmem j (by omega))
    · intro r hr
      rw [h0, ← e0]; exact hl.hd r ((hm r).2 hr)
    · intro i hi r hr
      rcases part i hi with h1 | ⟨j, rfl, h1⟩
      · rw [show nxt i H.length = i + 1 by unfold nxt; rw [if_pos (by omega)], hA i h1]
        have e : pt H (i + 1) = pt A (i + 1) := by
          rcases Nat.lt_or_ge (i + 1) (A.length - 1) with h2 | h2
          · exact hA _ h2
          · rw [show i + 1 = A.length - 1 by omega]; exact hA'
        rw [e]; exact edA i (by omega) r hr
      · rw [hB j h1]
        rcases Nat.lt_or_ge (j + 1) (B.length - 1) with h2 | h2
        · rw [show nxt (A.length - 1 + j) H.length = A.length - 1 + (j + 1) by unfold nxt; rw [if_pos (by omega)]; omega, hB _ h2]
          exact edB j (by omega) r hr
        · rw [show nxt (A.length - 1 + j) H.length = 0 by unfold nxt; rw [if_neg (by omega)], h0, ← e3, show B.length - 1 = j + 1 by omega]
          exact edB j (by omega) r hr
    · intro i h4 hi
      rw [h0]
      intro e
      rcases part i hi with h1 | ⟨j, rfl, h1⟩
      · rw [hA i h1] at e
        have := hl.mono i 0 h4 (by omega)
        rw [e, e0] at this; exact ltP_irr _ this
      · rw [hB j h1] at e
        have := nmono j (B.length - 1) h1 (by omega)
        rw [e, e3] at this; exact ltP_irr _ this
    · intro i hi e
      rcases part i (by omega) with h1 | ⟨j, rfl, h1⟩
      · rw [hA i h1] at e
        have e' : pt H (i + 1) = pt A (i + 1) := by
          rcases Nat.lt_or_ge (i + 1) (A.length - 1) with h2 | h2
          · exact hA _ h2
          · rw [show i + 1 = A.length - 1 by omega]; exact hA'
        rw [e'] at e
        have := hl.inc i (by omega)
        rw [e] at this; exact ltP_irr _ this
      · rw [hB j h1, Nat.add_assoc, hB (j + 1) (by omega)] at e
        have := ninc j (by omega)
        rw [e] at this; exact ltP_irr _ this
/-- the walk round a hull from corner to corner -/
def giftGo (l : List S31) (first : S31) : Nat → S31 → List S31 → Option (List S31)
  | 0, _, _ => none
  | k + 1, at_, out => if l.foldl (scStep at_) at_ = at_ ∨ l.foldl (scStep at_) at_ = first then some out else giftGo l first k (l.foldl (scStep at_) at_) (out ++ [l.foldl (scStep at_) at_])
theorem hull_next {l H : List S31} (h : IsHull l H) (i : Nat) (hi : i < H.length) : l.foldl (scStep (pt H i)) (pt H i) = pt H (nxt i H.length) := by
  by_cases h1 : H.length = 1
  · obtain rfl : i = 0 := by omega
    rw [show nxt 0 H.length = 0 by unfold nxt; rw [if_neg (by omega)]]
    have hall := h.one h1
    generalize pt H 0 = a at *
    clear h h1 hi
    induction l with
    | nil => rfl
    | cons p l ih =>
      rw [List.foldl_cons, show scStep a a p = a by unfold scStep; rw [if_pos (hall p (by simp))]]
      exact ih (fun r hr => hall r (by simp [hr]))
  · have hb : pt H (nxt i H.length) ≠ pt H i := by
      unfold nxt
      split
      · rename_i h2; exact fun e => h.ner i h2 e.symm
      · rename_i h2; exact fun e => h.ne i (by omega) hi e.symm
    have hm : pt H (nxt i H.length) ∈ l := by
      refine h.mem _ ?_
      unfold nxt; split <;> omega
    exact scan_is _ _ hb l _ (h.ed i hi) (Or.inl rfl) (Or.inl hm)
theorem gift_is {l H : List S31} (h : IsHull l H) : ∀ d i k, i < H.length → i + 1 + d = H.length → d < k → giftGo l (pt H 0) k (pt H i) (H.take (i + 1)) = some H := by
  intro d
  induction d with
  | zero =>
    intro i k hi hd hk
    obtain ⟨k, rfl⟩ : ∃ k', k = k' + 1 := ⟨k - 1, by omega⟩
    unfold giftGo
    rw [hull_next h i hi, show nxt i H.length = 0 by unfold nxt; rw [if_neg (by omega)], if_pos (Or.inr rfl), show i + 1 = H.length by omega, List.take_length]
  | succ d ih =>
    intro i k hi hd hk
    obtain ⟨k, rfl⟩ : ∃ k', k = k' + 1 := ⟨k - 1, by omega⟩
    unfold giftGo
    rw [hull_next h i hi, show nxt i H.length = i + 1 by unfold nxt; rw [if_pos (by omega)], if_neg, ← take_pt H (i + 1) (by omega)]
    · exact ih (i + 1) k (by omega) (by omega) (by omega)
    · rintro (e | e)
      · exact h.ner i (by omega) e.symm
      · exact h.ne (i + 1) (by omega) (by omega) e
theorem hull_unique {l A B : List S31} (ha : IsHull l A) (hb : IsHull l B) : A = B := by
  have e : pt A 0 = pt B 0 := by
    rcases ltP_tot (pt A 0) (pt B 0) with h | h | h
    · exact absurd h (hb.least _ (ha.mem 0 ha.pos))
    · exact h
    · exact absurd h (ha.least _ (hb.mem 0 hb.pos))
  have g1 := gift_is ha (A.length - 1) 0 (A.length + B.length) ha.pos (by have := ha.pos; omega) (by have := ha.pos; omega)
  have g2 := gift_is hb (B.length - 1) 0 (A.length + B.length) hb.pos (by have := hb.pos; omega) (by have := hb.pos; omega)
  rw [take_pt A 0 ha.pos, e] at g1
  rw [take_pt B 0 hb.pos] at g2
  have : some A = some B := by rw [← g1, ← g2]; rfl
  exact Option.some.inj this
theorem hull_same {l m H : List S31} (h : IsHull l H) (hlm : ∀ p, p ∈ m ↔ p ∈ l) : IsHull m H :=
  ⟨h.pos, fun i hi => (hlm _).2 (h.mem i hi), fun r hr => h.least r ((hlm r).1 hr), fun h1 r hr => h.one h1 r ((hlm r).1 hr), fun i hi r hr => h.ed i hi r ((hlm r).1 hr), h.ne, h.ner⟩
theorem hull_self {l H : List S31} (h : IsHull l H) : IsHull H H := by
  have hs : ∀ r ∈ H, r ∈ l := fun r hr => by obtain ⟨i, hi, rfl⟩ := mem_pt hr; exact h.mem i hi
  exact ⟨h.pos, fun i hi => pt_mem H i hi, fun r hr => h.least r (hs r hr), fun h1 r hr => h.one h1 r (hs r hr), fun i hi r hr => h.ed i hi r (hs r hr), h.ne, h.ner⟩
theorem corners_again {l : List S31} (h : 0 < l.length) : cornersS (cornersS l) = cornersS l := by
  have h1 := corners_hull l h
  exact hull_unique (corners_hull _ h1.pos) (hull_self h1)
theorem corners_same {l m : List S31} (h : 0 < l.length) (hm : 0 < m.length) (hlm : ∀ p, p ∈ m ↔ p ∈ l) : cornersS m = cornersS l :=
  hull_unique (corners_hull m hm) (hull_same (corners_hull l h) hlm)
theorem lf_unique {a b c : S31} (h1 : Lf a b c) (h2 : Lf a c b) : b = c := by
  have e := crs_swap a b c
  have n1 := h1.nn
  have n2 := h2.nn
  have o1 : onB a b c = true := by
    rcases h1 with h | h
    · omega
    · exact h
  have o2 : onB a c b = true := by
    rcases h2 with h | h
    · omega
    · exact h
  obtain ⟨_, x1, y1⟩ := (onB_iff' _ _ _).1 o1
  obtain ⟨_, x2, y2⟩ := (onB_iff' _ _ _).1 o2
  exact S31.ext' (by omega) (by omega)
theorem nxt_mod {i n : Nat} (h : i < n) : nxt i n = (i + 1) % n := by
  unfold nxt
  split
  · rename_i h1; rw [Nat.mod_eq_of_lt h1]
  · rw [show i + 1 = n by omega, Nat.mod_self]
theorem nxt_lt {i n : Nat} (h : 0 < n) : nxt i n < n := by unfold nxt; split <;> omega
theorem hull_inj {l H : List S31} (h : IsHull l H) : ∀ d i j, j + d = H.length → i < j → j < H.length → pt H i ≠ pt H j := by
  intro d
  induction d with
  | zero => intro i j h1 h2 h3; omega
  | succ d ih =>
    intro i j h1 h2 h3 e
    have l1 := h.ed i (by omega) _ (h.mem _ (nxt_lt (i := j) h.pos))
    have l2 := h.ed j h3 _ (h.mem _ (nxt_lt (i := i) h.pos))
    rw [← e] at l2
    have e2 := lf_unique l1 l2
    rw [show nxt i H.length = i + 1 by unfold nxt; rw [if_pos (by omega)]] at e2
    rcases Nat.lt_or_ge (j + 1) H.length with h4 | h4
    · rw [show nxt j H.length = j + 1 by unfold nxt; rw [if_pos h4]] at e2
      exact ih (i + 1) (j + 1) (by omega) (by omega) h4 e2
    · rw [show nxt j H.length = 0 by unfold nxt; rw [if_neg (by omega)]] at e2
      exact h.ne (i + 1) (by omega) (by omega) e2
theorem hull_ne {l H : List S31} (h : IsHull l H) {i j : Nat} (hi : i < H.length) (hj : j < H.length) (hij : i ≠ j) : pt H i ≠ pt H j := by
  rcases Nat.lt_or_ge i j with h1 | h1
  · exact hull_inj h (H.length - j) i j (by omega) h1 hj
  · exact fun e => hull_inj h (H.length - i) j i (by omega) (by omega) hi e.symm
theorem hull_left {l H : List S31} (h : IsHull l H) (h3 : 2 < H.length) (i : Nat) (hi : i < H.length) : 0 < crs (pt H i) (pt H (nxt i H.length)) (pt H (nxt (nxt i H.length) H.length)) := by
  have hb := nxt_lt (i := i) h.pos
  have hc := nxt_lt (i := nxt i H.length) h.pos
  have hac : pt H i ≠ pt H (nxt (nxt i H.length) H.length) := hull_ne h hi hc (by unfold nxt; split <;> split <;> omega)
  have l1 := h.ed i hi _ (h.mem _ hc)
  have l2 := h.ed _ hb _ (h.mem _ hi)
  generalize pt H (nxt (nxt i H.length) H.length) = c at *
  generalize pt H (nxt i H.length) = b at *
  generalize pt H i = a at *
  rcases l1 with l1 | l1
  · exact l1
  · exfalso
    obtain ⟨z, x1, y1⟩ := (onB_iff' _ _ _).1 l1
    have o2 : onB b c a = true := by
      rcases l2 with l2 | l2
      · rw [crs_rot] at l2; omega
      · exact l2
    obtain ⟨_, x2, y2⟩ := (onB_iff' _ _ _).1 o2
    exact hac (S31.ext' (by omega) (by omega))
/-- the value of a linear function at a point -/
def lin (u v : Int) (p : S31) : Int := u * p.f0 + v * p.f1
theorem lin_key (u v : Int) (a b c m : S31) : crs a b c * (lin u v m - lin u v b) = crs a b m * (lin u v c - lin u v b) + crs b c m * (lin u v a - lin u v b) := by
  unfold crs lin; grind
theorem lin_on (u v : Int) {a b r : S31} (h : onB a b r = true) : lin u v r ≤ lin u v a ∨ lin u v r ≤ lin u v b := by
  obtain ⟨hc, hx, hy⟩ := (onB_iff' _ _ _).1 h
  rcases Int.lt_or_le (lin u v a) (lin u v r) with h1 | h1
  · rcases Int.lt_or_le (lin u v b) (lin u v r) with h2 | h2
    · exfalso
      -- both ends are lower: the point cannot lie between them
      unfold lin at h1 h2
      unfold crs at hc
      have key1 : (u * (r.f0 - a.f0) + v * (r.f1 - a.f1)) * (b.f0 - r.f0) = (u * (b.f0 - r.f0) + v * (b.f1 - r.f1)) * (r.f0 - a.f0) := by grind
      have key2 : (u * (r.f0 - a.f0) + v * (r.f1 - a.f1)) * (b.f1 - r.f1) = (u * (b.f0 - r.f0) + v * (b.f1 - r.f1)) * (r.f1 - a.f1) := by grind
      have p1 : 0 < u * (r.f0 - a.f0) + v * (r.f1 - a.f1) := by grind
      have p2 : 0 < -(u * (b.f0 - r.f0) + v * (b.f1 - r.f1)) := by grind
      generalize hP : u * (r.f0 - a.f0) + v * (r.f1 - a.f1) = P at *
      generalize hQ : u * (b.f0 - r.f0) + v * (b.f1 - r.f1) = Q at *
      have zx : r.f0 = a.f0 ∧ b.f0 = r.f0 := by
        rcases hx with hx | hx
        · have n1 := nn_mul (a := P) (b := b.f0 - r.f0) (by omega) (by omega)
          have n2 := nn_mul (a := -Q) (b := r.f0 - a.f0) (by omega) (by omega)
          have n2' : 0 ≤ -(Q * (r.f0 - a.f0)) := by grind
          have z1 : P * (b.f0 - r.f0) = 0 := by omega
          have z2 : Q * (r.f0 - a.f0) = 0 := by omega
          rcases Int.mul_eq_zero.1 z1 with h | h <;> rcases Int.mul_eq_zero.1 z2 with h' | h' <;> omega
        · have n1 := nn_mul (a := P) (b := r.f0 - b.f0) (by omega) (by omega)
          have n2 := nn_mul (a := -Q) (b := a.f0 - r.f0) (by omega) (by omega)
          have n1' : 0 ≤ -(P * (b.f0 - r.f0)) := by grind
          have n2' : 0 ≤ Q * (r.f0 - a.f0) := by grind
          have z1 : P * (b.f0 - r.f0) = 0 := by omega
          have z2 : Q * (r.f0 - a.f0) = 0 := by omega
          rcases Int.mul_eq_zero.1 z1 with h | h <;> rcases Int.mul_eq_zero.1 z2 with h' | h' <;> omega
      have zy : r.f1 = a.f1 ∧ b.f1 = r.f1 := by
        rcases hy with hx | hx
        · have n1 := nn_mul (a := P) (b := b.f1 - r.f1) (by omega) (by omega)
          have n2 := nn_mul (a := -Q) (b := r.f1 - a.f1) (by omega) (by omega)
          have n2' : 0 ≤ -(Q * (r.f1 - a.f1)) := by grind
          have z1 : P * (b.f1 - r.f1) = 0 := by omega
          have z2 : Q * (r.f1 - a.f1) = 0 := by omega
          rcases Int.mul_eq_zero.1 z1 with h | h <;> rcases Int.mul_eq_zero.1 z2 with h' | h' <;> omega
        · have n1 := nn_mul (a := P) (b := r.f1 - b.f1) (by omega) (by omega)
          have n2 := nn_mul (a := -Q) (b := a.f1 - r.f1) (by omega) (by omega)
          have n1' : 0 ≤ -(P * (b.f1 - r.f1)) := by grind
          have n2' : 0 ≤ Q * (r.f1 - a.f1) := by grind
          have z1 : P * (b.f1 - r.f1) = 0 := by omega
          have z2 : Q * (r.f1 - a.f1) = 0 := by omega
          rcases Int.mul_eq_zero.1 z1 with h | h <;> rcases Int.mul_eq_zero.1 z2 with h' | h' <;> omega
      rw [zx.1, zy.1] at hP
      have : P = 0 := by rw [← hP]; grind
      omega
    · exact Or.inr h2
  · exact Or.inl h1
theorem max_at (f : S31 → Int) : ∀ (H : List S31), 0 < H.length → ∃ i, i < H.length ∧ ∀ j, j < H.length → f (pt H j) ≤ f (pt H i) := by
  intro H hH
  have key : ∀ n, 0 < n → ∃ i, i < n ∧ ∀ j, j < n → f (pt H j) ≤ f (pt H i) := by
    intro n
    induction n with
    | zero => intro h; omega
    | succ n ih =>
      intro _
      rcases Nat.eq_zero_or_pos n with rfl | hn
      · exact ⟨0, by omega, fun j hj => by obtain rfl : j = 0 := by omega
                                           exact Int.le_refl _⟩
      · obtain ⟨i, hi, hm⟩ := ih hn
        rcases Int.lt_or_le (f (pt H i)) (f (pt H n)) with h | h
        · refine ⟨n, by omega, fun j hj => ?_⟩
          rcases Nat.lt_or_ge j n with h1 | h1
          · have := hm j h1; omega
          · obtain rfl : j = n := by omega
            exact Int.le_refl _
        · refine ⟨i, by omega, fun j hj => ?_⟩
          rcases Nat.lt_or_ge j n with h1 | h1
          · exact hm j h1
          · obtain rfl : j = n := by omega
            exact h
  exact key H.length hH
/-- a linear function is greatest at a corner -/
theorem hull_max {l H : List S31} (h : IsHull l H) (u v : Int) : ∃ i, i < H.length ∧ ∀ p ∈ l, lin u v p ≤ lin u v (pt H i) := by
  obtain ⟨i, hi, hm⟩ := max_at (lin u v) H h.pos
  refine ⟨i, hi, fun p hp => ?_⟩
  by_cases h1 : H.length = 1
  · rw [h.one h1 p hp]; exact hm 0 (by omega)
  · by_cases h2 : H.length = 2
    · have he := h.ed 0 (by omega) p hp
      have he' := h.ed 1 (by omega) p hp
      rw [show nxt 0 H.length = 1 by unfold nxt; rw [if_pos (by omega)]] at he
      rw [show nxt 1 H.length = 0 by unfold nxt; rw [if_neg (by omega)]] at he'
      have n1 := he.nn
      have n2 := he'.nn
      have e : crs (pt H 1) (pt H 0) p = - crs (pt H 0) (pt H 1) p := by unfold crs; grind
      rcases he with h3 | h3
      · omega
      · rcases lin_on u v h3 with h4 | h4
        · have := hm 0 (by omega); omega
        · have := hm 1 (by omega); omega
    · -- the corner ahead of it
      obtain ⟨k, hk, hki⟩ : ∃ k, k < H.length ∧ nxt k H.length = i := by
        rcases Nat.eq_zero_or_pos i with rfl | h3
        · exact ⟨H.length - 1, by omega, by unfold nxt; rw [if_neg (by omega)]⟩
        · exact ⟨i - 1, by omega, by unfold nxt; rw [if_pos (by omega)]; omega⟩
      have ht := hull_left h (by omega) k hk
      have e1 := (h.ed k hk p hp).nn
      have e2 := (h.ed i hi p hp).nn
      rw [hki] at ht e1
      have f1 := hm k hk
      have f2 := hm _ (nxt_lt (i := i) h.pos)
      have key := lin_key u v (pt H k) (pt H i) (pt H (nxt i H.length)) p
      generalize pt H (nxt i H.length) = c at *
      generalize pt H i = b at *
      generalize pt H k = a at *
      rcases Int.lt_or_le (lin u v b) (lin u v p) with h4 | h4
      · exfalso
        have m1 := ps_mul (a := crs a b c) (b := lin u v p - lin u v b) ht (by omega)
        have m2 := nn_mul (a := crs a b p) (b := lin u v b - lin u v c) e1 (by omega)
        have m3 := nn_mul (a := crs b c p) (b := lin u v b - lin u v a) e2 (by omega)
        have m2' : crs a b p * (lin u v c - lin u v b) ≤ 0 := by grind
        have m3' : crs b c p * (lin u v a - lin u v b) ≤ 0 := by grind
        omega
      · exact h4
end Go.Proofs.Ythaklbjcjoolcaa.P
namespace Go.Proofs.Ythaklbjcjoolcaa.P
open Go.RowKit Go.Proofs.YthaklbjcjoolcaaW.PrintWords Go.Proofs.YthaklbjcjoolcaaW.PrintLast Go.Proofs.YthaklbjcjoolcaaW.PrintMore
theorem mn_le' (a b : Int) : mn a b ≤ a ∧ mn a b ≤ b := by unfold mn; split <;> omega
theorem le_mx' (a b : Int) : a ≤ mx a b ∧ b ≤ mx a b := by unfold mx; split <;> omega
theorem value_is {u v : Int} {p : S31} (h1 : wrap64 (u * p.f0) = u * p.f0) (h2 : wrap64 (v * p.f1) = v * p.f1) (h3 : wrap64 (lin u v p) = lin u v p) : plane_value.f u v p.f0 p.f1 = some (lin u v p) := by
 unfold plane_value.f
 rw [h1, h2]; unfold lin at *; rw [h3]
def Fine (u v : Int) (l : List S31) : Prop := ∀ p ∈ l, plane_value.f u v p.f0 p.f1 = some (lin u v p)
structure Ext (u v : Int) (l : List S31) (lo hi : Int) : Prop where
 ge : ∀ p ∈ l, lo ≤ lin u v p
 le : ∀ p ∈ l, lin u v p ≤ hi
 atlo : ∃ p ∈ l, lin u v p = lo
 athi : ∃ p ∈ l, lin u v p = hi
theorem ext_from (u v : Int) (l : List S31) (hf : Fine u v l) (hl : l.length < 9223372036854775807) : ∀ (n i : Nat) (lo hi : Int), l.length - i = n → i ≤ l.length → (∃ p ∈ l, lin u v p = lo) → (∃ p ∈ l, lin u v p = hi) → (∀ j, j < i → lo ≤ lin u v (pt l j) ∧ lin u v (pt l j) ≤ hi) →
  ∃ lo' hi', Ev (fun k => plane_extremes.l0 k u v lo hi l (l.length : Int) (i : Int)) (lo', hi') ∧ Ext u v l lo' hi'
 | 0, i, lo, hi, hn, hi', h1, h2, h3 => by
  refine ⟨lo, hi, Ev.step (f := fun _ => some (lo, hi)) (fun k => ?_) (Ev.now _), ?_⟩
  ·unfold plane_extremes.l0; rw [if_neg (by omega)]
  ·refine ⟨fun p hp => ?_, fun p hp => ?_, h1, h2⟩
   ·obtain ⟨j, hj, rfl⟩ := mem_pt hp; exact (h3 j (by omega)).1
   ·obtain ⟨j, hj, rfl⟩ := mem_pt hp; exact (h3 j (by omega)).2
 | n + 1, i, lo, hi, hn, hi', h1, h2, h3 => by
  have hlt : i < l.length := by omega
  have hm := pt_mem l i hlt
  obtain ⟨lo', hi'', he, hx⟩ := ext_from u v l hf hl n (i + 1) (mn lo (lin u v (pt l i))) (mx hi (lin u v (pt l i))) (by omega) (by omega)
   (by unfold mn; split; exact ⟨_, hm, rfl⟩; exact h1) (by unfold mx; split; exact ⟨_, hm, rfl⟩; exact h2)
   (fun j hj => by
    have a1 := mn_le' lo (lin u v (pt l i))
    have a2 := le_mx' hi (lin u v (pt l i))
    rcases Nat.lt_or_ge j i with h | h
    ·have := h3 j h; omega
    ·obtain rfl : j = i := by omega
     omega)
  refine ⟨lo', hi'', Ev.step (fun k => ?_) he, hx⟩
  conv => lhs; unfold plane_extremes.l0
  rw [if_pos (by omega), if_pos (by omega), if_pos (by omega), rd_pt, hf _ hm, Option.bind_some, Option.bind_some, w64i (x := (i : Int) + 1) (by omega) (by omega)]
  rfl
theorem ext_ev (u v : Int) (l : List S31) (hf : Fine u v l) (h0 : 0 < l.length) (hl : l.length < 9223372036854775807) : ∃ lo hi, Ev (fun k => plane_extremes.f k u v l) (lo, hi) ∧ Ext u v l lo hi := by
 have hm := pt_mem l 0 h0
 obtain ⟨lo, hi, he, hx⟩ := ext_from u v l hf hl (l.length - 0) 0 (lin u v (pt l 0)) (lin u v (pt l 0)) rfl (by omega) ⟨_, hm, rfl⟩ ⟨_, hm, rfl⟩ (fun j hj => by omega)
 refine ⟨lo, hi, ?_, hx⟩
 unfold plane_extremes.f
 refine ev_pos (by omega) ?_
 rw [show rd_T31 l 0 = pt l 0 from rfl, hf _ hm]
 exact he
theorem fine_big {u v : Int} (hu : -1073741824 ≤ u ∧ u ≤ 1073741824) (hv : -1073741824 ≤ v ∧ v ≤ 1073741824) {l : List S31} (hl : allOk l = true) : Fine u v l := by
 intro p hp
 have ho := List.all_eq_true.1 hl p hp
 rw [okPt_iff] at ho
 have h1 := mul_bd (a := u) (b := p.f0) (m := 1073741824) (n := 4096) (by omega) (by omega)
 have h2 := mul_bd (a := v) (b := p.f1) (m := 1073741824) (n := 4096) (by omega) (by omega)
 exact value_is (w64i (by omega) (by omega)) (w64i (by omega) (by omega)) (by unfold lin; exact w64i (by omega) (by omega))
end Go.Proofs.Ythaklbjcjoolcaa.P
namespace Go.Proofs.Ythaklbjcjoolcaa.P
open Go.RowKit Go.Shelf Go.Sort Go.Proofs.YthaklbjcjoolcaaW.PrintWords Go.Proofs.YthaklbjcjoolcaaW.PrintLast Go.Proofs.YthaklbjcjoolcaaW.PrintMore
theorem within_quiet {a b c : Int} {r : Bool} (h : plane_within.f a b c = some r) (w : World) : Calls Try.prog 77 #[.int .i64 a, .int .i64 b, .int .i64 c] w fun e w' => e = .returned (.bool r) ∧ ∃ m, w' = w.drewN m :=
  (plane_within.calls a b c r w h).mono fun e w' ⟨he, n, hn⟩ => ⟨he, n, hn⟩
/-- a verdict is right -/
def rightB (a b : List S31) (m : Bool) (x y d u v t : Int) : Bool :=
  if m = true then (u == 0) && ((v == 0) && ((t == 0) && (decide (1 ≤ d ∧ d ≤ 1073741824) && (decide (-4398046511104 ≤ x ∧ x ≤ 4398046511104) && (decide (-4398046511104 ≤ y ∧ y ≤ 4398046511104) && (holdsB (cornersS a) x y d && holdsB (cornersS b) x y d))))))
  else (x == 0) && ((y == 0) && ((d == 0) && (decide (-1073741824 ≤ u ∧ u ≤ 1073741824) && (decide (-1073741824 ≤ v ∧ v ≤ 1073741824) && (decide (-1152921504606846976 ≤ t ∧ t ≤ 1152921504606846976) && ((a.all fun p => decide (lin u v p < t)) && b.all fun p => decide (t < lin u v p)))))))
def plane_right.f (l0 l1 : List S31) (m : Bool) (x y d u v t : Int) : Option Bool := if isSetB l0 = true ∧ isSetB l1 = true then some (rightB l0 l1 m x y d u v t) else none
def rightR.T2 : Bool × List (List Nat × List Nat) := (true, [([], []), ([0], [0]), ([1], [1]), ([2], [2]), ([3], [3]), ([4, 3], [3, 4]), ([5, 3], [3, 5]), ([3, 6], [3, 6]), ([7, 3], [7]), ([8], [8]), ([9, 8], [8, 9]), ([10, 8], [8, 10]), ([8, 11], [8, 11]), ([12, 8], [12]), ([13], [13]), ([14, 13], [13, 14]), ([15, 13, 13], [13, 15]), ([13, 16], [13, 16]), ([17, 16], [17]), ([18], [18]), ([19, 18], [18, 19]), ([20, 18, 18], [18, 20]), ([18, 21], [18, 21]), ([22, 21], [22]), ([23], [23]), ([24, 23], [23, 24]), ([25, 23, 23], [23, 25]), ([23, 26], [23, 26]), ([27, 26], [27]), ([28], [28]), ([29, 28, 28], [28, 29]), ([28], [28]), ([31, 28], [28, 31]), ([28], [28]), ([33, 28], [28, 33]), ([28], [28]), ([35, 28], [28, 35]), ([30, 32, 34, 36, 30, 28], [28, 30, 32, 34, 36]), ([28, 37], [28, 37]), ([38, 37], [38]), ([39], [39]), ([40, 39, 39], [39, 40]), ([39], [39]), ([42, 39], [39, 42]), ([39], [39]), ([44, 39], [39, 44]), ([39], [39]), ([46, 39], [39, 46]), ([41, 43, 45, 47, 41, 39], [39, 41, 43, 45, 47]), ([39, 48], [39, 48]), ([49, 48, 0, 1, 2, 3, 4, 5, 6, 7, 8, 9, 10, 11, 12, 13, 14, 15, 16, 17, 18, 19, 20, 21, 22, 23, 24, 25, 26, 27, 28, 29, 30, 31, 32, 33, 34, 35, 36, 37, 38, 39, 40, 41, 42, 43, 44, 45, 46, 47, 48, 49], [49])])
def rightR.B2 : List Nat := [0, 1, 3, 7, 15, 31, 63, 127, 255, 511, 1023, 2047, 4095, 8191, 16383, 32767, 65535, 131071, 262143, 524287, 1048575, 2097151, 4194303, 8388607, 16777215, 33554431, 67108863, 134217727, 268435455, 536870911, 1073741823, 536870911, 2684354559, 536870911, 9126805503, 536870911, 34896609279, 137438953471, 274877906943, 549755813887, 1099511627775, 2199023255551, 1099511627775, 5497558138879, 1099511627775, 18691697672191, 1099511627775, 71468255805439, 281474976710655, 562949953421311, 1125899906842623]
theorem rightR.tab2 : rtab .any (opsOf Try.f69 2) = rightR.T2 := by kernel_rfl
theorem rightR.bits2 : waitsOk rightR.T2.2 rightR.B2 = true := by kernel_rfl
set_option maxHeartbeats 40000000 in
set_option maxRecDepth 100000 in
theorem right_meet (A0 : Option Addr) (c0 : Nat) (a : List S31) (A1 : Option Addr) (c1 : Nat) (b : List S31) (x y d u v t : Int) (w : World) (hr0 : Kd.C k31 w A0 a.length a) (hc0 : a.length ≤ c0) (hr1 : Kd.C k31 w A1 b.length b) (hc1 : b.length ≤ c1) (ha : isSetB a = true) (hb : isSetB b = true) :
    Calls Try.prog 69 #[.slice A0 a.length c0, .slice A1 b.length c1, .agg #[.bool true, .int .i64 x, .int .i64 y, .int .i64 d, .int .i64 u, .int .i64 v, .int .i64 t]] w fun e w' => e = .returned (.bool (rightB a b true x y d u v t)) ∧ Below w.heap.size w w' := by
  obtain ⟨⟨la1, la2⟩, oa⟩ := (isSetB_iff a).1 ha
  obtain ⟨⟨lb1, lb2⟩, ob⟩ := (isSetB_iff b).1 hb
  have HC0 := Aside0.mk (fun W (hb : Below w.heap.size w W) => corners_calls A0 c0 a W (Kd.C_below hr0 hb) hc0 la1 (by omega) oa)
  have HC1 := Aside0.mk (fun W (hb : Below w.heap.size w W) => corners_calls A1 c1 b W (Kd.C_below hr1 hb) hc1 lb1 (by omega) ob)
  have hpl := cornersS_len a
  have hql := cornersS_len b
  have HH0 := Aside0.mk (show plane_holds.f (cornersS a) x y d = some (holdsB (cornersS a) x y d) from if_pos (by omega))
  have HH1 := Aside0.mk (show plane_holds.f (cornersS b) x y d = some (holdsB (cornersS b) x y d) from if_pos (by omega))
  have HW3 := Aside0.mk (within_is d 1 1073741824)
  have HW4 := Aside0.mk (within_is x (-4398046511104) 4398046511104)
  have HW5 := Aside0.mk (within_is y (-4398046511104) 4398046511104)
  have HE := Aside0.mk (show rightB a b true x y d u v t = ((u == 0) && ((v == 0) && ((t == 0) && (decide (1 ≤ d ∧ d ≤ 1073741824) && (decide (-4398046511104 ≤ x ∧ x ≤ 4398046511104) && (decide (-4398046511104 ≤ y ∧ y ≤ 4398046511104) && (holdsB (cornersS a) x y d && holdsB (cornersS b) x y d))))))) from rfl)
  have HB := Aside0.mk (lA (Below.refl w.heap.size w) (Obj.cells #[.bool true, .int .i64 x, .int .i64 y, .int .i64 d, .int .i64 u, .int .i64 v, .int .i64 t] 44))
  obtain ⟨f0, f1, f2, f3, f4, f5, f6⟩ := cells7 (heap_alloc_new w (Obj.cells #[.bool true, .int .i64 x, .int .i64 y, .int .i64 d, .int .i64 u, .int .i64 v, .int .i64 t] 44))
  clear hr0 hr1 ha hb oa ob hpl hql la1 la2 lb1 lb2
  generalize rightB a b true x y d u v t = r at *
  generalize cornersS a = p at *
  generalize cornersS b = q at *
  generalize decide (1 ≤ d ∧ d ≤ 1073741824) = t3 at *
  generalize decide (-4398046511104 ≤ x ∧ x ≤ 4398046511104) = t4 at *
  generalize decide (-4398046511104 ≤ y ∧ y ≤ 4398046511104) = t5 at *
  generalize holdsB p x y d = t6 at *
  generalize holdsB q x y d = t7 at *
  go_enter Try.func69, Try.ntmps69
  go_wp2
  generalize w.alloc (Obj.cells #[.bool true, .int .i64 x, .int .i64 y, .int .i64 d, .int .i64 u, .int .i64 v, .int .i64 t] 44) = W at *
  cases h0 : (u == 0)
  · have HR := Aside0.mk (show r = false by rw [HE.out, h0]; simp)
    go_quiet (first | (go_at_call 77; with_reducible refine Calls.quiet_of (within_quiet HW3.out _)) | (go_at_call 77; with_reducible refine Calls.quiet_of (within_quiet HW4.out _)) | (go_at_call 77; with_reducible refine Calls.quiet_of (within_quiet HW5.out _)))
    try go_wp2
    go_ret
    exact ⟨by rw [HR.out]; rfl, lN HB.out _⟩
  cases h1 : (v == 0)
  · have HR := Aside0.mk (show r = false by rw [HE.out, h0, h1]; simp)
    go_quiet (first | (go_at_call 77; with_reducible refine Calls.quiet_of (within_quiet HW3.out _)) | (go_at_call 77; with_reducible refine Calls.quiet_of (within_quiet HW4.out _)) | (go_at_call 77; with_reducible refine Calls.quiet_of (within_quiet HW5.out _)))
    try go_wp2
    go_ret
    exact ⟨by rw [HR.out]; rfl, lN HB.out _⟩
  cases h2 : (t == 0)
  · have HR := Aside0.mk (show r = false by rw [HE.out, h0, h1, h2]; simp)
    go_quiet (first | (go_at_call 77; with_reducible refine Calls.quiet_of (within_quiet HW3.out _)) | (go_at_call 77; with_reducible refine Calls.quiet_of (within_quiet HW4.out _)) | (go_at_call 77; with_reducible refine Calls.quiet_of (within_quiet HW5.out _)))
    try go_wp2
    go_ret
    exact ⟨by rw [HR.out]; rfl, lN HB.out _⟩
  cases t3
  · have HR := Aside0.mk (show r = false by rw [HE.out, h0, h1, h2]; simp)
    go_quiet (first | (go_at_call 77; with_reducible refine Calls.quiet_of (within_quiet HW3.out _)) | (go_at_call 77; with_reducible refine Calls.quiet_of (within_quiet HW4.out _)) | (go_at_call 77; with_reducible refine Calls.quiet_of (within_quiet HW5.out _)))
    try go_wp2
    go_ret
    exact ⟨by rw [HR.out]; rfl, lN HB.out _⟩
  cases t4
  · have HR := Aside0.mk (show r = false by rw [HE.out, h0, h1, h2]; simp)
    go_quiet (first | (go_at_call 77; with_reducible refine Calls.quiet_of (within_quiet HW3.out _)) | (go_at_call 77; with_reducible refine Calls.quiet_of (within_quiet HW4.out _)) | (go_at_call 77; with_reducible refine Calls.quiet_of (within_quiet HW5.out _)))
    try go_wp2
    go_ret
    exact ⟨by rw [HR.out]; rfl, lN HB.out _⟩
  cases t5
  · have HR := Aside0.mk (show r = false by rw [HE.out, h0, h1, h2]; simp)
    go_quiet (first | (go_at_call 77; with_reducible refine Calls.quiet_of (within_quiet HW3.out _)) | (go_at_call 77; with_reducible refine Calls.quiet_of (within_quiet HW4.out _)) | (go_at_call 77; with_reducible refine Calls.quiet_of (within_quiet HW5.out _)))
    try go_wp2
    go_ret
    exact ⟨by rw [HR.out]; rfl, lN HB.out _⟩
  cases t6
  · have HR := Aside0.mk (show r = false by rw [HE.out, h0, h1, h2]; simp)
    refine start_ (n := 51) (S := fun w' => w'.cell? ⟨w.heap.size, 1, none⟩ = some (.int .i64 x) ∧ w'.cell? ⟨w.heap.size, 2, none⟩ = some (.int .i64 y) ∧ w'.cell? ⟨w.heap.size, 3, none⟩ = some (.int .i64 d) ∧ w'.cell? ⟨w.heap.size, 4, none⟩ = some (.int .i64 u) ∧ w'.cell? ⟨w.heap.size, 5, none⟩ = some (.int .i64 v) ∧ w'.cell? ⟨w.heap.size, 6, none⟩ = some (.int .i64 t)) (ds := []) (Bs 0 51) (by kernel_rfl) rfl rfl ⟨f1, f2, f3, f4, f5, f6⟩ (fun hHeld => ?_)
    refine with_tabW rightR.tab2 rightR.bits2 (fun HT_ HW_ => ?_)
    refine pu 0 13 (Bs 1 51) HT_ ?_
    refine ta 1 14 (Bs 2 51) HT_ HW_ hHeld ?_
    refine pu 2 15 (Bs 3 51) HT_ ?_
    refine pu 3 16 (Bs 4 51) HT_ ?_
    refine pu 4 17 (Bs 5 51) HT_ ?_
    refine ta 5 18 (Bs 6 51) HT_ HW_ hHeld ?_
    refine pu 6 19 (Bs 7 51) HT_ ?_
    refine pu 7 20 (Bs 8 51) HT_ ?_
    refine pu 8 21 (Bs 9 51) HT_ ?_
    refine pu 9 22 (Bs 10 51) HT_ ?_
    refine ta 10 23 (Bs 11 51) HT_ HW_ hHeld ?_
    refine pu 11 24 (Bs 12 51) HT_ ?_
    refine pu 12 25 (Bs 13 51) HT_ ?_
    refine pu 13 26 (Bs 14 51) HT_ ?_
    refine pu 14 27 (Bs 15 51) HT_ ?_
    refine ta 15 28 (Bs 16 51) HT_ HW_ hHeld ?_
    refine one_ (i := 16) (N := some 29) (Bs 17 51) rfl rfl (one_of HT_.out (by kernel_rfl)) (by decide) (fun K hK => ?_)
    refine goes_ Try.func77 (by kernel_rfl) rfl #[.int .i64 d, .int .i64 (1), .int .i64 (1073741824)] (by rfl) rfl rfl (by simp only [List.map_toArray, List.map_cons, List.map_nil]; rfl) ?_
    with_reducible refine (plane_within.calls _ _ _ _ _ HW3.out).mono ?_
    rintro e w' ⟨rfl, ⟨n1, rfl⟩⟩
    refine ⟨_, rfl, ?_⟩
    refine hK.out _ _ ⟨hHeld.1, hHeld.2.1, hHeld.2.2.1, hHeld.2.2.2.1, hHeld.2.2.2.2.1, hHeld.2.2.2.2.2⟩ (fun hHeld => ?_)
    clear hK K
    refine nm 29 ?_
    refine pu 17 30 (Bs 18 51) HT_ ?_
    refine pu 18 31 (Bs 19 51) HT_ ?_
    refine pu 19 32 (Bs 20 51) HT_ ?_
    refine ta 20 33 (Bs 21 51) HT_ HW_ hHeld ?_
    refine one_ (i := 21) (N := some 34) (Bs 22 51) rfl rfl (one_of HT_.out (by kernel_rfl)) (by decide) (fun K hK => ?_)
    refine goes_ Try.func77 (by kernel_rfl) rfl #[.int .i64 x, .int .i64 (-4398046511104), .int .i64 (4398046511104)] (by rfl) rfl rfl (by simp only [List.map_toArray, List.map_cons, List.map_nil]; rfl) ?_
    with_reducible refine (plane_within.calls _ _ _ _ _ HW4.out).mono ?_
    rintro e w' ⟨rfl, ⟨n2, rfl⟩⟩
    refine ⟨_, rfl, ?_⟩
    refine hK.out _ _ ⟨hHeld.1, hHeld.2.1, hHeld.2.2.1, hHeld.2.2.2.1, hHeld.2.2.2.2.1, hHeld.2.2.2.2.2⟩ (fun hHeld => ?_)
    clear hK K
    refine nm 34 ?_
    refine pu 22 35 (Bs 23 51) HT_ ?_
    refine pu 23 36 (Bs 24 51) HT_ ?_
    refine pu 24 37 (Bs 25 51) HT_ ?_
    refine ta 25 38 (Bs 26 51) HT_ HW_ hHeld ?_
    refine one_ (i := 26) (N := some 39) (Bs 27 51) rfl rfl (one_of HT_.out (by kernel_rfl)) (by decide) (fun K hK => ?_)
    refine goes_ Try.func77 (by kernel_rfl) rfl #[.int .i64 y, .int .i64 (-4398046511104), .int .i64 (4398046511104)] (by rfl) rfl rfl (by simp only [List.map_toArray, List.map_cons, List.map_nil]; rfl) ?_
    with_reducible refine (plane_within.calls _ _ _ _ _ HW5.out).mono ?_
    rintro e w' ⟨rfl, ⟨n3, rfl⟩⟩
    refine ⟨_, rfl, ?_⟩
    have HB3 := Aside0.mk (lN (lN (lN (below_drew HB.out) n1) n2) n3)
    refine hK.out _ _ ⟨hHeld.1, hHeld.2.1, hHeld.2.2.1, hHeld.2.2.2.1, hHeld.2.2.2.2.1, hHeld.2.2.2.2.2⟩ (fun hHeld => ?_)
    clear hK K
    refine nm 39 ?_
    refine pu 27 40 (Bs 28 51) HT_ ?_
    refine pu 28 41 (Bs 29 51) HT_ ?_
    refine pu 29 42 (Bs 30 51) HT_ ?_
    refine pu 31 44 (Br [30,1,1,19]) HT_ ?_
    refine pu 33 46 (Br [30,1,1,1,1,17]) HT_ ?_
    refine pu 35 48 (Br [30,1,1,1,1,1,1,15]) HT_ ?_
    refine ta 32 45 (Br [30,1,3,1,1,15]) HT_ HW_ hHeld ?_
    refine ta 34 47 (Br [30,1,5,15]) HT_ HW_ hHeld ?_
    refine ta 36 49 (Br [30,1,6,14]) HT_ HW_ hHeld ?_
    refine one_ (i := 30) (N := some 43) (Bs 37 51) rfl rfl (one_of HT_.out (by kernel_rfl)) (by decide) (fun K hK => ?_)
    refine goes_ Try.func64 (by kernel_rfl) rfl #[.slice A0 a.length c0] (by rfl) rfl rfl (by simp only [List.map_toArray, List.map_cons, List.map_nil]; rfl) ?_
    with_reducible refine (HC0.out _ HB3.out).mono ?_
    rintro e w4 ⟨v4, rfl, hR4, hb4⟩
    refine ⟨_, rfl, ?_⟩
    have HB4 := Aside0.mk (below_step HB3.out hb4)
    obtain ⟨A4, c4, e4⟩ := Kd.R_slice hR4
    subst e4
    have HR4 := Aside0.mk (Kd.R_reads' hR4)
    clear hR4
    refine hK.out _ _ ⟨(hb4.cell (World.block_lt_of_cell? _ _ hHeld.1)).trans hHeld.1, (hb4.cell (World.block_lt_of_cell? _ _ hHeld.2.1)).trans hHeld.2.1, (hb4.cell (World.block_lt_of_cell? _ _ hHeld.2.2.1)).trans hHeld.2.2.1, (hb4.cell (World.block_lt_of_cell? _ _ hHeld.2.2.2.1)).trans hHeld.2.2.2.1, (hb4.cell (World.block_lt_of_cell? _ _ hHeld.2.2.2.2.1)).trans hHeld.2.2.2.2.1, (hb4.cell (World.block_lt_of_cell? _ _ hHeld.2.2.2.2.2)).trans hHeld.2.2.2.2.2⟩ (fun hHeld => ?_)
    clear hK K
    refine nm 43 ?_
    refine one_ (i := 37) (N := some 50) (Bs 38 51) rfl rfl (one_of HT_.out (by kernel_rfl)) (by decide) (fun K hK => ?_)
    refine goes_ Try.func88 (by kernel_rfl) rfl #[.slice A4 p.length c4, .int .i64 x, .int .i64 y, .int .i64 d] (by rfl) rfl rfl (by simp only [List.map_toArray, List.map_cons, List.map_nil]; rfl) ?_
    with_reducible refine (plane_holds.calls A4 c4 p x y d _ _ HR4.out.2.2 HR4.out.2.1 HH0.out).mono ?_
    rintro e w5 ⟨rfl, hb5⟩
    refine ⟨_, rfl, ?_⟩
    have HB5 := Aside0.mk (below_step HB4.out hb5)
    refine hK.out _ _ ⟨(hb5.cell (World.block_lt_of_cell? _ _ hHeld.1)).trans hHeld.1, (hb5.cell (World.block_lt_of_cell? _ _ hHeld.2.1)).trans hHeld.2.1, (hb5.cell (World.block_lt_of_cell? _ _ hHeld.2.2.1)).trans hHeld.2.2.1, (hb5.cell (World.block_lt_of_cell? _ _ hHeld.2.2.2.1)).trans hHeld.2.2.2.1, (hb5.cell (World.block_lt_of_cell? _ _ hHeld.2.2.2.2.1)).trans hHeld.2.2.2.2.1, (hb5.cell (World.block_lt_of_cell? _ _ hHeld.2.2.2.2.2)).trans hHeld.2.2.2.2.2⟩ (fun hHeld => ?_)
    clear hK K
    refine nm 50 ?_
    refine pu 38 51 (Bs 39 51) HT_ ?_
    refine pu 39 52 (Bs 40 51) HT_ ?_
    refine po 40 53 (Bs 41 51) HT_ ?_
    refine po 41 54 (Bs 42 51) HT_ ?_
    refine po 42 55 (Bs 43 51) HT_ ?_
    refine po 43 56 (Bs 44 51) HT_ ?_
    refine po 44 57 (Bs 45 51) HT_ ?_
    refine po 45 58 (Bs 46 51) HT_ ?_
    refine po 46 59 (Bs 47 51) HT_ ?_
    refine po 47 60 (Bs 48 51) HT_ ?_
    refine po 48 61 (Bs 49 51) HT_ ?_
    refine pu 49 62 (Bs 50 51) HT_ ?_
    refine pu 50 6 (Bs 51 51) HT_ ?_
    refine done_ (done_of HT_.out (by kernel_rfl)) ?_
    try go_wp2
    all_goals (go_ret; exact ⟨by rw [HR.out]; rfl, HB5.out⟩)
  have HR := Aside0.mk (show r = t7 by rw [HE.out, h0, h1, h2]; simp)
  refine start_ (n := 51) (S := fun w' => w'.cell? ⟨w.heap.size, 1, none⟩ = some (.int .i64 x) ∧ w'.cell? ⟨w.heap.size, 2, none⟩ = some (.int .i64 y) ∧ w'.cell? ⟨w.heap.size, 3, none⟩ = some (.int .i64 d) ∧ w'.cell? ⟨w.heap.size, 4, none⟩ = some (.int .i64 u) ∧ w'.cell? ⟨w.heap.size, 5, none⟩ = some (.int .i64 v) ∧ w'.cell? ⟨w.heap.size, 6, none⟩ = some (.int .i64 t)) (ds := []) (Bs 0 51) (by kernel_rfl) rfl rfl ⟨f1, f2, f3, f4, f5, f6⟩ (fun hHeld => ?_)
  refine with_tabW rightR.tab2 rightR.bits2 (fun HT_ HW_ => ?_)
  refine pu 0 13 (Bs 1 51) HT_ ?_
  refine ta 1 14 (Bs 2 51) HT_ HW_ hHeld ?_
  refine pu 2 15 (Bs 3 51) HT_ ?_
  refine pu 3 16 (Bs 4 51) HT_ ?_
  refine pu 4 17 (Bs 5 51) HT_ ?_
  refine ta 5 18 (Bs 6 51) HT_ HW_ hHeld ?_
  refine pu 6 19 (Bs 7 51) HT_ ?_
  refine pu 7 20 (Bs 8 51) HT_ ?_
  refine pu 8 21 (Bs 9 51) HT_ ?_
  refine pu 9 22 (Bs 10 51) HT_ ?_
  refine ta 10 23 (Bs 11 51) HT_ HW_ hHeld ?_
  refine pu 11 24 (Bs 12 51) HT_ ?_
  refine pu 12 25 (Bs 13 51) HT_ ?_
  refine pu 13 26 (Bs 14 51) HT_ ?_
  refine pu 14 27 (Bs 15 51) HT_ ?_
  refine ta 15 28 (Bs 16 51) HT_ HW_ hHeld ?_
  refine one_ (i := 16) (N := some 29) (Bs 17 51) rfl rfl (one_of HT_.out (by kernel_rfl)) (by decide) (fun K hK => ?_)
  refine goes_ Try.func77 (by kernel_rfl) rfl #[.int .i64 d, .int .i64 (1), .int .i64 (1073741824)] (by rfl) rfl rfl (by simp only [List.map_toArray, List.map_cons, List.map_nil]; rfl) ?_
  with_reducible refine (plane_within.calls _ _ _ _ _ HW3.out).mono ?_
  rintro e w' ⟨rfl, ⟨n1, rfl⟩⟩
  refine ⟨_, rfl, ?_⟩
  refine hK.out _ _ ⟨hHeld.1, hHeld.2.1, hHeld.2.2.1, hHeld.2.2.2.1, hHeld.2.2.2.2.1, hHeld.2.2.2.2.2⟩ (fun hHeld => ?_)
  clear hK K
  refine nm 29 ?_
  refine pu 17 30 (Bs 18 51) HT_ ?_
  refine pu 18 31 (Bs 19 51) HT_ ?_
  refine pu 19 32 (Bs 20 51) HT_ ?_
  refine ta 20 33 (Bs 21 51) HT_ HW_ hHeld ?_
  refine one_ (i := 21) (N := some 34) (Bs 22 51) rfl rfl (one_of HT_.out (by kernel_rfl)) (by decide) (fun K hK => ?_)
  refine goes_ Try.func77 (by kernel_rfl) rfl #[.int .i64 x, .int .i64 (-4398046511104), .int .i64 (4398046511104)] (by rfl) rfl rfl (by simp only [List.map_toArray, List.map_cons, List.map_nil]; rfl) ?_
  with_reducible refine (plane_within.calls _ _ _ _ _ HW4.out).mono ?_
  rintro e w' ⟨rfl, ⟨n2, rfl⟩⟩
  refine ⟨_, rfl, ?_⟩
  refine hK.out _ _ ⟨hHeld.1, hHeld.2.1, hHeld.2.2.1, hHeld.2.2.2.1, hHeld.2.2.2.2.1, hHeld.2.2.2.2.2⟩ (fun hHeld => ?_)
  clear hK K
  refine nm 34 ?_
  refine pu 22 35 (Bs 23 51) HT_ ?_
  refine pu 23 36 (Bs 24 51) HT_ ?_
  refine pu 24 37 (Bs 25 51) HT_ ?_
  refine ta 25 38 (Bs 26 51) HT_ HW_ hHeld ?_
  refine one_ (i := 26) (N := some 39) (Bs 27 51) rfl rfl (one_of HT_.out (by kernel_rfl)) (by decide) (fun K hK => ?_)
  refine goes_ Try.func77 (by kernel_rfl) rfl #[.int .i64 y, .int .i64 (-4398046511104), .int .i64 (4398046511104)] (by rfl) rfl rfl (by simp only [List.map_toArray, List.map_cons, List.map_nil]; rfl) ?_
  with_reducible refine (plane_within.calls _ _ _ _ _ HW5.out).mono ?_
  rintro e w' ⟨rfl, ⟨n3, rfl⟩⟩
  refine ⟨_, rfl, ?_⟩
  have HB3 := Aside0.mk (lN (lN (lN (below_drew HB.out) n1) n2) n3)
  refine hK.out _ _ ⟨hHeld.1, hHeld.2.1, hHeld.2.2.1, hHeld.2.2.2.1, hHeld.2.2.2.2.1, hHeld.2.2.2.2.2⟩ (fun hHeld => ?_)
  clear hK K
  refine nm 39 ?_
  refine pu 27 40 (Bs 28 51) HT_ ?_
  refine pu 28 41 (Bs 29 51) HT_ ?_
  refine pu 29 42 (Bs 30 51) HT_ ?_
  refine pu 31 44 (Br [30,1,1,19]) HT_ ?_
  refine pu 33 46 (Br [30,1,1,1,1,17]) HT_ ?_
  refine pu 35 48 (Br [30,1,1,1,1,1,1,15]) HT_ ?_
  refine ta 32 45 (Br [30,1,3,1,1,15]) HT_ HW_ hHeld ?_
  refine ta 34 47 (Br [30,1,5,15]) HT_ HW_ hHeld ?_
  refine ta 36 49 (Br [30,1,6,14]) HT_ HW_ hHeld ?_
  refine one_ (i := 30) (N := some 43) (Bs 37 51) rfl rfl (one_of HT_.out (by kernel_rfl)) (by decide) (fun K hK => ?_)
  refine goes_ Try.func64 (by kernel_rfl) rfl #[.slice A0 a.length c0] (by rfl) rfl rfl (by simp only [List.map_toArray, List.map_cons, List.map_nil]; rfl) ?_
  with_reducible refine (HC0.out _ HB3.out).mono ?_
  rintro e w4 ⟨v4, rfl, hR4, hb4⟩
  refine ⟨_, rfl, ?_⟩
  have HB4 := Aside0.mk (below_step HB3.out hb4)
  obtain ⟨A4, c4, e4⟩ := Kd.R_slice hR4
  subst e4
  have HR4 := Aside0.mk (Kd.R_reads' hR4)
  clear hR4
  refine hK.out _ _ ⟨(hb4.cell (World.block_lt_of_cell? _ _ hHeld.1)).trans hHeld.1, (hb4.cell (World.block_lt_of_cell? _ _ hHeld.2.1)).trans hHeld.2.1, (hb4.cell (World.block_lt_of_cell? _ _ hHeld.2.2.1)).trans hHeld.2.2.1, (hb4.cell (World.block_lt_of_cell? _ _ hHeld.2.2.2.1)).trans hHeld.2.2.2.1, (hb4.cell (World.block_lt_of_cell? _ _ hHeld.2.2.2.2.1)).trans hHeld.2.2.2.2.1, (hb4.cell (World.block_lt_of_cell? _ _ hHeld.2.2.2.2.2)).trans hHeld.2.2.2.2.2⟩ (fun hHeld => ?_)
  clear hK K
  refine nm 43 ?_
  refine one_ (i := 37) (N := some 50) (Bs 38 51) rfl rfl (one_of HT_.out (by kernel_rfl)) (by decide) (fun K hK => ?_)
  refine goes_ Try.func88 (by kernel_rfl) rfl #[.slice A4 p.length c4, .int .i64 x, .int .i64 y, .int .i64 d] (by rfl) rfl rfl (by simp only [List.map_toArray, List.map_cons, List.map_nil]; rfl) ?_
  with_reducible refine (plane_holds.calls A4 c4 p x y d _ _ HR4.out.2.2 HR4.out.2.1 HH0.out).mono ?_
  rintro e w5 ⟨rfl, hb5⟩
  refine ⟨_, rfl, ?_⟩
  have HB5 := Aside0.mk (below_step HB4.out hb5)
  refine hK.out _ _ ⟨(hb5.cell (World.block_lt_of_cell? _ _ hHeld.1)).trans hHeld.1, (hb5.cell (World.block_lt_of_cell? _ _ hHeld.2.1)).trans hHeld.2.1, (hb5.cell (World.block_lt_of_cell? _ _ hHeld.2.2.1)).trans hHeld.2.2.1, (hb5.cell (World.block_lt_of_cell? _ _ hHeld.2.2.2.1)).trans hHeld.2.2.2.1, (hb5.cell (World.block_lt_of_cell? _ _ hHeld.2.2.2.2.1)).trans hHeld.2.2.2.2.1, (hb5.cell (World.block_lt_of_cell? _ _ hHeld.2.2.2.2.2)).trans hHeld.2.2.2.2.2⟩ (fun hHeld => ?_)
  clear hK K
  refine nm 50 ?_
  refine pu 38 51 (Bs 39 51) HT_ ?_
  refine pu 39 52 (Bs 40 51) HT_ ?_
  refine pu 40 53 (Bs 41 51) HT_ ?_
  refine pu 42 55 (Br [41,1,1,8]) HT_ ?_
  refine pu 44 57 (Br [41,1,1,1,1,6]) HT_ ?_
  refine pu 46 59 (Br [41,1,1,1,1,1,1,4]) HT_ ?_
  refine ta 43 56 (Br [41,1,3,1,1,4]) HT_ HW_ hHeld ?_
  refine ta 45 58 (Br [41,1,5,4]) HT_ HW_ hHeld ?_
  refine ta 47 60 (Br [41,1,6,3]) HT_ HW_ hHeld ?_
  refine one_ (i := 41) (N := some 54) (Bs 48 51) rfl rfl (one_of HT_.out (by kernel_rfl)) (by decide) (fun K hK => ?_)
  refine goes_ Try.func64 (by kernel_rfl) rfl #[.slice A1 b.length c1] (by rfl) rfl rfl (by simp only [List.map_toArray, List.map_cons, List.map_nil]; rfl) ?_
  with_reducible refine (HC1.out _ HB5.out).mono ?_
  rintro e w6 ⟨v6, rfl, hR6, hb6⟩
  refine ⟨_, rfl, ?_⟩
  have HB6 := Aside0.mk (below_step HB5.out hb6)
  obtain ⟨A6, c6, e6⟩ := Kd.R_slice hR6
  subst e6
  have HR6 := Aside0.mk (Kd.R_reads' hR6)
  clear hR6
  refine hK.out _ _ ⟨(hb6.cell (World.block_lt_of_cell? _ _ hHeld.1)).trans hHeld.1, (hb6.cell (World.block_lt_of_cell? _ _ hHeld.2.1)).trans hHeld.2.1, (hb6.cell (World.block_lt_of_cell? _ _ hHeld.2.2.1)).trans hHeld.2.2.1, (hb6.cell (World.block_lt_of_cell? _ _ hHeld.2.2.2.1)).trans hHeld.2.2.2.1, (hb6.cell (World.block_lt_of_cell? _ _ hHeld.2.2.2.2.1)).trans hHeld.2.2.2.2.1, (hb6.cell (World.block_lt_of_cell? _ _ hHeld.2.2.2.2.2)).trans hHeld.2.2.2.2.2⟩ (fun hHeld => ?_)
  clear hK K
  refine nm 54 ?_
  refine one_ (i := 48) (N := some 61) (Bs 49 51) rfl rfl (one_of HT_.out (by kernel_rfl)) (by decide) (fun K hK => ?_)
  refine goes_ Try.func88 (by kernel_rfl) rfl #[.slice A6 q.length c6, .int .i64 x, .int .i64 y, .int .i64 d] (by rfl) rfl rfl (by simp only [List.map_toArray, List.map_cons, List.map_nil]; rfl) ?_
  with_reducible refine (plane_holds.calls A6 c6 q x y d _ _ HR6.out.2.2 HR6.out.2.1 HH1.out).mono ?_
  rintro e w7 ⟨rfl, hb7⟩
  refine ⟨_, rfl, ?_⟩
  have HB7 := Aside0.mk (below_step HB6.out hb7)
  refine hK.out _ _ ⟨(hb7.cell (World.block_lt_of_cell? _ _ hHeld.1)).trans hHeld.1, (hb7.cell (World.block_lt_of_cell? _ _ hHeld.2.1)).trans hHeld.2.1, (hb7.cell (World.block_lt_of_cell? _ _ hHeld.2.2.1)).trans hHeld.2.2.1, (hb7.cell (World.block_lt_of_cell? _ _ hHeld.2.2.2.1)).trans hHeld.2.2.2.1, (hb7.cell (World.block_lt_of_cell? _ _ hHeld.2.2.2.2.1)).trans hHeld.2.2.2.2.1, (hb7.cell (World.block_lt_of_cell? _ _ hHeld.2.2.2.2.2)).trans hHeld.2.2.2.2.2⟩ (fun hHeld => ?_)
  clear hK K
  refine nm 61 ?_
  refine pu 49 62 (Bs 50 51) HT_ ?_
  refine pu 50 6 (Bs 51 51) HT_ ?_
  refine done_ (done_of HT_.out (by kernel_rfl)) ?_
  try go_wp2
  all_goals (go_ret; exact ⟨by rw [HR.out]; rfl, HB7.out⟩)
theorem ext_hi {u v : Int} {l : List S31} {lo hi : Int} (h : Ext u v l lo hi) (t : Int) : (l.all fun p => decide (lin u v p < t)) = decide (hi < t) := by
  rw [Bool.eq_iff_iff, List.all_eq_true, decide_eq_true_eq]
  constructor
  · intro hl
    obtain ⟨p, hp, e⟩ := h.athi
    have := hl p hp
    rw [decide_eq_true_eq] at this; omega
  · intro hl p hp
    have := h.le p hp
    rw [decide_eq_true_eq]; omega
theorem ext_lo {u v : Int} {l : List S31} {lo hi : Int} (h : Ext u v l lo hi) (t : Int) : (l.all fun p => decide (t < lin u v p)) = decide (t < lo) := by
  rw [Bool.eq_iff_iff, List.all_eq_true, decide_eq_true_eq]
  constructor
  · intro hl
    obtain ⟨p, hp, e⟩ := h.atlo
    have := hl p hp
    rw [decide_eq_true_eq] at this; omega
  · intro hl p hp
    have := h.ge p hp
    rw [decide_eq_true_eq]; omega
set_option maxHeartbeats 40000000 in
set_option maxRecDepth 100000 in
theorem right_line (A0 : Option Addr) (c0 : Nat) (a : List S31) (A1 : Option Addr) (c1 : Nat) (b : List S31) (x y d u v t : Int) (w : World) (hr0 : Kd.C k31 w A0 a.length a) (hc0 : a.length ≤ c0) (hr1 : Kd.C k31 w A1 b.length b) (hc1 : b.length ≤ c1) (ha : isSetB a = true) (hb : isSetB b = true) :
    Calls Try.prog 69 #[.slice A0 a.length c0, .slice A1 b.length c1, .agg #[.bool false, .int .i64 x, .int .i64 y, .int .i64 d, .int .i64 u, .int .i64 v, .int .i64 t]] w fun e w' => e = .returned (.bool (rightB a b false x y d u v t)) ∧ Below w.heap.size w w' := by
  obtain ⟨⟨la1, la2⟩, oa⟩ := (isSetB_iff a).1 ha
  obtain ⟨⟨lb1, lb2⟩, ob⟩ := (isSetB_iff b).1 hb
  have HX := Aside0.mk (fun (h3 : decide (-1073741824 ≤ u ∧ u ≤ 1073741824) = true) (h4 : decide (-1073741824 ≤ v ∧ v ≤ 1073741824) = true) => (⟨ext_ev u v a (fine_big (of_decide_eq_true h3) (of_decide_eq_true h4) oa) (by omega) (by omega), ext_ev u v b (fine_big (of_decide_eq_true h3) (of_decide_eq_true h4) ob) (by omega) (by omega)⟩ : (∃ lo hi, Ev (fun k => plane_extremes.f k u v a) (lo, hi) ∧ Ext u v a lo hi) ∧ ∃ lo hi, Ev (fun k => plane_extremes.f k u v b) (lo, hi) ∧ Ext u v b lo hi))
  have HW3 := Aside0.mk (within_is u (-1073741824) 1073741824)
  have HW4 := Aside0.mk (within_is v (-1073741824) 1073741824)
  have HW5 := Aside0.mk (within_is t (-1152921504606846976) 1152921504606846976)
  have HE := Aside0.mk (show rightB a b false x y d u v t = ((x == 0) && ((y == 0) && ((d == 0) && (decide (-1073741824 ≤ u ∧ u ≤ 1073741824) && (decide (-1073741824 ≤ v ∧ v ≤ 1073741824) && (decide (-1152921504606846976 ≤ t ∧ t ≤ 1152921504606846976) && ((a.all fun p => decide (lin u v p < t)) && (b.all fun p => decide (t < lin u v p))))))))) from rfl)
  have HB := Aside0.mk (lA (Below.refl w.heap.size w) (Obj.cells #[.bool false, .int .i64 x, .int .i64 y, .int .i64 d, .int .i64 u, .int .i64 v, .int .i64 t] 44))
  have HG := Aside0.mk (heap_alloc_new w (Obj.cells #[.bool false, .int .i64 x, .int .i64 y, .int .i64 d, .int .i64 u, .int .i64 v, .int .i64 t] 44))
  have HGN := Aside0.mk (fun n => (show ((w.alloc (Obj.cells #[.bool false, .int .i64 x, .int .i64 y, .int .i64 d, .int .i64 u, .int .i64 v, .int .i64 t] 44)).drewN n).heap[w.heap.size]? = some (.cells #[.bool false, .int .i64 x, .int .i64 y, .int .i64 d, .int .i64 u, .int .i64 v, .int .i64 t] 44 (0, 0)) from HG.out))
  have HE0 := Aside0.mk (fun (K : Nat) (lo hi : Int) (hK : plane_extremes.f K u v a = some (lo, hi)) W (hb : Below w.heap.size w W) => plane_extremes.calls K u v A0 c0 a lo hi W (Kd.C_below hr0 hb) hc0 hK)
  have HE1 := Aside0.mk (fun (K : Nat) (lo hi : Int) (hK : plane_extremes.f K u v b = some (lo, hi)) W (hb : Below w.heap.size w W) => plane_extremes.calls K u v A1 c1 b lo hi W (Kd.C_below hr1 hb) hc1 hK)
  obtain ⟨f0, f1, f2, f3, f4, f5, f6⟩ := cells7 HG.out
  clear hr0 hr1 ha hb oa ob la1 la2 lb1 lb2
  generalize rightB a b false x y d u v t = r at *
  generalize decide (-1073741824 ≤ u ∧ u ≤ 1073741824) = t3 at *
  generalize decide (-1073741824 ≤ v ∧ v ≤ 1073741824) = t4 at *
  generalize decide (-1152921504606846976 ≤ t ∧ t ≤ 1152921504606846976) = t5 at *
  cases h0 : (x == 0)
  · have HR := Aside0.mk (show r = false by rw [HE.out, h0]; simp)
    have m0 : (x != 0) = true := by simp only [bne, h0]; rfl
    go_enter Try.func69, Try.ntmps69
    go_wp2_with (first | (go_at_call 77; with_reducible refine (plane_within.calls _ _ _ _ _ HW3.out).mono ?_; rintro e w' ⟨rfl, ⟨nd, rfl⟩⟩) | (go_at_call 77; with_reducible refine (plane_within.calls _ _ _ _ _ HW4.out).mono ?_; rintro e w' ⟨rfl, ⟨nd, rfl⟩⟩) | (go_at_call 77; with_reducible refine (plane_within.calls _ _ _ _ _ HW5.out).mono ?_; rintro e w' ⟨rfl, ⟨nd, rfl⟩⟩))
    go_ret
    exact ⟨by rw [HR.out]; rfl, by repeat (first | exact HB.out | apply lN)⟩
  have m0 : (x != 0) = false := by simp only [bne, h0]; rfl
  cases h1 : (y == 0)
  · have HR := Aside0.mk (show r = false by rw [HE.out, h0, h1]; simp)
    have m1 : (y != 0) = true := by simp only [bne, h1]; rfl
    go_enter Try.func69, Try.ntmps69
    go_wp2_with (first | (go_at_call 77; with_reducible refine (plane_within.calls _ _ _ _ _ HW3.out).mono ?_; rintro e w' ⟨rfl, ⟨nd, rfl⟩⟩) | (go_at_call 77; with_reducible refine (plane_within.calls _ _ _ _ _ HW4.out).mono ?_; rintro e w' ⟨rfl, ⟨nd, rfl⟩⟩) | (go_at_call 77; with_reducible refine (plane_within.calls _ _ _ _ _ HW5.out).mono ?_; rintro e w' ⟨rfl, ⟨nd, rfl⟩⟩))
    go_ret
    exact ⟨by rw [HR.out]; rfl, by repeat (first | exact HB.out | apply lN)⟩
  have m1 : (y != 0) = false := by simp only [bne, h1]; rfl
  cases h2 : (d == 0)
  · have HR := Aside0.mk (show r = false by rw [HE.out, h0, h1, h2]; simp)
    have m2 : (d != 0) = true := by simp only [bne, h2]; rfl
    go_enter Try.func69, Try.ntmps69
    go_wp2_with (first | (go_at_call 77; with_reducible refine (plane_within.calls _ _ _ _ _ HW3.out).mono ?_; rintro e w' ⟨rfl, ⟨nd, rfl⟩⟩) | (go_at_call 77; with_reducible refine (plane_within.calls _ _ _ _ _ HW4.out).mono ?_; rintro e w' ⟨rfl, ⟨nd, rfl⟩⟩) | (go_at_call 77; with_reducible refine (plane_within.calls _ _ _ _ _ HW5.out).mono ?_; rintro e w' ⟨rfl, ⟨nd, rfl⟩⟩))
    go_ret
    exact ⟨by rw [HR.out]; rfl, by repeat (first | exact HB.out | apply lN)⟩
  have m2 : (d != 0) = false := by simp only [bne, h2]; rfl
  cases t3
  · have HR := Aside0.mk (show r = false by rw [HE.out, h0, h1, h2]; simp)
    go_enter Try.func69, Try.ntmps69
    go_wp2_with (first | (go_at_call 77; with_reducible refine (plane_within.calls _ _ _ _ _ HW3.out).mono ?_; rintro e w' ⟨rfl, ⟨nd, rfl⟩⟩) | (go_at_call 77; with_reducible refine (plane_within.calls _ _ _ _ _ HW4.out).mono ?_; rintro e w' ⟨rfl, ⟨nd, rfl⟩⟩) | (go_at_call 77; with_reducible refine (plane_within.calls _ _ _ _ _ HW5.out).mono ?_; rintro e w' ⟨rfl, ⟨nd, rfl⟩⟩))
    go_ret
    exact ⟨by rw [HR.out]; rfl, by repeat (first | exact HB.out | apply lN)⟩
  cases t4
  · have HR := Aside0.mk (show r = false by rw [HE.out, h0, h1, h2]; simp)
    go_enter Try.func69, Try.ntmps69
    go_wp2_with (first | (go_at_call 77; with_reducible refine (plane_within.calls _ _ _ _ _ HW3.out).mono ?_; rintro e w' ⟨rfl, ⟨nd, rfl⟩⟩) | (go_at_call 77; with_reducible refine (plane_within.calls _ _ _ _ _ HW4.out).mono ?_; rintro e w' ⟨rfl, ⟨nd, rfl⟩⟩) | (go_at_call 77; with_reducible refine (plane_within.calls _ _ _ _ _ HW5.out).mono ?_; rintro e w' ⟨rfl, ⟨nd, rfl⟩⟩))
    go_ret
    exact ⟨by rw [HR.out]; rfl, by repeat (first | exact HB.out | apply lN)⟩
  cases t5
  · have HR := Aside0.mk (show r = false by rw [HE.out, h0, h1, h2]; simp)
    go_enter Try.func69, Try.ntmps69
    go_wp2_with (first | (go_at_call 77; with_reducible refine (plane_within.calls _ _ _ _ _ HW3.out).mono ?_; rintro e w' ⟨rfl, ⟨nd, rfl⟩⟩) | (go_at_call 77; with_reducible refine (plane_within.calls _ _ _ _ _ HW4.out).mono ?_; rintro e w' ⟨rfl, ⟨nd, rfl⟩⟩) | (go_at_call 77; with_reducible refine (plane_within.calls _ _ _ _ _ HW5.out).mono ?_; rintro e w' ⟨rfl, ⟨nd, rfl⟩⟩))
    go_ret
    exact ⟨by rw [HR.out]; rfl, by repeat (first | exact HB.out | apply lN)⟩
  obtain ⟨⟨lo, hi, ⟨K, hK⟩, hx⟩, lo', hi', ⟨K', hK'⟩, hx'⟩ := HX.out rfl rfl
  have HF0 := Aside0.mk (HE0.out K lo hi (hK K (Nat.le_refl _)))
  have HF1 := Aside0.mk (HE1.out K' lo' hi' (hK' K' (Nat.le_refl _)))
  have HR := Aside0.mk (show r = (decide (hi < t) && decide (t < lo')) by rw [HE.out, h0, h1, h2, ext_hi hx, ext_lo hx']; simp)
  clear HX HE HE0 HE1 hK hK' hx hx'
  cases h6 : decide (hi < t)
  all_goals
    rw [h6] at HR
    go_enter Try.func69, Try.ntmps69
    go_wp2_with (first | (go_at_call 77; with_reducible refine (plane_within.calls _ _ _ _ _ HW3.out).mono ?_; rintro e w' ⟨rfl, ⟨nd, rfl⟩⟩) | (go_at_call 77; with_reducible refine (plane_within.calls _ _ _ _ _ HW4.out).mono ?_; rintro e w' ⟨rfl, ⟨nd, rfl⟩⟩) | (go_at_call 77; with_reducible refine (plane_within.calls _ _ _ _ _ HW5.out).mono ?_; rintro e w' ⟨rfl, ⟨nd, rfl⟩⟩) | (go_at_call 87; refine (HF1.out _ HB1.out).mono ?_; rintro e w2 ⟨rfl, hb2⟩; have HB2 := Aside0.mk (below_step HB1.out hb2); clear f0 f1 f2 f3 f4 f5 f6; obtain ⟨f0, f1, f2, f3, f4, f5, f6⟩ := cells7 (blk_below HG1.out hb2); clear hb2) | (go_at_call 87; go_loud (refine (HF0.out _ (lN HB.out _)).mono ?_; rintro e w1 ⟨rfl, hb1⟩; have HB1 := Aside0.mk (below_step (lN HB.out _) hb1); have HG1 := Aside0.mk (blk_below (HGN.out _) hb1); clear f0 f1 f2 f3 f4 f5 f6 hb1; obtain ⟨f0, f1, f2, f3, f4, f5, f6⟩ := cells7 HG1.out)))
    go_ret
    exact ⟨by rw [HR.out]; rfl, HB2.out⟩
theorem plane_right.calls (A0 : Option Addr) (c0 : Nat) (l0 : List S31) (A1 : Option Addr) (c1 : Nat) (l1 : List S31) (m : Bool) (x y d u v t : Int) (r : Bool) (w : World) (hr0 : Kd.C k31 w A0 l0.length l0) (hc0 : l0.length ≤ c0) (hr1 : Kd.C k31 w A1 l1.length l1) (hc1 : l1.length ≤ c1) (h : plane_right.f l0 l1 m x y d u v t = some r) :
    Calls Try.prog 69 #[.slice A0 l0.length c0, .slice A1 l1.length c1, .agg #[.bool m, .int .i64 x, .int .i64 y, .int .i64 d, .int .i64 u, .int .i64 v, .int .i64 t]] w fun e w' => e = .returned (.bool r) ∧ Below w.heap.size w w' := by
  unfold plane_right.f at h
  by_cases hs : isSetB l0 = true ∧ isSetB l1 = true
  · rw [if_pos hs] at h
    injection h with h
    subst h
    cases m
    · exact right_line A0 c0 l0 A1 c1 l1 x y d u v t w hr0 hc0 hr1 hc1 hs.1 hs.2
    · exact right_meet A0 c0 l0 A1 c1 l1 x y d u v t w hr0 hc0 hr1 hc1 hs.1 hs.2
  · rw [if_neg hs] at h; cases h
end Go.Proofs.Ythaklbjcjoolcaa.P
namespace Go.Proofs.Ythaklbjcjoolcaa.P
open Go.RowKit Go.Proofs.YthaklbjcjoolcaaW.PrintWords Go.Proofs.YthaklbjcjoolcaaW.PrintLast Go.Proofs.YthaklbjcjoolcaaW.PrintMore
attribute [local go_sem] max2_int min2_int max_two min_two max_three min_three max_four min_four   -- for this text's walks alone

/-! ### plane_Check: function 39 -/
def plane_Check.j0 : Nat → List (S31) → List (S31) → Bool → Bool → Int → Int → Int → Int → Int → Int → Option (Int)
 | 0, _, _, _, _, _, _, _, _, _, _ => none
 | k + 1, x0, x1, x7, x449000, x449001, x449002, x449003, x449004, x449005, x449006 => if x7 = true then (some 2) else ((plane_right.f x0 x1 x449000 x449001 x449002 x449003 x449004 x449005 x449006).bind fun t451 => (if t451 = true then (some 0) else (some 10)))
def plane_Check.f (k : Nat) (l0 : List (S31)) (l1 : List (S31)) (a2_0 : Bool) (a2_1 : Int) (a2_2 : Int) (a2_3 : Int) (a2_4 : Int) (a2_5 : Int) (a2_6 : Int) : Option (Int) := (plane_isSet.f l0).bind fun t449 => (if t449 = true then ((plane_isSet.f l1).bind fun t450 => (plane_Check.j0 k l0 l1 (!t450) a2_0 a2_1 a2_2 a2_3 a2_4 a2_5 a2_6)) else (plane_Check.j0 k l0 l1 true a2_0 a2_1 a2_2 a2_3 a2_4 a2_5 a2_6))
theorem plane_Check.mono_l : ∀ k, (∀ y0 y1 y2 y3 y4 y5 y6 y7 y8 y9, LeO (plane_Check.j0 k y0 y1 y2 y3 y4 y5 y6 y7 y8 y9) (plane_Check.j0 (k + 1) y0 y1 y2 y3 y4 y5 y6 y7 y8 y9))
 | 0 => fun _ _ _ _ _ _ _ _ _ _ r h => by simp [plane_Check.j0] at h
 | k + 1 => by
  have ih0 := plane_Check.mono_l k
  ·intro y0 y1 y2 y3 y4 y5 y6 y7 y8 y9
   unfold plane_Check.j0
   repeat' first
   | (with_reducible exact ih0 _ _ _ _ _ _ _ _ _ _)
   | (with_reducible exact LeO.refl _)
   | (with_reducible exact LeO.none _)
   | (with_reducible refine LeO.ite ?_ ?_)
   | (with_reducible refine LeO.bind ?_ (fun _ => ?_))
   | exact ih0 _ _ _ _ _ _ _ _ _ _
   | exact LeO.none _
   | refine LeO.ite ?_ ?_
   | refine LeO.bind ?_ (fun _ => ?_)
theorem plane_Check.mono : ∀ a0 a1 a2 a3 a4 a5 a6 a7 a8 k, LeO (plane_Check.f k a0 a1 a2 a3 a4 a5 a6 a7 a8) (plane_Check.f (k + 1) a0 a1 a2 a3 a4 a5 a6 a7 a8) := by
 intro a0 a1 a2 a3 a4 a5 a6 a7 a8 k
 have ih0 := plane_Check.mono_l k
 unfold plane_Check.f
 repeat' first
   | (with_reducible exact ih0 _ _ _ _ _ _ _ _ _ _)
   | (with_reducible exact LeO.refl _)
   | (with_reducible exact LeO.none _)
   | (with_reducible refine LeO.ite ?_ ?_)
   | (with_reducible refine LeO.bind ?_ (fun _ => ?_))
   | exact ih0 _ _ _ _ _ _ _ _ _ _
   | exact LeO.none _
   | refine LeO.ite ?_ ?_
   | refine LeO.bind ?_ (fun _ => ?_)
set_option maxHeartbeats 8000000 in
set_option maxRecDepth 100000 in
theorem plane_Check.calls (k : Nat) (A0 : Option Addr) (c0 : Nat) (l0 : List (S31)) (A1 : Option Addr) (c1 : Nat) (l1 : List (S31)) (a2_0 : Bool) (a2_1 : Int) (a2_2 : Int) (a2_3 : Int) (a2_4 : Int) (a2_5 : Int) (a2_6 : Int) (r : Int) (w : World) (hr0 : Kd.C k31 w A0 l0.length l0) (hc0 : l0.length ≤ c0) (hr1 : Kd.C k31 w A1 l1.length l1) (hc1 : l1.length ≤ c1) (h : plane_Check.f k l0 l1 a2_0 a2_1 a2_2 a2_3 a2_4 a2_5 a2_6 = some r) :
  Calls Try.prog 39 #[.slice A0 l0.length c0, .slice A1 l1.length c1, .agg #[.bool a2_0, .int .i64 a2_1, .int .i64 a2_2, .int .i64 a2_3, .int .i64 a2_4, .int .i64 a2_5, .int .i64 a2_6]] w fun e w' => e = .returned (.int .i64 r) ∧ Below w.heap.size w w' := by
 have hu44 := Try.underlying44
 have HR0 := Aside0.mk hr0
 have HC0 := Aside0.mk hc0
 clear hr0 hc0
 have HR1 := Aside0.mk hr1
 have HC1 := Aside0.mk hc1
 clear hr1 hc1
 have HB := Aside0.mk (Below.refl w.heap.size w)
 have H : ((plane_isSet.f l0).bind fun t449 => (if t449 = true then ((plane_isSet.f l1).bind fun t450 => (plane_Check.j0 k l0 l1 (!t450) a2_0 a2_1 a2_2 a2_3 a2_4 a2_5 a2_6)) else (plane_Check.j0 k l0 l1 true a2_0 a2_1 a2_2 a2_3 a2_4 a2_5 a2_6))) = some r := h
 clear h
 have HC4 := Aside0.mk H
 clear H
 go_enter Try.func39, Try.ntmps39
 go_upto_region 1 with (first | ((with_reducible refine gate_dst (N := 5) rfl ?_); refine bxe 5 #[.bool a2_0, .int .i64 a2_1, .int .i64 a2_2, .int .i64 a2_3, .int .i64 a2_4, .int .i64 a2_5, .int .i64 a2_6] 44 ?_; intro gb448 hg w5 hbox hb; have n0_ := Aside0.mk (below_step lB hb); have n1_ := Aside0.mk (hbox); have n2_ := Aside0.mk (lG (w := w) hg); have n3_ := Aside0.mk (lG (w := w) hg); clear HB; have HB := n0_; have BK448 := n1_; have GW448 := n2_; have GE448 := n3_; clear n0_ n1_ n2_ n3_; clear hb hbox hg))
 (try simp only [Act.put, sA, sB, sC])
 go_cut [7] (fun v7 wc => ∃ (kq : Nat) (x7_3 : Bool), v7 = .bool x7_3 ∧ Aside0 (plane_Check.j0 kq l0 l1 x7_3 a2_0 a2_1 a2_2 a2_3 a2_4 a2_5 a2_6 = some r) ∧ Aside0 (kq ≤ k) ∧ Aside0 (wc.heap[gb448]? = some (.cells #[.bool a2_0, .int .i64 a2_1, .int .i64 a2_2, .int .i64 a2_3, .int .i64 a2_4, .int .i64 a2_5, .int .i64 a2_6] 44 (0, 0))) ∧ Aside0 (Below w.heap.size w wc))
 case first =>
  have H := HC4.out
  clear HC4
  replace H := Option.bind_eq_some_iff.mp H
  obtain ⟨t449, A60, H⟩ := H
  replace H : (if t449 = true then ((plane_isSet.f l1).bind fun t450 => (plane_Check.j0 k l0 l1 (!t450) a2_0 a2_1 a2_2 a2_3 a2_4 a2_5 a2_6)) else (plane_Check.j0 k l0 l1 true a2_0 a2_1 a2_2 a2_3 a2_4 a2_5 a2_6)) = some r := H
  have A6 := Aside0.mk A60
  clear A60
  by_cases c7 : t449 = true
  ·subst c7
   have H1 : ((plane_isSet.f l1).bind fun t450 => (plane_Check.j0 k l0 l1 (!t450) a2_0 a2_1 a2_2 a2_3 a2_4 a2_5 a2_6)) = some r := by rw [if_pos rfl] at H; exact H
   clear H
   have H := H1
   clear H1
   replace H := Option.bind_eq_some_iff.mp H
   obtain ⟨t450, A80, H⟩ := H
   replace H : (plane_Check.j0 k l0 l1 (!t450) a2_0 a2_1 a2_2 a2_3 a2_4 a2_5 a2_6) = some r := H
   have A8 := Aside0.mk A80
   clear A80
   have H' := Aside0.mk H
   clear H
   go_wp2_with (first | ((with_reducible refine gate_callee (f := 55) rfl ?_); refine goesL_ (some 9) rfl rfl Try.func55 (by kernel_rfl) rfl #[.slice A0 l0.length c0] rfl (by (try simp only [List.map_toArray, List.map_cons, List.map_nil]); first | done | rfl | (simp only [List.length_drop, List.length_take]; rfl)) ?_; (with_reducible refine (plane_isSet.calls _ _ l0 true _ ?side1 ?side2 A6.out).mono ?_); (case side1 => repeat (first | exact (Kd.C_below HR0.out HB.out) | (with_reducible refine Kd.C_alloc ?_ _) | (with_reducible refine Kd.C_drewN ?_ _) | (with_reducible refine Kd.C_drew ?_))); (case side2 => exact HC0.out); rintro e w9 ⟨rfl, hb⟩; refine ⟨_, rfl, ?_⟩; have n0_ := Aside0.mk (blk_below (g := gb448) (o := .cells #[.bool a2_0, .int .i64 a2_1, .int .i64 a2_2, .int .i64 a2_3, .int .i64 a2_4, .int .i64 a2_5, .int .i64 a2_6] 44 (0, 0)) (kX BK448.out) hb); have n1_ := Aside0.mk (below_step lB hb); clear BK448; clear HB; have BK448 := n0_; have HB := n1_; clear n0_ n1_; (try clear hb); (try clear hb2); (try clear hk); (try clear hi)) | (go_at_call 55; (with_reducible refine (plane_isSet.calls _ _ l1 t450 _ ?side1 ?side2 A8.out).mono ?_); (case side1 => repeat (first | exact (Kd.C_below HR1.out HB.out) | (with_reducible refine Kd.C_alloc ?_ _) | (with_reducible refine Kd.C_drewN ?_ _) | (with_reducible refine Kd.C_drew ?_))); (case side2 => exact HC1.out); rintro e w10 ⟨rfl, hb⟩; have n0_ := Aside0.mk (blk_below (g := gb448) (o := .cells #[.bool a2_0, .int .i64 a2_1, .int .i64 a2_2, .int .i64 a2_3, .int .i64 a2_4, .int .i64 a2_5, .int .i64 a2_6] 44 (0, 0)) (kX BK448.out) hb); have n1_ := Aside0.mk (below_step lB hb); clear BK448; clear HB; have BK448 := n0_; have HB := n1_; clear n0_ n1_; (try clear hb); (try clear hb2); (try clear hk); (try clear hi)))
   go_meet
   case rel => exact ⟨_, (!t450), (by first | rfl | (simp; done) | (simp [*]; done)), H', ⟨by first | omega | exact Nat.le_refl _⟩, ⟨by (with_reducible repeat (first | refine kN ?_ _ | refine kD ?_ | refine kA ?_ _)); exact BK448.out⟩, ⟨by repeat (first | (with_reducible first | exact HB.out | apply lA | apply lN | apply lD | refine lS ?_ GE448.out) | exact HB.out)⟩⟩
  replace c7 := Bool.eq_false_iff.mpr c7
  subst c7
  have H1 : (plane_Check.j0 k l0 l1 true a2_0 a2_1 a2_2 a2_3 a2_4 a2_5 a2_6) = some r := by rw [if_neg (show ¬ (false = true) by decide)] at H; exact H
  clear H
  have H := H1
  clear H1
  have H' := Aside0.mk H
  clear H
  go_wp2_with (first | ((with_reducible refine gate_callee (f := 55) rfl ?_); refine goesL_ (some 9) rfl rfl Try.func55 (by kernel_rfl) rfl #[.slice A0 l0.length c0] rfl (by (try simp only [List.map_toArray, List.map_cons, List.map_nil]); first | done | rfl | (simp only [List.length_drop, List.length_take]; rfl)) ?_; (with_reducible refine (plane_isSet.calls _ _ l0 false _ ?side1 ?side2 A6.out).mono ?_); (case side1 => repeat (first | exact (Kd.C_below HR0.out HB.out) | (with_reducible refine Kd.C_alloc ?_ _) | (with_reducible refine Kd.C_drewN ?_ _) | (with_reducible refine Kd.C_drew ?_))); (case side2 => exact HC0.out); rintro e w11 ⟨rfl, hb⟩; refine ⟨_, rfl, ?_⟩; have n0_ := Aside0.mk (blk_below (g := gb448) (o := .cells #[.bool a2_0, .int .i64 a2_1, .int .i64 a2_2, .int .i64 a2_3, .int .i64 a2_4, .int .i64 a2_5, .int .i64 a2_6] 44 (0, 0)) (kX BK448.out) hb); have n1_ := Aside0.mk (below_step lB hb); clear BK448; clear HB; have BK448 := n0_; have HB := n1_; clear n0_ n1_; (try clear hb); (try clear hb2); (try clear hk); (try clear hi)))
  go_meet
  case rel => exact ⟨_, (true), (by first | rfl | (simp; done) | (simp [*]; done)), H', ⟨by first | omega | exact Nat.le_refl _⟩, ⟨by (with_reducible repeat (first | refine kN ?_ _ | refine kD ?_ | refine kA ?_ _)); exact BK448.out⟩, ⟨by repeat (first | (with_reducible first | exact HB.out | apply lA | apply lN | apply lD | refine lS ?_ GE448.out) | exact HB.out)⟩⟩
 case rest =>
  clear HC4
  try clear c1
  try clear p2
  try clear c3
  try clear c5
  try clear c7
  obtain ⟨kq, x7_3, rfl, HA, HJ3, BK448, HB⟩ := hcut
  cases kq with
  | zero => exact absurd HA.out (by simp [plane_Check.j0])
  | succ kj3 =>
   have H := HA.out
   clear HA
   simp only [plane_Check.j0] at H
   by_cases c12 : x7_3 = true
   ·subst c12
    have H1 : (some 2) = some r := by rw [if_pos rfl] at H; exact H
    clear H
    have H := H1
    clear H1
    obtain rfl := Option.some.inj H
    go_wp2
    go_ret
    exact en
   ·replace c12 := Bool.eq_false_iff.mpr c12
    subst c12
    have H1 : ((plane_right.f l0 l1 a2_0 a2_1 a2_2 a2_3 a2_4 a2_5 a2_6).bind fun t451 => (if t451 = true then (some 0) else (some 10))) = some r := by rw [if_neg (show ¬ (false = true) by decide)] at H; exact H
    clear H
    have H := H1
    clear H1
    replace H := Option.bind_eq_some_iff.mp H
    obtain ⟨t451, A130, H⟩ := H
    replace H : (if t451 = true then (some 0) else (some 10)) = some r := H
    have A13 := Aside0.mk A130
    clear A130
    by_cases c14 : t451 = true
    ·subst c14
     have H1 : (some 0) = some r := by rw [if_pos rfl] at H; exact H
     clear H
     have H := H1
     clear H1
     obtain rfl := Option.some.inj H
     have hcz15_0 : wc.cell? ⟨gb448, 0, none⟩ = some (.bool a2_0) := (blk_cell BK448.out 0).trans rfl
     have hcz15_1 : wc.cell? ⟨gb448, 1, none⟩ = some (.int .i64 a2_1) := (blk_cell BK448.out 1).trans rfl
     have hcz15_2 : wc.cell? ⟨gb448, 2, none⟩ = some (.int .i64 a2_2) := (blk_cell BK448.out 2).trans rfl
     have hcz15_3 : wc.cell? ⟨gb448, 3, none⟩ = some (.int .i64 a2_3) := (blk_cell BK448.out 3).trans rfl
     have hcz15_4 : wc.cell? ⟨gb448, 4, none⟩ = some (.int .i64 a2_4) := (blk_cell BK448.out 4).trans rfl
     have hcz15_5 : wc.cell? ⟨gb448, 5, none⟩ = some (.int .i64 a2_5) := (blk_cell BK448.out 5).trans rfl
     have hcz15_6 : wc.cell? ⟨gb448, 6, none⟩ = some (.int .i64 a2_6) := (blk_cell BK448.out 6).trans rfl
     have hfz15_0 := blk_frozen BK448.out 0
     have hfz15_1 := blk_frozen BK448.out 1
     have hfz15_2 := blk_frozen BK448.out 2
     have hfz15_3 := blk_frozen BK448.out 3
     have hfz15_4 := blk_frozen BK448.out 4
     have hfz15_5 := blk_frozen BK448.out 5
     have hfz15_6 := blk_frozen BK448.out 6
     go_wp2_with (first | ((with_reducible refine gate_callee (f := 69) rfl ?_); refine goesL_ (some 20) rfl rfl Try.func69 (by kernel_rfl) rfl #[.slice A0 l0.length c0, .slice A1 l1.length c1, .agg #[.bool a2_0, .int .i64 a2_1, .int .i64 a2_2, .int .i64 a2_3, .int .i64 a2_4, .int .i64 a2_5, .int .i64 a2_6]] rfl (by (try simp only [List.map_toArray, List.map_cons, List.map_nil]); first | done | rfl | (simp only [List.length_drop, List.length_take]; rfl)) ?_; (with_reducible refine (plane_right.calls _ _ l0 _ _ l1 a2_0 a2_1 a2_2 a2_3 a2_4 a2_5 a2_6 true _ ?side1 ?side2 ?side3 ?side4 A13.out).mono ?_); (case side1 => repeat (first | exact (Kd.C_below HR0.out HB.out) | (with_reducible refine Kd.C_alloc ?_ _) | (with_reducible refine Kd.C_drewN ?_ _) | (with_reducible refine Kd.C_drew ?_))); (case side2 => exact HC0.out); (case side3 => repeat (first | exact (Kd.C_below HR1.out HB.out) | (with_reducible refine Kd.C_alloc ?_ _) | (with_reducible refine Kd.C_drewN ?_ _) | (with_reducible refine Kd.C_drew ?_))); (case side4 => exact HC1.out); rintro e w16 ⟨rfl, hb⟩; refine ⟨_, rfl, ?_⟩; have n0_ := Aside0.mk (blk_below (g := gb448) (o := .cells #[.bool a2_0, .int .i64 a2_1, .int .i64 a2_2, .int .i64 a2_3, .int .i64 a2_4, .int .i64 a2_5, .int .i64 a2_6] 44 (0, 0)) (kX BK448.out) hb); have n1_ := Aside0.mk (below_step lB hb); clear BK448; clear HB; have BK448 := n0_; have HB := n1_; clear n0_ n1_; (try clear hb); (try clear hb2); (try clear hk); (try clear hi)))
     go_ret
     exact en
    ·replace c14 := Bool.eq_false_iff.mpr c14
     subst c14
     have H1 : (some 10) = some r := by rw [if_neg (show ¬ (false = true) by decide)] at H; exact H
     clear H
     have H := H1
     clear H1
     obtain rfl := Option.some.inj H
     have hcz17_0 : wc.cell? ⟨gb448, 0, none⟩ = some (.bool a2_0) := (blk_cell BK448.out 0).trans rfl
     have hcz17_1 : wc.cell? ⟨gb448, 1, none⟩ = some (.int .i64 a2_1) := (blk_cell BK448.out 1).trans rfl
     have hcz17_2 : wc.cell? ⟨gb448, 2, none⟩ = some (.int .i64 a2_2) := (blk_cell BK448.out 2).trans rfl
     have hcz17_3 : wc.cell? ⟨gb448, 3, none⟩ = some (.int .i64 a2_3) := (blk_cell BK448.out 3).trans rfl
     have hcz17_4 : wc.cell? ⟨gb448, 4, none⟩ = some (.int .i64 a2_4) := (blk_cell BK448.out 4).trans rfl
     have hcz17_5 : wc.cell? ⟨gb448, 5, none⟩ = some (.int .i64 a2_5) := (blk_cell BK448.out 5).trans rfl
     have hcz17_6 : wc.cell? ⟨gb448, 6, none⟩ = some (.int .i64 a2_6) := (blk_cell BK448.out 6).trans rfl
     have hfz17_0 := blk_frozen BK448.out 0
     have hfz17_1 := blk_frozen BK448.out 1
     have hfz17_2 := blk_frozen BK448.out 2
     have hfz17_3 := blk_frozen BK448.out 3
     have hfz17_4 := blk_frozen BK448.out 4
     have hfz17_5 := blk_frozen BK448.out 5
     have hfz17_6 := blk_frozen BK448.out 6
     go_wp2_with (first | ((with_reducible refine gate_callee (f := 69) rfl ?_); refine goesL_ (some 20) rfl rfl Try.func69 (by kernel_rfl) rfl #[.slice A0 l0.length c0, .slice A1 l1.length c1, .agg #[.bool a2_0, .int .i64 a2_1, .int .i64 a2_2, .int .i64 a2_3, .int .i64 a2_4, .int .i64 a2_5, .int .i64 a2_6]] rfl (by (try simp only [List.map_toArray, List.map_cons, List.map_nil]); first | done | rfl | (simp only [List.length_drop, List.length_take]; rfl)) ?_; (with_reducible refine (plane_right.calls _ _ l0 _ _ l1 a2_0 a2_1 a2_2 a2_3 a2_4 a2_5 a2_6 false _ ?side1 ?side2 ?side3 ?side4 A13.out).mono ?_); (case side1 => repeat (first | exact (Kd.C_below HR0.out HB.out) | (with_reducible refine Kd.C_alloc ?_ _) | (with_reducible refine Kd.C_drewN ?_ _) | (with_reducible refine Kd.C_drew ?_))); (case side2 => exact HC0.out); (case side3 => repeat (first | exact (Kd.C_below HR1.out HB.out) | (with_reducible refine Kd.C_alloc ?_ _) | (with_reducible refine Kd.C_drewN ?_ _) | (with_reducible refine Kd.C_drew ?_))); (case side4 => exact HC1.out); rintro e w18 ⟨rfl, hb⟩; refine ⟨_, rfl, ?_⟩; have n0_ := Aside0.mk (blk_below (g := gb448) (o := .cells #[.bool a2_0, .int .i64 a2_1, .int .i64 a2_2, .int .i64 a2_3, .int .i64 a2_4, .int .i64 a2_5, .int .i64 a2_6] 44 (0, 0)) (kX BK448.out) hb); have n1_ := Aside0.mk (below_step lB hb); clear BK448; clear HB; have BK448 := n0_; have HB := n1_; clear n0_ n1_; (try clear hb); (try clear hb2); (try clear hk); (try clear hi)))
     go_ret
     exact en


/-! ### silversideref01_next: function 54 -/
def silversideref01_next.f (a0 : Int) (a1 : Int) : Option (Int) := if (wrap64 (a0 + 1)) < a1 then (some (wrap64 (a0 + 1))) else (some 0)
set_option maxHeartbeats 8000000 in
set_option maxRecDepth 100000 in
theorem silversideref01_next.calls (a0 : Int) (a1 : Int) (r : Int) (w : World) (h : silversideref01_next.f a0 a1 = some r) :
  Calls Try.prog 54 #[.int .i64 a0, .int .i64 a1] w fun e w' => e = .returned (.int .i64 r) ∧ Drawn0 w w' := by
 have H : (if (wrap64 (a0 + 1)) < a1 then (some (wrap64 (a0 + 1))) else (some 0)) = some r := h
 clear h
 by_cases c3 : (wrap64 (a0 + 1)) < a1
 ·rw [if_pos c3] at H
  have c3b0 : decide ((wrap64 (a0 + 1)) < a1) = true := decide_eq_true c3
  clear c3
  obtain rfl := Option.some.inj H
  go_enter Try.func54, Try.ntmps54
  go_wp2
  go_ret
  exact ⟨by first | rfl | (simp; done) | (simp [*]; done), by repeat (first | exact Drawn0.refl _ | apply Drawn0.step)⟩
 rw [if_neg c3] at H
 have c3b0 : decide ((wrap64 (a0 + 1)) < a1) = false := decide_eq_false c3
 clear c3
 obtain rfl := Option.some.inj H
 go_enter Try.func54, Try.ntmps54
 go_wp2
 go_ret
 exact ⟨by first | rfl | (simp; done) | (simp [*]; done), by repeat (first | exact Drawn0.refl _ | apply Drawn0.step)⟩


/-! ### silversideref01_on: function 59 -/
def silversideref01_on.f (a0_0 : Int) (a0_1 : Int) (a1_0 : Int) (a1_1 : Int) (a2_0 : Int) (a2_1 : Int) : Option (Bool) := (silversideref01_Turn.f a0_0 a0_1 a1_0 a1_1 a2_0 a2_1).bind fun t247 => (if t247 = 0 then (if a2_0 ≥ (mn a0_0 a1_0) then (if a2_0 ≤ (mx a0_0 a1_0) then (if a2_1 ≥ (mn a0_1 a1_1) then (some (decide (a2_1 ≤ (mx a0_1 a1_1)))) else (some false)) else (some false)) else (some false)) else (some false))
set_option maxHeartbeats 8000000 in
set_option maxRecDepth 100000 in
theorem silversideref01_on.calls (a0_0 : Int) (a0_1 : Int) (a1_0 : Int) (a1_1 : Int) (a2_0 : Int) (a2_1 : Int) (r : Bool) (w : World) (h : silversideref01_on.f a0_0 a0_1 a1_0 a1_1 a2_0 a2_1 = some r) :
  Calls Try.prog 59 #[.agg #[.int .i64 a0_0, .int .i64 a0_1], .agg #[.int .i64 a1_0, .int .i64 a1_1], .agg #[.int .i64 a2_0, .int .i64 a2_1]] w fun e w' => e = .returned (.bool r) ∧ Below w.heap.size w w' := by
 have hu31 := Try.underlying31
 have HB := Aside0.mk (Below.refl w.heap.size w)
 have H : ((silversideref01_Turn.f a0_0 a0_1 a1_0 a1_1 a2_0 a2_1).bind fun t247 => (if t247 = 0 then (if a2_0 ≥ (mn a0_0 a1_0) then (if a2_0 ≤ (mx a0_0 a1_0) then (if a2_1 ≥ (mn a0_1 a1_1) then (some (decide (a2_1 ≤ (mx a0_1 a1_1)))) else (some false)) else (some false)) else (some false)) else (some false))) = some r := h
 clear h
 replace H := Option.bind_eq_some_iff.mp H
 obtain ⟨t247, A40, H⟩ := H
 replace H : (if t247 = 0 then (if a2_0 ≥ (mn a0_0 a1_0) then (if a2_0 ≤ (mx a0_0 a1_0) then (if a2_1 ≥ (mn a0_1 a1_1) then (some (decide (a2_1 ≤ (mx a0_1 a1_1)))) else (some false)) else (some false)) else (some false)) else (some false)) = some r := H
 have A4 := Aside0.mk A40
 clear A40
 by_cases c5 : t247 = 0
 rw [if_pos c5] at H
 have c5b0 : (t247 == 0) = true := beq_iff_eq.mpr c5
 have c5b1 : (t247 != 0) = false := bne_eq_false_iff_eq.mpr c5
 clear c5
 obtain ⟨ji6, hji6⟩ : ∃ j_ : Int, (mn a0_0 a1_0) = j_ := ⟨_, rfl⟩
 replace H : (if a2_0 ≥ (ji6) then (if a2_0 ≤ (mx a0_0 a1_0) then (if a2_1 ≥ (mn a0_1 a1_1) then (some (decide (a2_1 ≤ (mx a0_1 a1_1)))) else (some false)) else (some false)) else (some false)) = some r := by first | (rw [hji6] at H; exact H) | (simp only [hji6] at H ⊢; exact H)
 (try rw [hji6] at A4)
 have hji6_ : (if a1_0 < a0_0 then a1_0 else a0_0) = ji6 := hji6
 by_cases c7 : a2_0 ≥ (ji6)
 rw [if_pos c7] at H
 have c7b0 : decide ((ji6) ≤ a2_0) = true := decide_eq_true c7
 clear c7
 obtain ⟨ji8, hji8⟩ : ∃ j_ : Int, (mx a0_0 a1_0) = j_ := ⟨_, rfl⟩
 replace H : (if a2_0 ≤ (ji8) then (if a2_1 ≥ (mn a0_1 a1_1) then (some (decide (a2_1 ≤ (mx a0_1 a1_1)))) else (some false)) else (some false)) = some r := by first | (rw [hji8] at H; exact H) | (simp only [hji8] at H ⊢; exact H)
 (try rw [hji8] at A4)
 have hji8_ : (if a0_0 < a1_0 then a1_0 else a0_0) = ji8 := hji8
 by_cases c9 : a2_0 ≤ (ji8)
 rw [if_pos c9] at H
 have c9b0 : decide (a2_0 ≤ (ji8)) = true := decide_eq_true c9
 clear c9
 obtain ⟨ji10, hji10⟩ : ∃ j_ : Int, (mn a0_1 a1_1) = j_ := ⟨_, rfl⟩
 replace H : (if a2_1 ≥ (ji10) then (some (decide (a2_1 ≤ (mx a0_1 a1_1)))) else (some false)) = some r := by first | (rw [hji10] at H; exact H) | (simp only [hji10] at H ⊢; exact H)
 (try rw [hji10] at A4)
 have hji10_ : (if a1_1 < a0_1 then a1_1 else a0_1) = ji10 := hji10
 by_cases c11 : a2_1 ≥ (ji10)
 rw [if_pos c11] at H
 have c11b0 : decide ((ji10) ≤ a2_1) = true := decide_eq_true c11
 clear c11
 obtain ⟨ji12, hji12⟩ : ∃ j_ : Int, (mx a0_1 a1_1) = j_ := ⟨_, rfl⟩
 replace H : (some (decide (a2_1 ≤ (ji12)))) = some r := by first | (rw [hji12] at H; exact H) | (simp only [hji12] at H ⊢; exact H)
 (try rw [hji12] at A4)
 have hji12_ : (if a0_1 < a1_1 then a1_1 else a0_1) = ji12 := hji12
 obtain rfl := Option.some.inj H
 go_enter Try.func59, Try.ntmps59
 rotate_left 1
 rw [if_neg c11] at H
 have c11b0 : decide ((ji10) ≤ a2_1) = false := decide_eq_false c11
 clear c11
 obtain rfl := Option.some.inj H
 go_enter Try.func59, Try.ntmps59
 rotate_left 1
 rw [if_neg c9] at H
 have c9b0 : decide (a2_0 ≤ (ji8)) = false := decide_eq_false c9
 clear c9
 obtain rfl := Option.some.inj H
 go_enter Try.func59, Try.ntmps59
 rotate_left 1
 rw [if_neg c7] at H
 have c7b0 : decide ((ji6) ≤ a2_0) = false := decide_eq_false c7
 clear c7
 obtain rfl := Option.some.inj H
 go_enter Try.func59, Try.ntmps59
 rotate_left 1
 rw [if_neg c5] at H
 have c5b0 : (t247 == 0) = false := beq_eq_false_iff_ne.mpr c5
 have c5b1 : (t247 != 0) = true := bne_iff_ne.mpr c5
 obtain rfl := Option.some.inj H
 go_enter Try.func59, Try.ntmps59
 all_goals go_wp2_with (first | ((with_reducible refine gate_dst (N := 3) rfl ?_); (try (refine gate_guard (by rfl) ?_; dsimp only)); refine bxe 3 #[.int .i64 a0_0, .int .i64 a0_1] 31 ?_; intro gb244 hg wz0 hbox hb; have n0_ := Aside0.mk (below_step lB hb); have n1_ := Aside0.mk (hbox); have n2_ := Aside0.mk (lG (w := w) hg); have n3_ := Aside0.mk (lG (w := w) hg); clear HB; have HB := n0_; have BK244 := n1_; have GW244 := n2_; have GE244 := n3_; clear n0_ n1_ n2_ n3_; clear hb hbox hg) | ((with_reducible refine gate_dst (N := 4) rfl ?_); (try (refine gate_guard (by rfl) ?_; dsimp only)); refine bxe 4 #[.int .i64 a1_0, .int .i64 a1_1] 31 ?_; intro gb245 hg wz1 hbox hb; have n0_ := Aside0.mk (blk_below (g := gb244) (o := .cells #[.int .i64 a0_0, .int .i64 a0_1] 31 (0, 0)) (kX BK244.out) hb); have n1_ := Aside0.mk (below_step lB hb); have n2_ := Aside0.mk (hbox); have n3_ := Aside0.mk (lG (w := w) hg); have n4_ := Aside0.mk (lG (w := w) hg); have n5_ := Aside0.mk ((by rw [hg]; exact Nat.ne_of_lt (blk_lt (g := gb244) (o := .cells #[.int .i64 a0_0, .int .i64 a0_1] 31 (0, 0)) (kX BK244.out)) : gb244 ≠ gb245)); have n6_ := Aside0.mk ((by rw [hg]; exact Nat.ne_of_gt (blk_lt (g := gb244) (o := .cells #[.int .i64 a0_0, .int .i64 a0_1] 31 (0, 0)) (kX BK244.out)) : gb245 ≠ gb244)); clear BK244; clear HB; have BK244 := n0_; have HB := n1_; have BK245 := n2_; have GW245 := n3_; have GE245 := n4_; have NB244_245 := n5_; have NB245_244 := n6_; clear n0_ n1_ n2_ n3_ n4_ n5_ n6_; clear hb hbox hg) | ((with_reducible refine gate_dst (N := 5) rfl ?_); (try (refine gate_guard (by rfl) ?_; dsimp only)); refine bxe 5 #[.int .i64 a2_0, .int .i64 a2_1] 31 ?_; intro gb246 hg wz2 hbox hb; have n0_ := Aside0.mk (blk_below (g := gb244) (o := .cells #[.int .i64 a0_0, .int .i64 a0_1] 31 (0, 0)) (kX BK244.out) hb); have n1_ := Aside0.mk (blk_below (g := gb245) (o := .cells #[.int .i64 a1_0, .int .i64 a1_1] 31 (0, 0)) (kX BK245.out) hb); have n2_ := Aside0.mk (below_step lB hb); have n3_ := Aside0.mk (hbox); have n4_ := Aside0.mk (lG (w := w) hg); have n5_ := Aside0.mk (lG (w := w) hg); have n6_ := Aside0.mk ((by rw [hg]; exact Nat.ne_of_lt (blk_lt (g := gb244) (o := .cells #[.int .i64 a0_0, .int .i64 a0_1] 31 (0, 0)) (kX BK244.out)) : gb244 ≠ gb246)); have n7_ := Aside0.mk ((by rw [hg]; exact Nat.ne_of_gt (blk_lt (g := gb244) (o := .cells #[.int .i64 a0_0, .int .i64 a0_1] 31 (0, 0)) (kX BK244.out)) : gb246 ≠ gb244)); have n8_ := Aside0.mk ((by rw [hg]; exact Nat.ne_of_lt (blk_lt (g := gb245) (o := .cells #[.int .i64 a1_0, .int .i64 a1_1] 31 (0, 0)) (kX BK245.out)) : gb245 ≠ gb246)); have n9_ := Aside0.mk ((by rw [hg]; exact Nat.ne_of_gt (blk_lt (g := gb245) (o := .cells #[.int .i64 a1_0, .int .i64 a1_1] 31 (0, 0)) (kX BK245.out)) : gb246 ≠ gb245)); clear BK244; clear BK245; clear HB; have BK244 := n0_; have BK245 := n1_; have HB := n2_; have BK246 := n3_; have GW246 := n4_; have GE246 := n5_; have NB244_246 := n6_; have NB246_244 := n7_; have NB245_246 := n8_; have NB246_245 := n9_; clear n0_ n1_ n2_ n3_ n4_ n5_ n6_ n7_ n8_ n9_; clear hb hbox hg; have hnb16 := NB244_245.out; have hnc16 := NB245_244.out; have hnb17 := NB244_246.out; have hnc17 := NB246_244.out; have hcz18_0 : wz2.cell? ⟨gb244, 0, none⟩ = some (.int .i64 a0_0) := (blk_cell BK244.out 0).trans rfl; have hcz18_1 : wz2.cell? ⟨gb244, 1, none⟩ = some (.int .i64 a0_1) := (blk_cell BK244.out 1).trans rfl; have hfz18_0 := blk_frozen BK244.out 0; have hfz18_1 := blk_frozen BK244.out 1; have hnb19 := NB245_246.out; have hnc19 := NB246_245.out; have hcz20_0 : wz2.cell? ⟨gb245, 0, none⟩ = some (.int .i64 a1_0) := (blk_cell BK245.out 0).trans rfl; have hcz20_1 : wz2.cell? ⟨gb245, 1, none⟩ = some (.int .i64 a1_1) := (blk_cell BK245.out 1).trans rfl; have hfz20_0 := blk_frozen BK245.out 0; have hfz20_1 := blk_frozen BK245.out 1; have hcz21_0 : wz2.cell? ⟨gb246, 0, none⟩ = some (.int .i64 a2_0) := (blk_cell BK246.out 0).trans rfl; have hcz21_1 : wz2.cell? ⟨gb246, 1, none⟩ = some (.int .i64 a2_1) := (blk_cell BK246.out 1).trans rfl; have hfz21_0 := blk_frozen BK246.out 0; have hfz21_1 := blk_frozen BK246.out 1) | ((with_reducible refine gate_callee (f := 31) rfl ?_); refine goesL_ (some 10) rfl rfl Try.func31 (by kernel_rfl) rfl #[.agg #[.int .i64 a0_0, .int .i64 a0_1], .agg #[.int .i64 a1_0, .int .i64 a1_1], .agg #[.int .i64 a2_0, .int .i64 a2_1]] rfl (by (try simp only [List.map_toArray, List.map_cons, List.map_nil]); first | done | rfl | (simp only [List.length_drop, List.length_take]; rfl)) ?_; (with_reducible refine (silversideref01_Turn.calls a0_0 a0_1 a1_0 a1_1 a2_0 a2_1 t247 _ A4.out).mono ?_); rintro e wz3 ⟨rfl, hb⟩; refine ⟨_, rfl, ?_⟩; have n0_ := Aside0.mk (blk_below (g := gb244) (o := .cells #[.int .i64 a0_0, .int .i64 a0_1] 31 (0, 0)) (kX BK244.out) hb); have n1_ := Aside0.mk (blk_below (g := gb245) (o := .cells #[.int .i64 a1_0, .int .i64 a1_1] 31 (0, 0)) (kX BK245.out) hb); have n2_ := Aside0.mk (blk_below (g := gb246) (o := .cells #[.int .i64 a2_0, .int .i64 a2_1] 31 (0, 0)) (kX BK246.out) hb); have n3_ := Aside0.mk (below_step lB hb); clear BK244; clear BK245; clear BK246; clear HB; have BK244 := n0_; have BK245 := n1_; have BK246 := n2_; have HB := n3_; clear n0_ n1_ n2_ n3_; (try clear hb); (try clear hb2); (try clear hk); (try clear hi); have hcz23_0 : wz3.cell? ⟨gb246, 0, none⟩ = some (.int .i64 a2_0) := (blk_cell BK246.out 0).trans rfl; have hcz23_1 : wz3.cell? ⟨gb246, 1, none⟩ = some (.int .i64 a2_1) := (blk_cell BK246.out 1).trans rfl; have hfz23_0 := blk_frozen BK246.out 0; have hfz23_1 := blk_frozen BK246.out 1; have hcz24_0 : wz3.cell? ⟨gb244, 0, none⟩ = some (.int .i64 a0_0) := (blk_cell BK244.out 0).trans rfl; have hcz24_1 : wz3.cell? ⟨gb244, 1, none⟩ = some (.int .i64 a0_1) := (blk_cell BK244.out 1).trans rfl; have hfz24_0 := blk_frozen BK244.out 0; have hfz24_1 := blk_frozen BK244.out 1; have hcz25_0 : wz3.cell? ⟨gb245, 0, none⟩ = some (.int .i64 a1_0) := (blk_cell BK245.out 0).trans rfl; have hcz25_1 : wz3.cell? ⟨gb245, 1, none⟩ = some (.int .i64 a1_1) := (blk_cell BK245.out 1).trans rfl; have hfz25_0 := blk_frozen BK245.out 0; have hfz25_1 := blk_frozen BK245.out 1))
 all_goals first
   | (go_ret
      exact ⟨by first | rfl | (simp [errW_none, errW_some] <;> rfl) | (simp only [← hji6, ← hji8, ← hji10, ← hji12]; first | rfl | (simp [errW_none, errW_some] <;> rfl)) | (simp [*, errW_none, errW_some] <;> rfl), lB⟩)
   | (go_ret
      exact ⟨by first | rfl | (simp [errW_none, errW_some] <;> rfl) | (simp only [← hji6, ← hji8, ← hji10]; first | rfl | (simp [errW_none, errW_some] <;> rfl)) | (simp [*, errW_none, errW_some] <;> rfl), lB⟩)
   | (go_ret
      exact ⟨by first | rfl | (simp [errW_none, errW_some] <;> rfl) | (simp only [← hji6, ← hji8]; first | rfl | (simp [errW_none, errW_some] <;> rfl)) | (simp [*, errW_none, errW_some] <;> rfl), lB⟩)
   | (go_ret
      exact ⟨by first | rfl | (simp [errW_none, errW_some] <;> rfl) | (simp only [← hji6]; first | rfl | (simp [errW_none, errW_some] <;> rfl)) | (simp [*, errW_none, errW_some] <;> rfl), lB⟩)
   | (go_ret
      exact en)


/-! ### silversideref01_meet: function 60 -/
def silversideref01_meet.j0 : Nat → Bool → Int → Int → Int → Int → Int → Int → Int → Int → Option (Bool)
 | 0, _, _, _, _, _, _, _, _, _ => none
 | k + 1, x30, x249000, x249001, x250000, x250001, x251000, x251001, x252000, x252001 => if x30 = true then (some true) else ((silversideref01_on.f x249000 x249001 x250000 x250001 x251000 x251001).bind fun t256 => (if t256 = true then (some true) else ((silversideref01_on.f x249000 x249001 x250000 x250001 x252000 x252001).bind fun t257 => (if t257 = true then (some true) else ((silversideref01_on.f x251000 x251001 x252000 x252001 x249000 x249001).bind fun t258 => (if t258 = true then (some true) else ((silversideref01_on.f x251000 x251001 x252000 x252001 x250000 x250001).bind fun t259 => (some t259))))))))
def silversideref01_meet.f (k : Nat) (a0_0 : Int) (a0_1 : Int) (a1_0 : Int) (a1_1 : Int) (a2_0 : Int) (a2_1 : Int) (a3_0 : Int) (a3_1 : Int) : Option (Bool) := (silversideref01_Turn.f a0_0 a0_1 a1_0 a1_1 a2_0 a2_1).bind fun t252 => ((silversideref01_Turn.f a0_0 a0_1 a1_0 a1_1 a3_0 a3_1).bind fun t253 => (if (wrap64 (t252 * t253)) < 0 then ((silversideref01_Turn.f a2_0 a2_1 a3_0 a3_1 a0_0 a0_1).bind fun t254 => ((silversideref01_Turn.f a2_0 a2_1 a3_0 a3_1 a1_0 a1_1).bind fun t255 => (silversideref01_meet.j0 k (decide ((wrap64 (t254 * t255)) < 0)) a0_0 a0_1 a1_0 a1_1 a2_0 a2_1 a3_0 a3_1))) else (silversideref01_meet.j0 k false a0_0 a0_1 a1_0 a1_1 a2_0 a2_1 a3_0 a3_1)))
theorem silversideref01_meet.mono_l : ∀ k, (∀ y0 y1 y2 y3 y4 y5 y6 y7 y8, LeO (silversideref01_meet.j0 k y0 y1 y2 y3 y4 y5 y6 y7 y8) (silversideref01_meet.j0 (k + 1) y0 y1 y2 y3 y4 y5 y6 y7 y8))
 | 0 => fun _ _ _ _ _ _ _ _ _ r h => by simp [silversideref01_meet.j0] at h
 | k + 1 => by
  have ih0 := silversideref01_meet.mono_l k
  ·intro y0 y1 y2 y3 y4 y5 y6 y7 y8
   unfold silversideref01_meet.j0
   repeat' first
   | (with_reducible exact ih0 _ _ _ _ _ _ _ _ _)
   | (with_reducible exact LeO.refl _)
   | (with_reducible exact LeO.none _)
   | (with_reducible refine LeO.ite ?_ ?_)
   | (with_reducible refine LeO.bind ?_ (fun _ => ?_))
   | exact ih0 _ _ _ _ _ _ _ _ _
   | exact LeO.none _
   | refine LeO.ite ?_ ?_
   | refine LeO.bind ?_ (fun _ => ?_)
theorem silversideref01_meet.mono : ∀ a0 a1 a2 a3 a4 a5 a6 a7 k, LeO (silversideref01_meet.f k a0 a1 a2 a3 a4 a5 a6 a7) (silversideref01_meet.f (k + 1) a0 a1 a2 a3 a4 a5 a6 a7) := by
 intro a0 a1 a2 a3 a4 a5 a6 a7 k
 have ih0 := silversideref01_meet.mono_l k
 unfold silversideref01_meet.f
 repeat' first
   | (with_reducible exact ih0 _ _ _ _ _ _ _ _ _)
   | (with_reducible exact LeO.refl _)
   | (with_reducible exact LeO.none _)
   | (with_reducible refine LeO.ite ?_ ?_)
   | (with_reducible refine LeO.bind ?_ (fun _ => ?_))
   | exact ih0 _ _ _ _ _ _ _ _ _
   | exact LeO.none _
   | refine LeO.ite ?_ ?_
   | refine LeO.bind ?_ (fun _ => ?_)
def silversideref01_meet.T1 : Bool × List (List Nat × List Nat) := (true, [([], []), ([], []), ([], []), ([0, 1, 2], [0, 1, 2]), ([], []), ([], []), ([], []), ([4, 5, 6, 3], [4, 5, 6]), ([3, 7], [3, 7]), ([8], [8]), ([9, 7], [9]), ([10], [10]), ([10], [10]), ([10], [10]), ([11, 12, 13, 10, 10], [10, 11, 12, 13]), ([10], [10]), ([10], [10]), ([10], [10]), ([15, 16, 17, 14, 10], [10, 15, 16, 17]), ([14, 18, 10], [10, 14, 18]), ([19, 10], [10, 19]), ([10, 20], [10, 20])])
def silversideref01_meet.B1 : List Nat := [0, 0, 0, 7, 0, 0, 0, 127, 255, 511, 1023, 2047, 2047, 2047, 16383, 2047, 2047, 2047, 262143, 524287, 1048575, 2097151]
theorem silversideref01_meet.tab1 : rtab .any (opsOf Try.f60 1) = silversideref01_meet.T1 := by kernel_rfl
theorem silversideref01_meet.bits1 : waitsOk silversideref01_meet.T1.2 silversideref01_meet.B1 = true := by kernel_rfl
set_option maxHeartbeats 8000000 in
set_option maxRecDepth 100000 in
theorem silversideref01_meet.calls (k : Nat) (a0_0 : Int) (a0_1 : Int) (a1_0 : Int) (a1_1 : Int) (a2_0 : Int) (a2_1 : Int) (a3_0 : Int) (a3_1 : Int) (r : Bool) (w : World) (h : silversideref01_meet.f k a0_0 a0_1 a1_0 a1_1 a2_0 a2_1 a3_0 a3_1 = some r) :
  Calls Try.prog 60 #[.agg #[.int .i64 a0_0, .int .i64 a0_1], .agg #[.int .i64 a1_0, .int .i64 a1_1], .agg #[.int .i64 a2_0, .int .i64 a2_1], .agg #[.int .i64 a3_0, .int .i64 a3_1]] w fun e w' => e = .returned (.bool r) ∧ Below w.heap.size w w' := by
 have hu31 := Try.underlying31
 have HB := Aside0.mk (Below.refl w.heap.size w)
 have H : ((silversideref01_Turn.f a0_0 a0_1 a1_0 a1_1 a2_0 a2_1).bind fun t252 => ((silversideref01_Turn.f a0_0 a0_1 a1_0 a1_1 a3_0 a3_1).bind fun t253 => (if (wrap64 (t252 * t253)) < 0 then ((silversideref01_Turn.f a2_0 a2_1 a3_0 a3_1 a0_0 a0_1).bind fun t254 => ((silversideref01_Turn.f a2_0 a2_1 a3_0 a3_1 a1_0 a1_1).bind fun t255 => (silversideref01_meet.j0 k (decide ((wrap64 (t254 * t255)) < 0)) a0_0 a0_1 a1_0 a1_1 a2_0 a2_1 a3_0 a3_1))) else (silversideref01_meet.j0 k false a0_0 a0_1 a1_0 a1_1 a2_0 a2_1 a3_0 a3_1)))) = some r := h
 clear h
 have HC5 := Aside0.mk H
 clear H
 go_enter Try.func60, Try.ntmps60
 go_upto_region 1 with (first | ((with_reducible refine gate_dst (N := 4) rfl ?_); refine bxe 4 #[.int .i64 a0_0, .int .i64 a0_1] 31 ?_; intro gb248 hg w6 hbox hb; have n0_ := Aside0.mk (below_step lB hb); have n1_ := Aside0.mk (hbox); have n2_ := Aside0.mk (lG (w := w) hg); have n3_ := Aside0.mk (lG (w := w) hg); clear HB; have HB := n0_; have BK248 := n1_; have GW248 := n2_; have GE248 := n3_; clear n0_ n1_ n2_ n3_; clear hb hbox hg) | ((with_reducible refine gate_dst (N := 5) rfl ?_); refine bxe 5 #[.int .i64 a1_0, .int .i64 a1_1] 31 ?_; intro gb249 hg w7 hbox hb; have n0_ := Aside0.mk (blk_below (g := gb248) (o := .cells #[.int .i64 a0_0, .int .i64 a0_1] 31 (0, 0)) (kX BK248.out) hb); have n1_ := Aside0.mk (below_step lB hb); have n2_ := Aside0.mk (hbox); have n3_ := Aside0.mk (lG (w := w) hg); have n4_ := Aside0.mk (lG (w := w) hg); have n5_ := Aside0.mk ((by rw [hg]; exact Nat.ne_of_lt (blk_lt (g := gb248) (o := .cells #[.int .i64 a0_0, .int .i64 a0_1] 31 (0, 0)) (kX BK248.out)) : gb248 ≠ gb249)); have n6_ := Aside0.mk ((by rw [hg]; exact Nat.ne_of_gt (blk_lt (g := gb248) (o := .cells #[.int .i64 a0_0, .int .i64 a0_1] 31 (0, 0)) (kX BK248.out)) : gb249 ≠ gb248)); clear BK248; clear HB; have BK248 := n0_; have HB := n1_; have BK249 := n2_; have GW249 := n3_; have GE249 := n4_; have NB248_249 := n5_; have NB249_248 := n6_; clear n0_ n1_ n2_ n3_ n4_ n5_ n6_; clear hb hbox hg) | ((with_reducible refine gate_dst (N := 6) rfl ?_); refine bxe 6 #[.int .i64 a2_0, .int .i64 a2_1] 31 ?_; intro gb250 hg w8 hbox hb; have n0_ := Aside0.mk (blk_below (g := gb248) (o := .cells #[.int .i64 a0_0, .int .i64 a0_1] 31 (0, 0)) (kX BK248.out) hb); have n1_ := Aside0.mk (blk_below (g := gb249) (o := .cells #[.int .i64 a1_0, .int .i64 a1_1] 31 (0, 0)) (kX BK249.out) hb); have n2_ := Aside0.mk (below_step lB hb); have n3_ := Aside0.mk (hbox); have n4_ := Aside0.mk (lG (w := w) hg); have n5_ := Aside0.mk (lG (w := w) hg); have n6_ := Aside0.mk ((by rw [hg]; exact Nat.ne_of_lt (blk_lt (g := gb248) (o := .cells #[.int .i64 a0_0, .int .i64 a0_1] 31 (0, 0)) (kX BK248.out)) : gb248 ≠ gb250)); have n7_ := Aside0.mk ((by rw [hg]; exact Nat.ne_of_gt (blk_lt (g := gb248) (o := .cells #[.int .i64 a0_0, .int .i64 a0_1] 31 (0, 0)) (kX BK248.out)) : gb250 ≠ gb248)); have n8_ := Aside0.mk ((by rw [hg]; exact Nat.ne_of_lt (blk_lt (g := gb249) (o := .cells #[.int .i64 a1_0, .int .i64 a1_1] 31 (0, 0)) (kX BK249.out)) : gb249 ≠ gb250)); have n9_ := Aside0.mk ((by rw [hg]; exact Nat.ne_of_gt (blk_lt (g := gb249) (o := .cells #[.int .i64 a1_0, .int .i64 a1_1] 31 (0, 0)) (kX BK249.out)) : gb250 ≠ gb249)); clear BK248; clear BK249; clear HB; have BK248 := n0_; have BK249 := n1_; have HB := n2_; have BK250 := n3_; have GW250 := n4_; have GE250 := n5_; have NB248_250 := n6_; have NB250_248 := n7_; have NB249_250 := n8_; have NB250_249 := n9_; clear n0_ n1_ n2_ n3_ n4_ n5_ n6_ n7_ n8_ n9_; clear hb hbox hg) | ((with_reducible refine gate_dst (N := 7) rfl ?_); refine bxe 7 #[.int .i64 a3_0, .int .i64 a3_1] 31 ?_; intro gb251 hg w9 hbox hb; have n0_ := Aside0.mk (blk_below (g := gb248) (o := .cells #[.int .i64 a0_0, .int .i64 a0_1] 31 (0, 0)) (kX BK248.out) hb); have n1_ := Aside0.mk (blk_below (g := gb249) (o := .cells #[.int .i64 a1_0, .int .i64 a1_1] 31 (0, 0)) (kX BK249.out) hb); have n2_ := Aside0.mk (blk_below (g := gb250) (o := .cells #[.int .i64 a2_0, .int .i64 a2_1] 31 (0, 0)) (kX BK250.out) hb); have n3_ := Aside0.mk (below_step lB hb); have n4_ := Aside0.mk (hbox); have n5_ := Aside0.mk (lG (w := w) hg); have n6_ := Aside0.mk (lG (w := w) hg); have n7_ := Aside0.mk ((by rw [hg]; exact Nat.ne_of_lt (blk_lt (g := gb248) (o := .cells #[.int .i64 a0_0, .int .i64 a0_1] 31 (0, 0)) (kX BK248.out)) : gb248 ≠ gb251)); have n8_ := Aside0.mk ((by rw [hg]; exact Nat.ne_of_gt (blk_lt (g := gb248) (o := .cells #[.int .i64 a0_0, .int .i64 a0_1] 31 (0, 0)) (kX BK248.out)) : gb251 ≠ gb248)); have n9_ := Aside0.mk ((by rw [hg]; exact Nat.ne_of_lt (blk_lt (g := gb249) (o := .cells #[.int .i64 a1_0, .int .i64 a1_1] 31 (0, 0)) (kX BK249.out)) : gb249 ≠ gb251)); have n10_ := Aside0.mk ((by rw [hg]; exact Nat.ne_of_gt (blk_lt (g := gb249) (o := .cells #[.int .i64 a1_0, .int .i64 a1_1] 31 (0, 0)) (kX BK249.out)) : gb251 ≠ gb249)); have n11_ := Aside0.mk ((by rw [hg]; exact Nat.ne_of_lt (blk_lt (g := gb250) (o := .cells #[.int .i64 a2_0, .int .i64 a2_1] 31 (0, 0)) (kX BK250.out)) : gb250 ≠ gb251)); have n12_ := Aside0.mk ((by rw [hg]; exact Nat.ne_of_gt (blk_lt (g := gb250) (o := .cells #[.int .i64 a2_0, .int .i64 a2_1] 31 (0, 0)) (kX BK250.out)) : gb251 ≠ gb250)); clear BK248; clear BK249; clear BK250; clear HB; have BK248 := n0_; have BK249 := n1_; have BK250 := n2_; have HB := n3_; have BK251 := n4_; have GW251 := n5_; have GE251 := n6_; have NB248_251 := n7_; have NB251_248 := n8_; have NB249_251 := n9_; have NB251_249 := n10_; have NB250_251 := n11_; have NB251_250 := n12_; clear n0_ n1_ n2_ n3_ n4_ n5_ n6_ n7_ n8_ n9_ n10_ n11_ n12_; clear hb hbox hg))
 (try simp only [Act.put, sA, sB, sC])
 go_cut [30] (fun v30 wc => ∃ (kq : Nat) (x30_4 : Bool), v30 = .bool x30_4 ∧ Aside0 (silversideref01_meet.j0 kq x30_4 a0_0 a0_1 a1_0 a1_1 a2_0 a2_1 a3_0 a3_1 = some r) ∧ Aside0 (kq ≤ k) ∧ Aside0 (wc.heap[gb248]? = some (.cells #[.int .i64 a0_0, .int .i64 a0_1] 31 (0, 0))) ∧ Aside0 (wc.heap[gb249]? = some (.cells #[.int .i64 a1_0, .int .i64 a1_1] 31 (0, 0))) ∧ Aside0 (wc.heap[gb250]? = some (.cells #[.int .i64 a2_0, .int .i64 a2_1] 31 (0, 0))) ∧ Aside0 (wc.heap[gb251]? = some (.cells #[.int .i64 a3_0, .int .i64 a3_1] 31 (0, 0))) ∧ Aside0 (Below w.heap.size w wc))
 case first =>
  have H := HC5.out
  clear HC5
  replace H := Option.bind_eq_some_iff.mp H
  obtain ⟨t252, A100, H⟩ := H
  replace H : ((silversideref01_Turn.f a0_0 a0_1 a1_0 a1_1 a3_0 a3_1).bind fun t253 => (if (wrap64 (t252 * t253)) < 0 then ((silversideref01_Turn.f a2_0 a2_1 a3_0 a3_1 a0_0 a0_1).bind fun t254 => ((silversideref01_Turn.f a2_0 a2_1 a3_0 a3_1 a1_0 a1_1).bind fun t255 => (silversideref01_meet.j0 k (decide ((wrap64 (t254 * t255)) < 0)) a0_0 a0_1 a1_0 a1_1 a2_0 a2_1 a3_0 a3_1))) else (silversideref01_meet.j0 k false a0_0 a0_1 a1_0 a1_1 a2_0 a2_1 a3_0 a3_1))) = some r := H
  have A10 := Aside0.mk A100
  clear A100
  replace H := Option.bind_eq_some_iff.mp H
  obtain ⟨t253, A110, H⟩ := H
  replace H : (if (wrap64 (t252 * t253)) < 0 then ((silversideref01_Turn.f a2_0 a2_1 a3_0 a3_1 a0_0 a0_1).bind fun t254 => ((silversideref01_Turn.f a2_0 a2_1 a3_0 a3_1 a1_0 a1_1).bind fun t255 => (silversideref01_meet.j0 k (decide ((wrap64 (t254 * t255)) < 0)) a0_0 a0_1 a1_0 a1_1 a2_0 a2_1 a3_0 a3_1))) else (silversideref01_meet.j0 k false a0_0 a0_1 a1_0 a1_1 a2_0 a2_1 a3_0 a3_1)) = some r := H
  have A11 := Aside0.mk A110
  clear A110
  by_cases c12 : (wrap64 (t252 * t253)) < 0
  ·rw [if_pos c12] at H
   have c12b0 : decide ((wrap64 (t252 * t253)) < 0) = true := decide_eq_true c12
   clear c12
   (first | rw [c12b0] | (simp only [i64_w, i32_w]; rw [c12b0]) | skip)
   replace H := Option.bind_eq_some_iff.mp H
   obtain ⟨t254, A130, H⟩ := H
   replace H : ((silversideref01_Turn.f a2_0 a2_1 a3_0 a3_1 a1_0 a1_1).bind fun t255 => (silversideref01_meet.j0 k (decide ((wrap64 (t254 * t255)) < 0)) a0_0 a0_1 a1_0 a1_1 a2_0 a2_1 a3_0 a3_1)) = some r := H
   have A13 := Aside0.mk A130
   clear A130
   replace H := Option.bind_eq_some_iff.mp H
   obtain ⟨t255, A140, H⟩ := H
   replace H : (silversideref01_meet.j0 k (decide ((wrap64 (t254 * t255)) < 0)) a0_0 a0_1 a1_0 a1_1 a2_0 a2_1 a3_0 a3_1) = some r := H
   have A14 := Aside0.mk A140
   clear A140
   have H' := Aside0.mk H
   clear H
   try go_wp2
   replace BK248 := Aside0.mk (kD BK248.out)
   replace BK249 := Aside0.mk (kD BK249.out)
   replace BK250 := Aside0.mk (kD BK250.out)
   replace BK251 := Aside0.mk (kD BK251.out)
   replace HB := Aside0.mk (lD HB.out)
   refine start_ (n := 22) (S := fun w' => w'.cell? ⟨gb248, 0, none⟩ = some (.int .i64 a0_0) ∧ w'.cell? ⟨gb248, 1, none⟩ = some (.int .i64 a0_1) ∧ w'.cell? ⟨gb249, 0, none⟩ = some (.int .i64 a1_0) ∧ w'.cell? ⟨gb249, 1, none⟩ = some (.int .i64 a1_1) ∧ w'.cell? ⟨gb250, 0, none⟩ = some (.int .i64 a2_0) ∧ w'.cell? ⟨gb250, 1, none⟩ = some (.int .i64 a2_1) ∧ w'.cell? ⟨gb251, 0, none⟩ = some (.int .i64 a3_0) ∧ w'.cell? ⟨gb251, 1, none⟩ = some (.int .i64 a3_1)) (ds := []) (Bs 0 22) (by kernel_rfl) rfl rfl ⟨(blk_cell BK248.out 0).trans rfl, (blk_cell BK248.out 1).trans rfl, (blk_cell BK249.out 0).trans rfl, (blk_cell BK249.out 1).trans rfl, (blk_cell BK250.out 0).trans rfl, (blk_cell BK250.out 1).trans rfl, (blk_cell BK251.out 0).trans rfl, (blk_cell BK251.out 1).trans rfl⟩ (fun hHeld => ?_); refine with_tabW silversideref01_meet.tab1 silversideref01_meet.bits1 (fun HT_ HW_ => ?_)
   generalize w9.drew = w15 at BK248 BK249 BK250 BK251 HB hHeld ⊢
   refine ta 0 9 (Bs 1 22) HT_ HW_ hHeld ?_
   refine ta 1 10 (Bs 2 22) HT_ HW_ hHeld ?_
   refine ta 2 11 (Bs 3 22) HT_ HW_ hHeld ?_
   refine ta 4 13 (Br [3,1,1,17]) HT_ HW_ hHeld ?_
   refine ta 5 14 (Br [3,1,2,16]) HT_ HW_ hHeld ?_
   refine ta 6 15 (Br [3,1,3,15]) HT_ HW_ hHeld ?_
   refine one_ (i := 3) (N := some 12) (Bs 7 22) rfl rfl (one_of HT_.out (by kernel_rfl)) (by decide) (fun K hK => ?_)
   refine goes_ Try.func31 (by kernel_rfl) rfl #[.agg #[.int .i64 a0_0, .int .i64 a0_1], .agg #[.int .i64 a1_0, .int .i64 a1_1], .agg #[.int .i64 a2_0, .int .i64 a2_1]] (by rfl) rfl rfl (by (try simp only [List.map_toArray, List.map_cons, List.map_nil]); first | done | rfl | (simp only [List.length_drop, List.length_take]; rfl)) ?_
   with_reducible refine (silversideref01_Turn.calls a0_0 a0_1 a1_0 a1_1 a2_0 a2_1 t252 _ A10.out).mono ?_
   rintro e w16 ⟨rfl, hb⟩
   refine ⟨_, rfl, ?_⟩
   have n4_ := Aside0.mk (below_step lB hb)
   clear HB
   have HB := n4_
   clear n4_
   replace BK248 := Aside0.mk (blk_below (g := gb248) (o := .cells #[.int .i64 a0_0, .int .i64 a0_1] 31 (0, 0)) (kX BK248.out) hb)
   replace BK249 := Aside0.mk (blk_below (g := gb249) (o := .cells #[.int .i64 a1_0, .int .i64 a1_1] 31 (0, 0)) (kX BK249.out) hb)
   replace BK250 := Aside0.mk (blk_below (g := gb250) (o := .cells #[.int .i64 a2_0, .int .i64 a2_1] 31 (0, 0)) (kX BK250.out) hb)
   replace BK251 := Aside0.mk (blk_below (g := gb251) (o := .cells #[.int .i64 a3_0, .int .i64 a3_1] 31 (0, 0)) (kX BK251.out) hb)
   (try clear hb)
   (try clear hb2)
   (try clear hk)
   (try clear hi)
   refine hK.out _ _ ⟨(blk_cell BK248.out 0).trans rfl, (blk_cell BK248.out 1).trans rfl, (blk_cell BK249.out 0).trans rfl, (blk_cell BK249.out 1).trans rfl, (blk_cell BK250.out 0).trans rfl, (blk_cell BK250.out 1).trans rfl, (blk_cell BK251.out 0).trans rfl, (blk_cell BK251.out 1).trans rfl⟩ (fun hHeld => ?_)
   clear hK K
   refine nm 12 ?_
   refine one_ (i := 7) (N := some 16) (Bs 8 22) rfl rfl (one_of HT_.out (by kernel_rfl)) (by decide) (fun K hK => ?_)
   refine goes_ Try.func31 (by kernel_rfl) rfl #[.agg #[.int .i64 a0_0, .int .i64 a0_1], .agg #[.int .i64 a1_0, .int .i64 a1_1], .agg #[.int .i64 a3_0, .int .i64 a3_1]] (by rfl) rfl rfl (by (try simp only [List.map_toArray, List.map_cons, List.map_nil]); first | done | rfl | (simp only [List.length_drop, List.length_take]; rfl)) ?_
   with_reducible refine (silversideref01_Turn.calls a0_0 a0_1 a1_0 a1_1 a3_0 a3_1 t253 _ A11.out).mono ?_
   rintro e w17 ⟨rfl, hb⟩
   refine ⟨_, rfl, ?_⟩
   have n4_ := Aside0.mk (below_step lB hb)
   clear HB
   have HB := n4_
   clear n4_
   replace BK248 := Aside0.mk (blk_below (g := gb248) (o := .cells #[.int .i64 a0_0, .int .i64 a0_1] 31 (0, 0)) (kX BK248.out) hb)
   replace BK249 := Aside0.mk (blk_below (g := gb249) (o := .cells #[.int .i64 a1_0, .int .i64 a1_1] 31 (0, 0)) (kX BK249.out) hb)
   replace BK250 := Aside0.mk (blk_below (g := gb250) (o := .cells #[.int .i64 a2_0, .int .i64 a2_1] 31 (0, 0)) (kX BK250.out) hb)
   replace BK251 := Aside0.mk (blk_below (g := gb251) (o := .cells #[.int .i64 a3_0, .int .i64 a3_1] 31 (0, 0)) (kX BK251.out) hb)
   (try clear hb)
   (try clear hb2)
   (try clear hk)
   (try clear hi)
   refine hK.out _ _ ⟨(blk_cell BK248.out 0).trans rfl, (blk_cell BK248.out 1).trans rfl, (blk_cell BK249.out 0).trans rfl, (blk_cell BK249.out 1).trans rfl, (blk_cell BK250.out 0).trans rfl, (blk_cell BK250.out 1).trans rfl, (blk_cell BK251.out 0).trans rfl, (blk_cell BK251.out 1).trans rfl⟩ (fun hHeld => ?_)
   clear hK K
   refine nm 16 ?_
   refine pu 8 17 (Bs 9 22) HT_ ?_
   refine pu 9 18 (Bs 10 22) HT_ ?_
   refine pu 10 19 (Bs 11 22) HT_ ?_
   refine ta 11 20 (Bs 12 22) HT_ HW_ hHeld ?_
   refine ta 12 21 (Bs 13 22) HT_ HW_ hHeld ?_
   refine ta 13 22 (Bs 14 22) HT_ HW_ hHeld ?_
   refine ta 15 24 (Br [14,1,1,6]) HT_ HW_ hHeld ?_
   refine ta 16 25 (Br [14,1,2,5]) HT_ HW_ hHeld ?_
   refine ta 17 26 (Br [14,1,3,4]) HT_ HW_ hHeld ?_
   refine one_ (i := 14) (N := some 23) (Bs 18 22) rfl rfl (one_of HT_.out (by kernel_rfl)) (by decide) (fun K hK => ?_)
   refine goes_ Try.func31 (by kernel_rfl) rfl #[.agg #[.int .i64 a2_0, .int .i64 a2_1], .agg #[.int .i64 a3_0, .int .i64 a3_1], .agg #[.int .i64 a0_0, .int .i64 a0_1]] (by rfl) rfl rfl (by (try simp only [List.map_toArray, List.map_cons, List.map_nil]); first | done | rfl | (simp only [List.length_drop, List.length_take]; rfl)) ?_
   with_reducible refine (silversideref01_Turn.calls a2_0 a2_1 a3_0 a3_1 a0_0 a0_1 t254 _ A13.out).mono ?_
   rintro e w18 ⟨rfl, hb⟩
   refine ⟨_, rfl, ?_⟩
   have n4_ := Aside0.mk (below_step lB hb)
   clear HB
   have HB := n4_
   clear n4_
   replace BK248 := Aside0.mk (blk_below (g := gb248) (o := .cells #[.int .i64 a0_0, .int .i64 a0_1] 31 (0, 0)) (kX BK248.out) hb)
   replace BK249 := Aside0.mk (blk_below (g := gb249) (o := .cells #[.int .i64 a1_0, .int .i64 a1_1] 31 (0, 0)) (kX BK249.out) hb)
   replace BK250 := Aside0.mk (blk_below (g := gb250) (o := .cells #[.int .i64 a2_0, .int .i64 a2_1] 31 (0, 0)) (kX BK250.out) hb)
   replace BK251 := Aside0.mk (blk_below (g := gb251) (o := .cells #[.int .i64 a3_0, .int .i64 a3_1] 31 (0, 0)) (kX BK251.out) hb)
   (try clear hb)
   (try clear hb2)
   (try clear hk)
   (try clear hi)
   refine hK.out _ _ ⟨(blk_cell BK248.out 0).trans rfl, (blk_cell BK248.out 1).trans rfl, (blk_cell BK249.out 0).trans rfl, (blk_cell BK249.out 1).trans rfl, (blk_cell BK250.out 0).trans rfl, (blk_cell BK250.out 1).trans rfl, (blk_cell BK251.out 0).trans rfl, (blk_cell BK251.out 1).trans rfl⟩ (fun hHeld => ?_)
   clear hK K
   refine nm 23 ?_
   refine one_ (i := 18) (N := some 27) (Bs 19 22) rfl rfl (one_of HT_.out (by kernel_rfl)) (by decide) (fun K hK => ?_)
   refine goes_ Try.func31 (by kernel_rfl) rfl #[.agg #[.int .i64 a2_0, .int .i64 a2_1], .agg #[.int .i64 a3_0, .int .i64 a3_1], .agg #[.int .i64 a1_0, .int .i64 a1_1]] (by rfl) rfl rfl (by (try simp only [List.map_toArray, List.map_cons, List.map_nil]); first | done | rfl | (simp only [List.length_drop, List.length_take]; rfl)) ?_
   with_reducible refine (silversideref01_Turn.calls a2_0 a2_1 a3_0 a3_1 a1_0 a1_1 t255 _ A14.out).mono ?_
   rintro e w19 ⟨rfl, hb⟩
   refine ⟨_, rfl, ?_⟩
   have n4_ := Aside0.mk (below_step lB hb)
   clear HB
   have HB := n4_
   clear n4_
   replace BK248 := Aside0.mk (blk_below (g := gb248) (o := .cells #[.int .i64 a0_0, .int .i64 a0_1] 31 (0, 0)) (kX BK248.out) hb)
   replace BK249 := Aside0.mk (blk_below (g := gb249) (o := .cells #[.int .i64 a1_0, .int .i64 a1_1] 31 (0, 0)) (kX BK249.out) hb)
   replace BK250 := Aside0.mk (blk_below (g := gb250) (o := .cells #[.int .i64 a2_0, .int .i64 a2_1] 31 (0, 0)) (kX BK250.out) hb)
   replace BK251 := Aside0.mk (blk_below (g := gb251) (o := .cells #[.int .i64 a3_0, .int .i64 a3_1] 31 (0, 0)) (kX BK251.out) hb)
   (try clear hb)
   (try clear hb2)
   (try clear hk)
   (try clear hi)
   refine hK.out _ _ ⟨(blk_cell BK248.out 0).trans rfl, (blk_cell BK248.out 1).trans rfl, (blk_cell BK249.out 0).trans rfl, (blk_cell BK249.out 1).trans rfl, (blk_cell BK250.out 0).trans rfl, (blk_cell BK250.out 1).trans rfl, (blk_cell BK251.out 0).trans rfl, (blk_cell BK251.out 1).trans rfl⟩ (fun hHeld => ?_)
   clear hK K
   refine nm 27 ?_
   refine pu 19 28 (Bs 20 22) HT_ ?_
   refine pu 20 29 (Bs 21 22) HT_ ?_
   refine pu 21 30 (Bs 22 22) HT_ ?_
   refine done_ (done_of HT_.out (by kernel_rfl)) ?_
   try go_wp2
   go_meet
   case rel => exact ⟨_, (decide ((wrap64 (t254 * t255)) < 0)), (by first | rfl | (simp; done) | (simp [*]; done)), H', ⟨by first | omega | exact Nat.le_refl _⟩, ⟨by (with_reducible repeat (first | refine kN ?_ _ | refine kD ?_ | refine kA ?_ _)); exact BK248.out⟩, ⟨by (with_reducible repeat (first | refine kN ?_ _ | refine kD ?_ | refine kA ?_ _)); exact BK249.out⟩, ⟨by (with_reducible repeat (first | refine kN ?_ _ | refine kD ?_ | refine kA ?_ _)); exact BK250.out⟩, ⟨by (with_reducible repeat (first | refine kN ?_ _ | refine kD ?_ | refine kA ?_ _)); exact BK251.out⟩, ⟨by repeat (first | (with_reducible first | exact HB.out | apply lA | apply lN | apply lD | refine lS ?_ GE248.out | refine lS ?_ GE249.out | refine lS ?_ GE250.out | refine lS ?_ GE251.out) | exact HB.out)⟩⟩
  rw [if_neg c12] at H
  have c12b0 : decide ((wrap64 (t252 * t253)) < 0) = false := decide_eq_false c12
  clear c12
  (first | rw [c12b0] | (simp only [i64_w, i32_w]; rw [c12b0]) | skip)
  have H' := Aside0.mk H
  clear H
  try go_wp2
  replace BK248 := Aside0.mk (kD BK248.out)
  replace BK249 := Aside0.mk (kD BK249.out)
  replace BK250 := Aside0.mk (kD BK250.out)
  replace BK251 := Aside0.mk (kD BK251.out)
  replace HB := Aside0.mk (lD HB.out)
  refine start_ (n := 22) (S := fun w' => w'.cell? ⟨gb248, 0, none⟩ = some (.int .i64 a0_0) ∧ w'.cell? ⟨gb248, 1, none⟩ = some (.int .i64 a0_1) ∧ w'.cell? ⟨gb249, 0, none⟩ = some (.int .i64 a1_0) ∧ w'.cell? ⟨gb249, 1, none⟩ = some (.int .i64 a1_1) ∧ w'.cell? ⟨gb250, 0, none⟩ = some (.int .i64 a2_0) ∧ w'.cell? ⟨gb250, 1, none⟩ = some (.int .i64 a2_1) ∧ w'.cell? ⟨gb251, 0, none⟩ = some (.int .i64 a3_0) ∧ w'.cell? ⟨gb251, 1, none⟩ = some (.int .i64 a3_1)) (ds := []) (Bs 0 22) (by kernel_rfl) rfl rfl ⟨(blk_cell BK248.out 0).trans rfl, (blk_cell BK248.out 1).trans rfl, (blk_cell BK249.out 0).trans rfl, (blk_cell BK249.out 1).trans rfl, (blk_cell BK250.out 0).trans rfl, (blk_cell BK250.out 1).trans rfl, (blk_cell BK251.out 0).trans rfl, (blk_cell BK251.out 1).trans rfl⟩ (fun hHeld => ?_); refine with_tabW silversideref01_meet.tab1 silversideref01_meet.bits1 (fun HT_ HW_ => ?_)
  generalize w9.drew = w20 at BK248 BK249 BK250 BK251 HB hHeld ⊢
  refine ta 0 9 (Bs 1 22) HT_ HW_ hHeld ?_
  refine ta 1 10 (Bs 2 22) HT_ HW_ hHeld ?_
  refine ta 2 11 (Bs 3 22) HT_ HW_ hHeld ?_
  refine ta 4 13 (Br [3,1,1,17]) HT_ HW_ hHeld ?_
  refine ta 5 14 (Br [3,1,2,16]) HT_ HW_ hHeld ?_
  refine ta 6 15 (Br [3,1,3,15]) HT_ HW_ hHeld ?_
  refine one_ (i := 3) (N := some 12) (Bs 7 22) rfl rfl (one_of HT_.out (by kernel_rfl)) (by decide) (fun K hK => ?_)
  refine goes_ Try.func31 (by kernel_rfl) rfl #[.agg #[.int .i64 a0_0, .int .i64 a0_1], .agg #[.int .i64 a1_0, .int .i64 a1_1], .agg #[.int .i64 a2_0, .int .i64 a2_1]] (by rfl) rfl rfl (by (try simp only [List.map_toArray, List.map_cons, List.map_nil]); first | done | rfl | (simp only [List.length_drop, List.length_take]; rfl)) ?_
  with_reducible refine (silversideref01_Turn.calls a0_0 a0_1 a1_0 a1_1 a2_0 a2_1 t252 _ A10.out).mono ?_
  rintro e w21 ⟨rfl, hb⟩
  refine ⟨_, rfl, ?_⟩
  have n4_ := Aside0.mk (below_step lB hb)
  clear HB
  have HB := n4_
  clear n4_
  replace BK248 := Aside0.mk (blk_below (g := gb248) (o := .cells #[.int .i64 a0_0, .int .i64 a0_1] 31 (0, 0)) (kX BK248.out) hb)
  replace BK249 := Aside0.mk (blk_below (g := gb249) (o := .cells #[.int .i64 a1_0, .int .i64 a1_1] 31 (0, 0)) (kX BK249.out) hb)
  replace BK250 := Aside0.mk (blk_below (g := gb250) (o := .cells #[.int .i64 a2_0, .int .i64 a2_1] 31 (0, 0)) (kX BK250.out) hb)
  replace BK251 := Aside0.mk (blk_below (g := gb251) (o := .cells #[.int .i64 a3_0, .int .i64 a3_1] 31 (0, 0)) (kX BK251.out) hb)
  (try clear hb)
  (try clear hb2)
  (try clear hk)
  (try clear hi)
  refine hK.out _ _ ⟨(blk_cell BK248.out 0).trans rfl, (blk_cell BK248.out 1).trans rfl, (blk_cell BK249.out 0).trans rfl, (blk_cell BK249.out 1).trans rfl, (blk_cell BK250.out 0).trans rfl, (blk_cell BK250.out 1).trans rfl, (blk_cell BK251.out 0).trans rfl, (blk_cell BK251.out 1).trans rfl⟩ (fun hHeld => ?_)
  clear hK K
  refine nm 12 ?_
  refine one_ (i := 7) (N := some 16) (Bs 8 22) rfl rfl (one_of HT_.out (by kernel_rfl)) (by decide) (fun K hK => ?_)
  refine goes_ Try.func31 (by kernel_rfl) rfl #[.agg #[.int .i64 a0_0, .int .i64 a0_1], .agg #[.int .i64 a1_0, .int .i64 a1_1], .agg #[.int .i64 a3_0, .int .i64 a3_1]] (by rfl) rfl rfl (by (try simp only [List.map_toArray, List.map_cons, List.map_nil]); first | done | rfl | (simp only [List.length_drop, List.length_take]; rfl)) ?_
  with_reducible refine (silversideref01_Turn.calls a0_0 a0_1 a1_0 a1_1 a3_0 a3_1 t253 _ A11.out).mono ?_
  rintro e w22 ⟨rfl, hb⟩
  refine ⟨_, rfl, ?_⟩
  have n4_ := Aside0.mk (below_step lB hb)
  clear HB
  have HB := n4_
  clear n4_
  replace BK248 := Aside0.mk (blk_below (g := gb248) (o := .cells #[.int .i64 a0_0, .int .i64 a0_1] 31 (0, 0)) (kX BK248.out) hb)
  replace BK249 := Aside0.mk (blk_below (g := gb249) (o := .cells #[.int .i64 a1_0, .int .i64 a1_1] 31 (0, 0)) (kX BK249.out) hb)
  replace BK250 := Aside0.mk (blk_below (g := gb250) (o := .cells #[.int .i64 a2_0, .int .i64 a2_1] 31 (0, 0)) (kX BK250.out) hb)
  replace BK251 := Aside0.mk (blk_below (g := gb251) (o := .cells #[.int .i64 a3_0, .int .i64 a3_1] 31 (0, 0)) (kX BK251.out) hb)
  (try clear hb)
  (try clear hb2)
  (try clear hk)
  (try clear hi)
  refine hK.out _ _ ⟨(blk_cell BK248.out 0).trans rfl, (blk_cell BK248.out 1).trans rfl, (blk_cell BK249.out 0).trans rfl, (blk_cell BK249.out 1).trans rfl, (blk_cell BK250.out 0).trans rfl, (blk_cell BK250.out 1).trans rfl, (blk_cell BK251.out 0).trans rfl, (blk_cell BK251.out 1).trans rfl⟩ (fun hHeld => ?_)
  clear hK K
  refine nm 16 ?_
  refine pu 8 17 (Bs 9 22) HT_ ?_
  refine pu 9 18 (Bs 10 22) HT_ ?_
  refine pu 10 19 (Bs 11 22) HT_ ?_
  refine po 11 20 (Bs 12 22) HT_ ?_
  refine po 12 21 (Bs 13 22) HT_ ?_
  refine po 13 22 (Bs 14 22) HT_ ?_
  refine po 14 23 (Bs 15 22) HT_ ?_
  refine po 15 24 (Bs 16 22) HT_ ?_
  refine po 16 25 (Bs 17 22) HT_ ?_
  refine po 17 26 (Bs 18 22) HT_ ?_
  refine po 18 27 (Bs 19 22) HT_ ?_
  refine po 19 28 (Bs 20 22) HT_ ?_
  refine po 20 29 (Bs 21 22) HT_ ?_
  refine pu 21 30 (Bs 22 22) HT_ ?_
  refine done_ (done_of HT_.out (by kernel_rfl)) ?_
  try go_wp2
  go_meet
  case rel => exact ⟨_, (false), (by first | rfl | (simp; done) | (simp [*]; done)), H', ⟨by first | omega | exact Nat.le_refl _⟩, ⟨by (with_reducible repeat (first | refine kN ?_ _ | refine kD ?_ | refine kA ?_ _)); exact BK248.out⟩, ⟨by (with_reducible repeat (first | refine kN ?_ _ | refine kD ?_ | refine kA ?_ _)); exact BK249.out⟩, ⟨by (with_reducible repeat (first | refine kN ?_ _ | refine kD ?_ | refine kA ?_ _)); exact BK250.out⟩, ⟨by (with_reducible repeat (first | refine kN ?_ _ | refine kD ?_ | refine kA ?_ _)); exact BK251.out⟩, ⟨by repeat (first | (with_reducible first | exact HB.out | apply lA | apply lN | apply lD | refine lS ?_ GE248.out | refine lS ?_ GE249.out | refine lS ?_ GE250.out | refine lS ?_ GE251.out) | exact HB.out)⟩⟩
 case rest =>
  clear HC5
  try clear c1
  try clear p2
  try clear c3
  try clear c6
  try clear p6
  try clear c12
  try clear c12b0
  obtain ⟨kq, x30_4, rfl, HA, HJ4, BK248, BK249, BK250, BK251, HB⟩ := hcut
  cases kq with
  | zero => exact absurd HA.out (by simp [silversideref01_meet.j0])
  | succ kj4 =>
   have H := HA.out
   clear HA
   simp only [silversideref01_meet.j0] at H
   by_cases c23 : x30_4 = true
   subst c23
   have H1 : (some true) = some r := by rw [if_pos rfl] at H; exact H
   clear H
   have H := H1
   clear H1
   obtain rfl := Option.some.inj H
   rotate_left 1
   replace c23 := Bool.eq_false_iff.mpr c23
   subst c23
   have H1 : ((silversideref01_on.f a0_0 a0_1 a1_0 a1_1 a2_0 a2_1).bind fun t256 => (if t256 = true then (some true) else ((silversideref01_on.f a0_0 a0_1 a1_0 a1_1 a3_0 a3_1).bind fun t257 => (if t257 = true then (some true) else ((silversideref01_on.f a2_0 a2_1 a3_0 a3_1 a0_0 a0_1).bind fun t258 => (if t258 = true then (some true) else ((silversideref01_on.f a2_0 a2_1 a3_0 a3_1 a1_0 a1_1).bind fun t259 => (some t259)))))))) = some r := by rw [if_neg (show ¬ (false = true) by decide)] at H; exact H
   clear H
   have H := H1
   clear H1
   replace H := Option.bind_eq_some_iff.mp H
   obtain ⟨t256, A240, H⟩ := H
   replace H : (if t256 = true then (some true) else ((silversideref01_on.f a0_0 a0_1 a1_0 a1_1 a3_0 a3_1).bind fun t257 => (if t257 = true then (some true) else ((silversideref01_on.f a2_0 a2_1 a3_0 a3_1 a0_0 a0_1).bind fun t258 => (if t258 = true then (some true) else ((silversideref01_on.f a2_0 a2_1 a3_0 a3_1 a1_0 a1_1).bind fun t259 => (some t259))))))) = some r := H
   have A24 := Aside0.mk A240
   clear A240
   by_cases c25 : t256 = true
   subst c25
   have H1 : (some true) = some r := by rw [if_pos rfl] at H; exact H
   clear H
   have H := H1
   clear H1
   obtain rfl := Option.some.inj H
   have hnb26 := NB248_249.out
   have hnc26 := NB249_248.out
   have hnb27 := NB248_250.out
   have hnc27 := NB250_248.out
   have hnb28 := NB248_251.out
   have hnc28 := NB251_248.out
   have hcz29_0 : wc.cell? ⟨gb248, 0, none⟩ = some (.int .i64 a0_0) := (blk_cell BK248.out 0).trans rfl
   have hcz29_1 : wc.cell? ⟨gb248, 1, none⟩ = some (.int .i64 a0_1) := (blk_cell BK248.out 1).trans rfl
   have hfz29_0 := blk_frozen BK248.out 0
   have hfz29_1 := blk_frozen BK248.out 1
   have hnb30 := NB249_250.out
   have hnc30 := NB250_249.out
   have hnb31 := NB249_251.out
   have hnc31 := NB251_249.out
   have hcz32_0 : wc.cell? ⟨gb249, 0, none⟩ = some (.int .i64 a1_0) := (blk_cell BK249.out 0).trans rfl
   have hcz32_1 : wc.cell? ⟨gb249, 1, none⟩ = some (.int .i64 a1_1) := (blk_cell BK249.out 1).trans rfl
   have hfz32_0 := blk_frozen BK249.out 0
   have hfz32_1 := blk_frozen BK249.out 1
   have hnb33 := NB250_251.out
   have hnc33 := NB251_250.out
   have hcz34_0 : wc.cell? ⟨gb250, 0, none⟩ = some (.int .i64 a2_0) := (blk_cell BK250.out 0).trans rfl
   have hcz34_1 : wc.cell? ⟨gb250, 1, none⟩ = some (.int .i64 a2_1) := (blk_cell BK250.out 1).trans rfl
   have hfz34_0 := blk_frozen BK250.out 0
   have hfz34_1 := blk_frozen BK250.out 1
   rotate_left 1
   replace c25 := Bool.eq_false_iff.mpr c25
   subst c25
   have H1 : ((silversideref01_on.f a0_0 a0_1 a1_0 a1_1 a3_0 a3_1).bind fun t257 => (if t257 = true then (some true) else ((silversideref01_on.f a2_0 a2_1 a3_0 a3_1 a0_0 a0_1).bind fun t258 => (if t258 = true then (some true) else ((silversideref01_on.f a2_0 a2_1 a3_0 a3_1 a1_0 a1_1).bind fun t259 => (some t259)))))) = some r := by rw [if_neg (show ¬ (false = true) by decide)] at H; exact H
   clear H
   have H := H1
   clear H1
   replace H := Option.bind_eq_some_iff.mp H
   obtain ⟨t257, A360, H⟩ := H
   replace H : (if t257 = true then (some true) else ((silversideref01_on.f a2_0 a2_1 a3_0 a3_1 a0_0 a0_1).bind fun t258 => (if t258 = true then (some true) else ((silversideref01_on.f a2_0 a2_1 a3_0 a3_1 a1_0 a1_1).bind fun t259 => (some t259))))) = some r := H
   have A36 := Aside0.mk A360
   clear A360
   by_cases c37 : t257 = true
   subst c37
   have H1 : (some true) = some r := by rw [if_pos rfl] at H; exact H
   clear H
   have H := H1
   clear H1
   obtain rfl := Option.some.inj H
   have hnb38 := NB248_249.out
   have hnc38 := NB249_248.out
   have hnb39 := NB248_250.out
   have hnc39 := NB250_248.out
   have hnb40 := NB248_251.out
   have hnc40 := NB251_248.out
   have hcz41_0 : wc.cell? ⟨gb248, 0, none⟩ = some (.int .i64 a0_0) := (blk_cell BK248.out 0).trans rfl
   have hcz41_1 : wc.cell? ⟨gb248, 1, none⟩ = some (.int .i64 a0_1) := (blk_cell BK248.out 1).trans rfl
   have hfz41_0 := blk_frozen BK248.out 0
   have hfz41_1 := blk_frozen BK248.out 1
   have hnb42 := NB249_250.out
   have hnc42 := NB250_249.out
   have hnb43 := NB249_251.out
   have hnc43 := NB251_249.out
   have hcz44_0 : wc.cell? ⟨gb249, 0, none⟩ = some (.int .i64 a1_0) := (blk_cell BK249.out 0).trans rfl
   have hcz44_1 : wc.cell? ⟨gb249, 1, none⟩ = some (.int .i64 a1_1) := (blk_cell BK249.out 1).trans rfl
   have hfz44_0 := blk_frozen BK249.out 0
   have hfz44_1 := blk_frozen BK249.out 1
   have hnb45 := NB250_251.out
   have hnc45 := NB251_250.out
   have hcz46_0 : wc.cell? ⟨gb250, 0, none⟩ = some (.int .i64 a2_0) := (blk_cell BK250.out 0).trans rfl
   have hcz46_1 : wc.cell? ⟨gb250, 1, none⟩ = some (.int .i64 a2_1) := (blk_cell BK250.out 1).trans rfl
   have hfz46_0 := blk_frozen BK250.out 0
   have hfz46_1 := blk_frozen BK250.out 1
   rotate_left 1
   replace c37 := Bool.eq_false_iff.mpr c37
   subst c37
   have H1 : ((silversideref01_on.f a2_0 a2_1 a3_0 a3_1 a0_0 a0_1).bind fun t258 => (if t258 = true then (some true) else ((silversideref01_on.f a2_0 a2_1 a3_0 a3_1 a1_0 a1_1).bind fun t259 => (some t259)))) = some r := by rw [if_neg (show ¬ (false = true) by decide)] at H; exact H
   clear H
   have H := H1
   clear H1
   replace H := Option.bind_eq_some_iff.mp H
   obtain ⟨t258, A520, H⟩ := H
   replace H : (if t258 = true then (some true) else ((silversideref01_on.f a2_0 a2_1 a3_0 a3_1 a1_0 a1_1).bind fun t259 => (some t259))) = some r := H
   have A52 := Aside0.mk A520
   clear A520
   by_cases c53 : t258 = true
   subst c53
   have H1 : (some true) = some r := by rw [if_pos rfl] at H; exact H
   clear H
   have H := H1
   clear H1
   obtain rfl := Option.some.inj H
   have hnb54 := NB248_249.out
   have hnc54 := NB249_248.out
   have hnb55 := NB248_250.out
   have hnc55 := NB250_248.out
   have hnb56 := NB248_251.out
   have hnc56 := NB251_248.out
   have hcz57_0 : wc.cell? ⟨gb248, 0, none⟩ = some (.int .i64 a0_0) := (blk_cell BK248.out 0).trans rfl
   have hcz57_1 : wc.cell? ⟨gb248, 1, none⟩ = some (.int .i64 a0_1) := (blk_cell BK248.out 1).trans rfl
   have hfz57_0 := blk_frozen BK248.out 0
   have hfz57_1 := blk_frozen BK248.out 1
   have hnb58 := NB249_250.out
   have hnc58 := NB250_249.out
   have hnb59 := NB249_251.out
   have hnc59 := NB251_249.out
   have hcz60_0 : wc.cell? ⟨gb249, 0, none⟩ = some (.int .i64 a1_0) := (blk_cell BK249.out 0).trans rfl
   have hcz60_1 : wc.cell? ⟨gb249, 1, none⟩ = some (.int .i64 a1_1) := (blk_cell BK249.out 1).trans rfl
   have hfz60_0 := blk_frozen BK249.out 0
   have hfz60_1 := blk_frozen BK249.out 1
   have hnb61 := NB250_251.out
   have hnc61 := NB251_250.out
   have hcz62_0 : wc.cell? ⟨gb250, 0, none⟩ = some (.int .i64 a2_0) := (blk_cell BK250.out 0).trans rfl
   have hcz62_1 : wc.cell? ⟨gb250, 1, none⟩ = some (.int .i64 a2_1) := (blk_cell BK250.out 1).trans rfl
   have hfz62_0 := blk_frozen BK250.out 0
   have hfz62_1 := blk_frozen BK250.out 1
   rotate_left 1
   replace c53 := Bool.eq_false_iff.mpr c53
   subst c53
   have H1 : ((silversideref01_on.f a2_0 a2_1 a3_0 a3_1 a1_0 a1_1).bind fun t259 => (some t259)) = some r := by rw [if_neg (show ¬ (false = true) by decide)] at H; exact H
   clear H
   have H := H1
   clear H1
   replace H := Option.bind_eq_some_iff.mp H
   obtain ⟨t259, A720, H⟩ := H
   replace H : (some t259) = some r := H
   have A72 := Aside0.mk A720
   clear A720
   obtain rfl := Option.some.inj H
   have hnb73 := NB248_249.out
   have hnc73 := NB249_248.out
   have hnb74 := NB248_250.out
   have hnc74 := NB250_248.out
   have hnb75 := NB248_251.out
   have hnc75 := NB251_248.out
   have hcz76_0 : wc.cell? ⟨gb248, 0, none⟩ = some (.int .i64 a0_0) := (blk_cell BK248.out 0).trans rfl
   have hcz76_1 : wc.cell? ⟨gb248, 1, none⟩ = some (.int .i64 a0_1) := (blk_cell BK248.out 1).trans rfl
   have hfz76_0 := blk_frozen BK248.out 0
   have hfz76_1 := blk_frozen BK248.out 1
   have hnb77 := NB249_250.out
   have hnc77 := NB250_249.out
   have hnb78 := NB249_251.out
   have hnc78 := NB251_249.out
   have hcz79_0 : wc.cell? ⟨gb249, 0, none⟩ = some (.int .i64 a1_0) := (blk_cell BK249.out 0).trans rfl
   have hcz79_1 : wc.cell? ⟨gb249, 1, none⟩ = some (.int .i64 a1_1) := (blk_cell BK249.out 1).trans rfl
   have hfz79_0 := blk_frozen BK249.out 0
   have hfz79_1 := blk_frozen BK249.out 1
   have hnb80 := NB250_251.out
   have hnc80 := NB251_250.out
   have hcz81_0 : wc.cell? ⟨gb250, 0, none⟩ = some (.int .i64 a2_0) := (blk_cell BK250.out 0).trans rfl
   have hcz81_1 : wc.cell? ⟨gb250, 1, none⟩ = some (.int .i64 a2_1) := (blk_cell BK250.out 1).trans rfl
   have hfz81_0 := blk_frozen BK250.out 0
   have hfz81_1 := blk_frozen BK250.out 1
   all_goals go_wp2_with (first | ((with_reducible refine gate_callee (f := 59) rfl ?_); refine goesL_ (some 34) rfl rfl Try.func59 (by kernel_rfl) rfl #[.agg #[.int .i64 a0_0, .int .i64 a0_1], .agg #[.int .i64 a1_0, .int .i64 a1_1], .agg #[.int .i64 a2_0, .int .i64 a2_1]] rfl (by (try simp only [List.map_toArray, List.map_cons, List.map_nil]); first | done | rfl | (simp only [List.length_drop, List.length_take]; rfl)) ?_; (with_reducible refine (silversideref01_on.calls a0_0 a0_1 a1_0 a1_1 a2_0 a2_1 false _ A24.out).mono ?_); rintro e wz0 ⟨rfl, hb⟩; refine ⟨_, rfl, ?_⟩; have n0_ := Aside0.mk (blk_below (g := gb248) (o := .cells #[.int .i64 a0_0, .int .i64 a0_1] 31 (0, 0)) (kX BK248.out) hb); have n1_ := Aside0.mk (blk_below (g := gb249) (o := .cells #[.int .i64 a1_0, .int .i64 a1_1] 31 (0, 0)) (kX BK249.out) hb); have n2_ := Aside0.mk (blk_below (g := gb250) (o := .cells #[.int .i64 a2_0, .int .i64 a2_1] 31 (0, 0)) (kX BK250.out) hb); have n3_ := Aside0.mk (blk_below (g := gb251) (o := .cells #[.int .i64 a3_0, .int .i64 a3_1] 31 (0, 0)) (kX BK251.out) hb); have n4_ := Aside0.mk (below_step lB hb); clear BK248; clear BK249; clear BK250; clear BK251; clear HB; have BK248 := n0_; have BK249 := n1_; have BK250 := n2_; have BK251 := n3_; have HB := n4_; clear n0_ n1_ n2_ n3_ n4_; (try clear hb); (try clear hb2); (try clear hk); (try clear hi); have hcz48_0 : wz0.cell? ⟨gb248, 0, none⟩ = some (.int .i64 a0_0) := (blk_cell BK248.out 0).trans rfl; have hcz48_1 : wz0.cell? ⟨gb248, 1, none⟩ = some (.int .i64 a0_1) := (blk_cell BK248.out 1).trans rfl; have hfz48_0 := blk_frozen BK248.out 0; have hfz48_1 := blk_frozen BK248.out 1; have hcz49_0 : wz0.cell? ⟨gb249, 0, none⟩ = some (.int .i64 a1_0) := (blk_cell BK249.out 0).trans rfl; have hcz49_1 : wz0.cell? ⟨gb249, 1, none⟩ = some (.int .i64 a1_1) := (blk_cell BK249.out 1).trans rfl; have hfz49_0 := blk_frozen BK249.out 0; have hfz49_1 := blk_frozen BK249.out 1; have hcz50_0 : wz0.cell? ⟨gb251, 0, none⟩ = some (.int .i64 a3_0) := (blk_cell BK251.out 0).trans rfl; have hcz50_1 : wz0.cell? ⟨gb251, 1, none⟩ = some (.int .i64 a3_1) := (blk_cell BK251.out 1).trans rfl; have hfz50_0 := blk_frozen BK251.out 0; have hfz50_1 := blk_frozen BK251.out 1) | (go_at_call 59; (with_reducible refine (silversideref01_on.calls a0_0 a0_1 a1_0 a1_1 a3_0 a3_1 false _ A36.out).mono ?_); rintro e wz1 ⟨rfl, hb⟩; have n0_ := Aside0.mk (blk_below (g := gb248) (o := .cells #[.int .i64 a0_0, .int .i64 a0_1] 31 (0, 0)) (kX BK248.out) hb); have n1_ := Aside0.mk (blk_below (g := gb249) (o := .cells #[.int .i64 a1_0, .int .i64 a1_1] 31 (0, 0)) (kX BK249.out) hb); have n2_ := Aside0.mk (blk_below (g := gb250) (o := .cells #[.int .i64 a2_0, .int .i64 a2_1] 31 (0, 0)) (kX BK250.out) hb); have n3_ := Aside0.mk (blk_below (g := gb251) (o := .cells #[.int .i64 a3_0, .int .i64 a3_1] 31 (0, 0)) (kX BK251.out) hb); have n4_ := Aside0.mk (below_step lB hb); clear BK248; clear BK249; clear BK250; clear BK251; clear HB; have BK248 := n0_; have BK249 := n1_; have BK250 := n2_; have BK251 := n3_; have HB := n4_; clear n0_ n1_ n2_ n3_ n4_; (try clear hb); (try clear hb2); (try clear hk); (try clear hi); have hcz68_0 : wz1.cell? ⟨gb250, 0, none⟩ = some (.int .i64 a2_0) := (blk_cell BK250.out 0).trans rfl; have hcz68_1 : wz1.cell? ⟨gb250, 1, none⟩ = some (.int .i64 a2_1) := (blk_cell BK250.out 1).trans rfl; have hfz68_0 := blk_frozen BK250.out 0; have hfz68_1 := blk_frozen BK250.out 1; have hcz69_0 : wz1.cell? ⟨gb251, 0, none⟩ = some (.int .i64 a3_0) := (blk_cell BK251.out 0).trans rfl; have hcz69_1 : wz1.cell? ⟨gb251, 1, none⟩ = some (.int .i64 a3_1) := (blk_cell BK251.out 1).trans rfl; have hfz69_0 := blk_frozen BK251.out 0; have hfz69_1 := blk_frozen BK251.out 1; have hcz70_0 : wz1.cell? ⟨gb248, 0, none⟩ = some (.int .i64 a0_0) := (blk_cell BK248.out 0).trans rfl; have hcz70_1 : wz1.cell? ⟨gb248, 1, none⟩ = some (.int .i64 a0_1) := (blk_cell BK248.out 1).trans rfl; have hfz70_0 := blk_frozen BK248.out 0; have hfz70_1 := blk_frozen BK248.out 1) | (go_at_call 59; (with_reducible refine (silversideref01_on.calls a2_0 a2_1 a3_0 a3_1 a0_0 a0_1 false _ A52.out).mono ?_); rintro e wz2 ⟨rfl, hb⟩; have n0_ := Aside0.mk (blk_below (g := gb248) (o := .cells #[.int .i64 a0_0, .int .i64 a0_1] 31 (0, 0)) (kX BK248.out) hb); have n1_ := Aside0.mk (blk_below (g := gb249) (o := .cells #[.int .i64 a1_0, .int .i64 a1_1] 31 (0, 0)) (kX BK249.out) hb); have n2_ := Aside0.mk (blk_below (g := gb250) (o := .cells #[.int .i64 a2_0, .int .i64 a2_1] 31 (0, 0)) (kX BK250.out) hb); have n3_ := Aside0.mk (blk_below (g := gb251) (o := .cells #[.int .i64 a3_0, .int .i64 a3_1] 31 (0, 0)) (kX BK251.out) hb); have n4_ := Aside0.mk (below_step lB hb); clear BK248; clear BK249; clear BK250; clear BK251; clear HB; have BK248 := n0_; have BK249 := n1_; have BK250 := n2_; have BK251 := n3_; have HB := n4_; clear n0_ n1_ n2_ n3_ n4_; (try clear hb); (try clear hb2); (try clear hk); (try clear hi); have hcz91_0 : wz2.cell? ⟨gb250, 0, none⟩ = some (.int .i64 a2_0) := (blk_cell BK250.out 0).trans rfl; have hcz91_1 : wz2.cell? ⟨gb250, 1, none⟩ = some (.int .i64 a2_1) := (blk_cell BK250.out 1).trans rfl; have hfz91_0 := blk_frozen BK250.out 0; have hfz91_1 := blk_frozen BK250.out 1; have hcz92_0 : wz2.cell? ⟨gb251, 0, none⟩ = some (.int .i64 a3_0) := (blk_cell BK251.out 0).trans rfl; have hcz92_1 : wz2.cell? ⟨gb251, 1, none⟩ = some (.int .i64 a3_1) := (blk_cell BK251.out 1).trans rfl; have hfz92_0 := blk_frozen BK251.out 0; have hfz92_1 := blk_frozen BK251.out 1; have hcz93_0 : wz2.cell? ⟨gb249, 0, none⟩ = some (.int .i64 a1_0) := (blk_cell BK249.out 0).trans rfl; have hcz93_1 : wz2.cell? ⟨gb249, 1, none⟩ = some (.int .i64 a1_1) := (blk_cell BK249.out 1).trans rfl; have hfz93_0 := blk_frozen BK249.out 0; have hfz93_1 := blk_frozen BK249.out 1) | (go_at_call 59; (with_reducible refine (silversideref01_on.calls a2_0 a2_1 a3_0 a3_1 a1_0 a1_1 t259 _ A72.out).mono ?_); rintro e wz3 ⟨rfl, hb⟩; have n0_ := Aside0.mk (blk_below (g := gb248) (o := .cells #[.int .i64 a0_0, .int .i64 a0_1] 31 (0, 0)) (kX BK248.out) hb); have n1_ := Aside0.mk (blk_below (g := gb249) (o := .cells #[.int .i64 a1_0, .int .i64 a1_1] 31 (0, 0)) (kX BK249.out) hb); have n2_ := Aside0.mk (blk_below (g := gb250) (o := .cells #[.int .i64 a2_0, .int .i64 a2_1] 31 (0, 0)) (kX BK250.out) hb); have n3_ := Aside0.mk (blk_below (g := gb251) (o := .cells #[.int .i64 a3_0, .int .i64 a3_1] 31 (0, 0)) (kX BK251.out) hb); have n4_ := Aside0.mk (below_step lB hb); clear BK248; clear BK249; clear BK250; clear BK251; clear HB; have BK248 := n0_; have BK249 := n1_; have BK250 := n2_; have BK251 := n3_; have HB := n4_; clear n0_ n1_ n2_ n3_ n4_; (try clear hb); (try clear hb2); (try clear hk); (try clear hi)) | (go_at_call 59; (with_reducible refine (silversideref01_on.calls a2_0 a2_1 a3_0 a3_1 a0_0 a0_1 true _ A52.out).mono ?_); rintro e wz2 ⟨rfl, hb⟩; have n0_ := Aside0.mk (blk_below (g := gb248) (o := .cells #[.int .i64 a0_0, .int .i64 a0_1] 31 (0, 0)) (kX BK248.out) hb); have n1_ := Aside0.mk (blk_below (g := gb249) (o := .cells #[.int .i64 a1_0, .int .i64 a1_1] 31 (0, 0)) (kX BK249.out) hb); have n2_ := Aside0.mk (blk_below (g := gb250) (o := .cells #[.int .i64 a2_0, .int .i64 a2_1] 31 (0, 0)) (kX BK250.out) hb); have n3_ := Aside0.mk (blk_below (g := gb251) (o := .cells #[.int .i64 a3_0, .int .i64 a3_1] 31 (0, 0)) (kX BK251.out) hb); have n4_ := Aside0.mk (below_step lB hb); clear BK248; clear BK249; clear BK250; clear BK251; clear HB; have BK248 := n0_; have BK249 := n1_; have BK250 := n2_; have BK251 := n3_; have HB := n4_; clear n0_ n1_ n2_ n3_ n4_; (try clear hb); (try clear hb2); (try clear hk); (try clear hi)) | (go_at_call 59; (with_reducible refine (silversideref01_on.calls a0_0 a0_1 a1_0 a1_1 a3_0 a3_1 true _ A36.out).mono ?_); rintro e wz1 ⟨rfl, hb⟩; have n0_ := Aside0.mk (blk_below (g := gb248) (o := .cells #[.int .i64 a0_0, .int .i64 a0_1] 31 (0, 0)) (kX BK248.out) hb); have n1_ := Aside0.mk (blk_below (g := gb249) (o := .cells #[.int .i64 a1_0, .int .i64 a1_1] 31 (0, 0)) (kX BK249.out) hb); have n2_ := Aside0.mk (blk_below (g := gb250) (o := .cells #[.int .i64 a2_0, .int .i64 a2_1] 31 (0, 0)) (kX BK250.out) hb); have n3_ := Aside0.mk (blk_below (g := gb251) (o := .cells #[.int .i64 a3_0, .int .i64 a3_1] 31 (0, 0)) (kX BK251.out) hb); have n4_ := Aside0.mk (below_step lB hb); clear BK248; clear BK249; clear BK250; clear BK251; clear HB; have BK248 := n0_; have BK249 := n1_; have BK250 := n2_; have BK251 := n3_; have HB := n4_; clear n0_ n1_ n2_ n3_ n4_; (try clear hb); (try clear hb2); (try clear hk); (try clear hi)) | ((with_reducible refine gate_callee (f := 59) rfl ?_); refine goesL_ (some 34) rfl rfl Try.func59 (by kernel_rfl) rfl #[.agg #[.int .i64 a0_0, .int .i64 a0_1], .agg #[.int .i64 a1_0, .int .i64 a1_1], .agg #[.int .i64 a2_0, .int .i64 a2_1]] rfl (by (try simp only [List.map_toArray, List.map_cons, List.map_nil]); first | done | rfl | (simp only [List.length_drop, List.length_take]; rfl)) ?_; (with_reducible refine (silversideref01_on.calls a0_0 a0_1 a1_0 a1_1 a2_0 a2_1 true _ A24.out).mono ?_); rintro e wz0 ⟨rfl, hb⟩; refine ⟨_, rfl, ?_⟩; have n0_ := Aside0.mk (blk_below (g := gb248) (o := .cells #[.int .i64 a0_0, .int .i64 a0_1] 31 (0, 0)) (kX BK248.out) hb); have n1_ := Aside0.mk (blk_below (g := gb249) (o := .cells #[.int .i64 a1_0, .int .i64 a1_1] 31 (0, 0)) (kX BK249.out) hb); have n2_ := Aside0.mk (blk_below (g := gb250) (o := .cells #[.int .i64 a2_0, .int .i64 a2_1] 31 (0, 0)) (kX BK250.out) hb); have n3_ := Aside0.mk (blk_below (g := gb251) (o := .cells #[.int .i64 a3_0, .int .i64 a3_1] 31 (0, 0)) (kX BK251.out) hb); have n4_ := Aside0.mk (below_step lB hb); clear BK248; clear BK249; clear BK250; clear BK251; clear HB; have BK248 := n0_; have BK249 := n1_; have BK250 := n2_; have BK251 := n3_; have HB := n4_; clear n0_ n1_ n2_ n3_ n4_; (try clear hb); (try clear hb2); (try clear hk); (try clear hi)))
   all_goals first
     | (go_ret
        exact en)


/-! ### silversideref01_Square: function 65 -/
def silversideref01_Square.f (a0_0 : Int) (a0_1 : Int) (a1_0 : Int) (a1_1 : Int) : Option (Int) := some (wrap64 ((wrap64 ((wrap64 (a0_0 - a1_0)) * (wrap64 (a0_0 - a1_0)))) + (wrap64 ((wrap64 (a0_1 - a1_1)) * (wrap64 (a0_1 - a1_1))))))
set_option maxHeartbeats 8000000 in
set_option maxRecDepth 100000 in
theorem silversideref01_Square.calls (a0_0 : Int) (a0_1 : Int) (a1_0 : Int) (a1_1 : Int) (r : Int) (w : World) (h : silversideref01_Square.f a0_0 a0_1 a1_0 a1_1 = some r) :
  Calls Try.prog 65 #[.agg #[.int .i64 a0_0, .int .i64 a0_1], .agg #[.int .i64 a1_0, .int .i64 a1_1]] w fun e w' => e = .returned (.int .i64 r) ∧ Below w.heap.size w w' := by
 have hu31 := Try.underlying31
 have HB := Aside0.mk (Below.refl w.heap.size w)
 have H : (some (wrap64 ((wrap64 ((wrap64 (a0_0 - a1_0)) * (wrap64 (a0_0 - a1_0)))) + (wrap64 ((wrap64 (a0_1 - a1_1)) * (wrap64 (a0_1 - a1_1))))))) = some r := h
 clear h
 obtain rfl := Option.some.inj H
 go_enter Try.func65, Try.ntmps65
 go_wp2_with (first | ((with_reducible refine gate_dst (N := 2) rfl ?_); refine bxe 2 #[.int .i64 a0_0, .int .i64 a0_1] 31 ?_; intro gb551 hg w3 hbox hb; have n0_ := Aside0.mk (below_step lB hb); have n1_ := Aside0.mk (hbox); have n2_ := Aside0.mk (lG (w := w) hg); have n3_ := Aside0.mk (lG (w := w) hg); clear HB; have HB := n0_; have BK551 := n1_; have GW551 := n2_; have GE551 := n3_; clear n0_ n1_ n2_ n3_; clear hb hbox hg) | ((with_reducible refine gate_dst (N := 3) rfl ?_); refine bxe 3 #[.int .i64 a1_0, .int .i64 a1_1] 31 ?_; intro gb552 hg w4 hbox hb; have n0_ := Aside0.mk (blk_below (g := gb551) (o := .cells #[.int .i64 a0_0, .int .i64 a0_1] 31 (0, 0)) (kX BK551.out) hb); have n1_ := Aside0.mk (below_step lB hb); have n2_ := Aside0.mk (hbox); have n3_ := Aside0.mk (lG (w := w) hg); have n4_ := Aside0.mk (lG (w := w) hg); have n5_ := Aside0.mk ((by rw [hg]; exact Nat.ne_of_lt (blk_lt (g := gb551) (o := .cells #[.int .i64 a0_0, .int .i64 a0_1] 31 (0, 0)) (kX BK551.out)) : gb551 ≠ gb552)); have n6_ := Aside0.mk ((by rw [hg]; exact Nat.ne_of_gt (blk_lt (g := gb551) (o := .cells #[.int .i64 a0_0, .int .i64 a0_1] 31 (0, 0)) (kX BK551.out)) : gb552 ≠ gb551)); clear BK551; clear HB; have BK551 := n0_; have HB := n1_; have BK552 := n2_; have GW552 := n3_; have GE552 := n4_; have NB551_552 := n5_; have NB552_551 := n6_; clear n0_ n1_ n2_ n3_ n4_ n5_ n6_; clear hb hbox hg; have hnb5 := NB551_552.out; have hnc5 := NB552_551.out; have hcz6_0 : w4.cell? ⟨gb551, 0, none⟩ = some (.int .i64 a0_0) := (blk_cell BK551.out 0).trans rfl; have hcz6_1 : w4.cell? ⟨gb551, 1, none⟩ = some (.int .i64 a0_1) := (blk_cell BK551.out 1).trans rfl; have hfz6_0 := blk_frozen BK551.out 0; have hfz6_1 := blk_frozen BK551.out 1; have hcz7_0 : w4.cell? ⟨gb552, 0, none⟩ = some (.int .i64 a1_0) := (blk_cell BK552.out 0).trans rfl; have hcz7_1 : w4.cell? ⟨gb552, 1, none⟩ = some (.int .i64 a1_1) := (blk_cell BK552.out 1).trans rfl; have hfz7_0 := blk_frozen BK552.out 0; have hfz7_1 := blk_frozen BK552.out 1))
 go_ret
 exact en

end Go.Proofs.Ythaklbjcjoolcaa.P
