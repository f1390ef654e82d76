/- Proved here: what functions that the law reaches compute, and plain laws of that. Put together by a program; a part was printed by one (wip/printplus.py). -/
import Derived.Test.YthaklbjcjoolcaaCPlaneTriangles2
import Derived.Test.YthaklbjcjoolcaaCPlaneTriangles1
import Derived.Outline
import Derived.Deep.DeepMust
import Derived.Deep.LoopGhost
import Derived.Test.YthaklbjcjoolcaaBQ1
import Derived.StillTailTactics
import Derived.Maps.RangeWalk
import Derived.Test.YthaklbjcjoolcaaBQ4
set_option linter.unusedVariables false
set_option linter.unusedSimpArgs false
namespace Go.Proofs.Ythaklbjcjoolcaa.Geo

def ix (P : List Pt) (i : Nat) : Pt := P.getD i (0, 0)
theorem ix_eq (P : List Pt) (i : Nat) (h : i < P.length) : ix P i = P[i] := by unfold ix; rw [List.getD_eq_getElem?_getD, List.getElem?_eq_getElem h, Option.getD_some]
theorem ix_mem (P : List Pt) (i : Nat) (h : i < P.length) : ix P i ∈ P := by rw [ix_eq P i h]; exact List.getElem_mem h
theorem ed_idx : ∀ (l : List Pt) (e : Pt × Pt), e ∈ ed l ↔ ∃ i, i + 1 < l.length ∧ e = (ix l i, ix l (i + 1))
 | [], e => by simp [ed]
 | [a], e => by simp [ed]
 | a :: b :: r, e => by
  rw [ed, List.mem_cons, ed_idx (b :: r) e]
  constructor
  ·rintro (rfl | ⟨i, hi, rfl⟩)
   ·exact ⟨0, by simp, rfl⟩
   ·exact ⟨i + 1, by simp at hi ⊢; omega, rfl⟩
  ·rintro ⟨i, hi, rfl⟩
   cases i with
   | zero => exact .inl rfl
   | succ i => exact .inr ⟨i, by simp at hi ⊢; omega, rfl⟩
theorem ix_app_l (P Q : List Pt) (i : Nat) (h : i < P.length) : ix (P ++ Q) i = ix P i := by
 rw [ix_eq _ _ (by simp; omega), ix_eq _ _ h, List.getElem_append_left h]
theorem ix_app_r (P : List Pt) (a : Pt) (Q : List Pt) : ix (P ++ a :: Q) P.length = a := by
 rw [ix_eq _ _ (by simp)]; simp
theorem cyc_idx (P : List Pt) (e : Pt × Pt) : e ∈ cyc P ↔ ∃ i, i < P.length ∧ e = (ix P i, ix P ((i + 1) % P.length)) := by
 cases P with
 | nil => simp [cyc]
 | cons a r =>
  rw [cyc, ed_idx]
  have hlen : ((a :: r) ++ [a]).length = (a :: r).length + 1 := by simp
  have key : ∀ i, i < (a :: r).length → ix ((a :: r) ++ [a]) (i + 1) = ix (a :: r) ((i + 1) % (a :: r).length) := by
   intro i hi
   by_cases c : i + 1 < (a :: r).length
   ·rw [ix_app_l _ _ _ c, Nat.mod_eq_of_lt c]
   ·have e : i + 1 = (a :: r).length := by omega
    rw [e, Nat.mod_self, ix_app_r]; rfl
  constructor
  ·rintro ⟨i, hi, rfl⟩
   have hi' : i < (a :: r).length := by omega
   exact ⟨i, hi', by rw [ix_app_l _ _ _ hi', key i hi']⟩
  ·rintro ⟨i, hi, rfl⟩
   exact ⟨i, by omega, by rw [ix_app_l _ _ _ hi, key i hi]⟩
theorem sim_of_idx {P : List Pt} (h3 : 3 ≤ P.length)
  (h1 : ∀ i, i < P.length → ix P i ≠ ix P ((i + 1) % P.length) ∧ ¬ On (ix P ((i + 1) % P.length)) (ix P (((i + 1) % P.length + 1) % P.length)) (ix P i) ∧ ¬ On (ix P i) (ix P ((i + 1) % P.length)) (ix P (((i + 1) % P.length + 1) % P.length)))
  (h2 : ∀ i k, i + 2 ≤ k → k < P.length → (k + 1) % P.length ≠ i → Dis (ix P i) (ix P ((i + 1) % P.length)) (ix P k) (ix P ((k + 1) % P.length))) : Sim P := by
 have lt : ∀ i k, i < k → k < P.length → ix P i ≠ ix P k := by
  intro i k hik hk e
  have m1 : (i + 1) % P.length = i + 1 := Nat.mod_eq_of_lt (by omega)
  by_cases c : k = i + 1
  ·subst c; have := (h1 i (by omega)).1; rw [m1] at this; exact this e
  ·by_cases d : (k + 1) % P.length = i
   ·have := (h1 k hk).1; rw [d] at this; exact this e.symm
   ·have := (h2 i k (by omega) hk d).1; rw [← e] at this; exact this (on_left _ _)
 have inj : ∀ i k, i < P.length → k < P.length → ix P i = ix P k → i = k := by
  intro i k hi hk e
  rcases Nat.lt_trichotomy i k with h | h | h
  ·exact absurd e (lt i k h hk)
  ·exact h
  ·exact absurd e.symm (lt k i h hi)
 refine ⟨h3, ?_, ?_, ?_⟩
 ·rw [List.Nodup, List.pairwise_iff_getElem]
  intro i k hi hk hik e
  refine lt i k hik hk ?_
  rw [ix_eq P i hi, ix_eq P k hk]; exact e
 ·intro e he f hf n1 n2 n3
  rw [cyc_idx] at he hf
  obtain ⟨i, hi, rfl⟩ := he; obtain ⟨k, hk, rfl⟩ := hf
  simp only at n1 n2 ⊢
  rcases Nat.lt_trichotomy i k with h | h | h
  ·have m1 : (i + 1) % P.length = i + 1 := Nat.mod_eq_of_lt (by omega)
   refine h2 i k ?_ hk (fun c => n2 (by rw [c]))
   by_cases c : k = i + 1
   ·subst c; rw [m1] at n1; exact absurd rfl n1
   ·omega
  ·subst h; exact absurd rfl n3
  ·have m1 : (k + 1) % P.length = k + 1 := Nat.mod_eq_of_lt (by omega)
   refine (h2 k i ?_ hi (fun c => n1 (by rw [c]))).swap
   by_cases c : i = k + 1
   ·subst c; rw [m1] at n2; exact absurd rfl n2
   ·omega
 ·intro e he f hf n1
  rw [cyc_idx] at he hf
  obtain ⟨i, hi, rfl⟩ := he; obtain ⟨k, hk, rfl⟩ := hf
  simp only at n1 ⊢
  have := inj _ _ (Nat.mod_lt _ (by omega)) hk n1
  subst this
  exact (h1 i hi).2
theorem split_head (A : List Pt) (a : Pt) (B : List Pt) (h : 1 ≤ (B ++ A).length) : (B ++ A).head? = some (ix (A ++ a :: B) ((A.length + 1) % (A ++ a :: B).length)) := by
 cases B with
 | nil =>
  have e : (A.length + 1) % (A ++ [a]).length = 0 := by simp
  rw [e]
  cases A with
  | nil => simp at h
  | cons x A => rfl
 | cons b B =>
  have e : (A.length + 1) % (A ++ a :: b :: B).length = A.length + 1 := Nat.mod_eq_of_lt (by simp)
  rw [e, ix_eq _ _ (by simp)]
  simp
theorem split_last (A : List Pt) (a : Pt) (B : List Pt) (h : 1 ≤ (B ++ A).length) : (B ++ A).getLast? = some (ix (A ++ a :: B) ((A.length + (A ++ a :: B).length - 1) % (A ++ a :: B).length)) := by
 cases A with
 | nil =>
  cases B with
  | nil => simp at h
  | cons b B =>
   have e : (([] : List Pt).length + ([] ++ a :: b :: B).length - 1) % ([] ++ a :: b :: B).length = B.length + 1 := by
    simp only [List.length_nil, List.nil_append, List.length_cons]
    rw [Nat.mod_eq_of_lt (by omega)]; omega
   rw [e, ix_eq _ _ (by simp)]
   simp [List.getLast?_eq_getElem?]
 | cons x A =>
  have e : ((x :: A).length + ((x :: A) ++ a :: B).length - 1) % ((x :: A) ++ a :: B).length = A.length := by
   have : (x :: A).length + ((x :: A) ++ a :: B).length - 1 = A.length + ((x :: A) ++ a :: B).length := by simp; omega
   rw [this, Nat.add_mod_right, Nat.mod_eq_of_lt (by simp; omega)]
  rw [e, ix_eq _ _ (by simp; omega), List.getLast?_append]
  have : (x :: A).getLast? = some ((x :: A)[A.length]'(by simp)) := by
   rw [List.getLast?_eq_getElem?]; simp
  rw [this]
  simp only [Option.some_or, Option.some.injEq]
  rw [List.getElem_append_left (by simp)]

def EarI (s : Int) (P : List Pt) (k : Nat) : Prop :=
 0 < s * T (ix P ((k + P.length - 1) % P.length)) (ix P k) (ix P ((k + 1) % P.length)) ∧
 ∀ q ∈ P, q ≠ ix P ((k + P.length - 1) % P.length) → q ≠ ix P k → q ≠ ix P ((k + 1) % P.length) → ¬ InT s (ix P ((k + P.length - 1) % P.length)) (ix P k) (ix P ((k + 1) % P.length)) q
theorem split_at (P : List Pt) (k : Nat) (h : k < P.length) : P = P.take k ++ ix P k :: P.drop (k + 1) := by
 rw [ix_eq P k h]; simp
theorem EarI.ear {s : Int} {P : List Pt} (nd : P.Nodup) {k : Nat} (hk : k < P.length) (h2 : 3 ≤ P.length) (h : EarI s P k) : Ear s (ix P k) (P.drop (k + 1) ++ P.take k) := by
 have e := split_at P k hk
 have hlen : (P.take k).length = k := by rw [List.length_take]; omega
 have hl2 : 1 ≤ (P.drop (k + 1) ++ P.take k).length := by simp; omega
 have e1 := split_head (P.take k) (ix P k) (P.drop (k + 1)) hl2
 have e2 := split_last (P.take k) (ix P k) (P.drop (k + 1)) hl2
 rw [← e, hlen] at e1 e2
 refine ⟨_, _, e1, e2, h.1, fun q hq n1 n2 => ?_⟩
 have hqP : q ∈ P := by
  rw [List.mem_append] at hq
  rcases hq with hq | hq
  ·exact List.mem_of_mem_drop hq
  ·exact List.mem_of_mem_take hq
 refine h.2 q hqP n1 (fun c => ?_) n2
 subst c
 rw [e, List.nodup_append] at nd
 rw [List.mem_append] at hq
 rcases hq with hq | hq
 ·exact (List.nodup_cons.mp nd.2.1).1 hq
 ·exact nd.2.2 _ hq _ (by simp) rfl
structure Good (N s : Int) (P : List Pt) : Prop where
 sim : Sim P
 inj : Inj N P
 ori : Ori N s P
theorem Good.sgn {N s : Int} {P : List Pt} (h : Good N s P) : s = 1 ∨ s = -1 := h.ori.1
theorem Good.cut {N s : Int} {P : List Pt} (h : Good N s P) {k : Nat} (hk : k < P.length) (h4 : 4 ≤ P.length) (he : EarI s P k) : Good N s (P.take k ++ P.drop (k + 1)) := by
 have hear := he.ear h.sim.nd hk (by omega)
 have sp : Sp P (ix P k) (P.drop (k + 1) ++ P.take k) := ⟨P.take k, P.drop (k + 1), split_at P k hk, rfl⟩
 have S := hear.sim' h.sgn (sp.sim h.sim) (by have := sp.len; simp at this ⊢; omega)
 have O := (main' h.sim h.inj h.ori).1 h4 _ _ sp hear
 refine ⟨S.rot, h.inj.mono (fun x hx => ?_), O.rot⟩
 rw [List.mem_append] at hx
 rcases hx with hx | hx
 ·exact List.mem_of_mem_take hx
 ·exact List.mem_of_mem_drop hx
theorem Good.ear {N s : Int} {P : List Pt} (h : Good N s P) : ∃ k, k < P.length ∧ EarI s P k := by
 have h3 := h.sim.len
 obtain ⟨x, hx⟩ : ∃ x, x ∈ P := ⟨ix P 0, ix_mem P 0 (by omega)⟩
 obtain ⟨y, hy⟩ := cyc_from P x hx
 obtain ⟨a, R, ⟨A, B, e, rfl⟩, _, _, he, _⟩ := (main' h.sim h.inj h.ori).2.2 _ hy
 subst e
 have hl2 : 1 ≤ (B ++ A).length := by simp at h3 ⊢; omega
 have e1 := split_head A a B hl2
 have e2 := split_last A a B hl2
 obtain ⟨v, u, f1, f2, hp, hq⟩ := he
 rw [e1] at f1; rw [e2] at f2
 simp only [Option.some.injEq] at f1 f2
 refine ⟨A.length, by simp, ?_⟩
 unfold EarI
 rw [f1, f2, ix_app_r]
 refine ⟨hp, fun q hqm n1 n2 n3 => hq q ?_ n1 n3⟩
 simp at hqm ⊢
 rcases hqm with h | h | h
 ·exact .inr h
 ·exact absurd h n2
 ·exact .inl h
theorem Good.area {N s : Int} {P : List Pt} (h : Good N s P) : 0 < s * Ar P := area_pos N _ P rfl h.sim h.inj s h.ori
theorem Good.es_cut {N s : Int} {P : List Pt} (h : Good N s P) {k : Nat} (hk : k < P.length) (he : EarI s P k) {ts : List (Pt × Pt × Pt)} (hes : ES s (P.take k ++ P.drop (k + 1)) ts) :
  ES s P ((ix P ((k + P.length - 1) % P.length), ix P k, ix P ((k + 1) % P.length)) :: ts) := by
 have e := split_at P k hk
 have h3 := h.sim.len
 have hlen : (P.take k).length = k := by rw [List.length_take]; omega
 have hl2 : 2 ≤ (P.drop (k + 1) ++ P.take k).length := by simp; omega
 have e1 := split_head (P.take k) (ix P k) (P.drop (k + 1)) (by omega)
 have e2 := split_last (P.take k) (ix P k) (P.drop (k + 1)) (by omega)
 rw [← e, hlen] at e1 e2
 obtain ⟨v, u, f1, f2, hp, hq⟩ := he.ear h.sim.nd hk h3
 have q1 := e1.symm.trans f1
 have q2 := e2.symm.trans f2
 simp only [Option.some.injEq] at q1 q2
 subst q1; subst q2
 have c := ES.cut (P.take k) (ix P k) (P.drop (k + 1)) _ _ ts e1 e2 hp hq hl2 hes
 have : ES s P _ := e.symm ▸ c
 exact this
theorem good_of {N : Int} {P : List Pt} (h : Sim P) (hi : Inj N P) : ∃ s, Good N s P := by
 obtain ⟨s, hs⟩ := Ori.ex h hi; exact ⟨s, h, hi, hs⟩
theorem inj_of {N B : Int} (hN : 2 * B < N) {P : List Pt} (h : ∀ p ∈ P, -B ≤ p.1 ∧ p.1 ≤ B) : Inj N P := by
 intro x hx y hy e
 have bx := h x hx; have b_y := h y hy
 unfold ht aff at e
 have e2 : N * (x.2 - y.2) = x.1 - y.1 := by rw [Int.mul_sub]; omega
 have : x.2 = y.2 := by
  rcases Int.lt_trichotomy (x.2 - y.2) 0 with k | k | k
  ·have := mzn (show 0 ≤ N by omega) (show x.2 - y.2 + 1 ≤ 0 by omega)
   rw [Int.mul_add, Int.mul_one] at this; omega
  ·omega
  ·have := mzz (show 0 ≤ N by omega) (show 0 ≤ x.2 - y.2 - 1 by omega)
   rw [Int.mul_sub N _ 1, Int.mul_one] at this; omega
 refine Prod.ext ?_ this
 rw [this, Int.sub_self, Int.mul_zero] at e2; omega
end Go.Proofs.Ythaklbjcjoolcaa.Geo
namespace Go.Proofs.Ythaklbjcjoolcaa.P
open Go.RowKit YthaklbjcjoolcaaW.PrintWords YthaklbjcjoolcaaW.PrintLast YthaklbjcjoolcaaW.PrintMore
def gp (p : S31) : Geo.Pt := (p.f0, p.f1)
theorem gp_inj {p q : S31} (h : gp p = gp q) : p = q := by
 have e1 := congrArg Prod.fst h; have e2 := congrArg Prod.snd h
 cases p; cases q; simp [gp] at e1 e2; simp [e1, e2]
theorem T_crs (a b c : S31) : Geo.T (gp a) (gp b) (gp c) = crs a b c := rfl
theorem btw3 (a b r : Int) : (mn a b ≤ r ∧ r ≤ mx a b) ↔ (a ≤ r ∧ r ≤ b ∨ b ≤ r ∧ r ≤ a) := by unfold mn mx; split <;> omega
theorem on_gp {a b p : S31} : Geo.On (gp a) (gp b) (gp p) ↔ onB a b p = true := by
 have e : onB a b p = true ↔ crs a b p = 0 ∧ (mn a.f0 b.f0 ≤ p.f0 ∧ p.f0 ≤ mx a.f0 b.f0) ∧ (mn a.f1 b.f1 ≤ p.f1 ∧ p.f1 ≤ mx a.f1 b.f1) := by
  unfold onB; simp only [Bool.and_eq_true, decide_eq_true_eq, and_assoc]
 rw [e, btw3, btw3]; exact Iff.rfl
theorem sgn_mul_neg {x y : Int} (h : Geo.opp x y) : sgn x * sgn y < 0 := by
 have hx := sgn_bd x; have hy := sgn_bd y
 rcases h with ⟨h1, h2⟩ | ⟨h1, h2⟩
 ·have e1 := sgn_neg.mpr h1; have e2 := sgn_pos.mpr h2
  have : sgn x = -1 := by omega
  have : sgn y = 1 := by omega
  rw [‹sgn x = -1›, ‹sgn y = 1›]; decide
 ·have e1 := sgn_pos.mpr h1; have e2 := sgn_neg.mpr h2
  have : sgn x = 1 := by omega
  have : sgn y = -1 := by omega
  rw [‹sgn x = 1›, ‹sgn y = -1›]; decide
theorem dis_gp {a b c d : S31} (h : meetB a b c d = false) : Geo.Dis (gp a) (gp b) (gp c) (gp d) := by
 unfold meetB at h
 simp only [Bool.or_eq_false_iff, Bool.and_eq_false_iff, decide_eq_false_iff_not] at h
 obtain ⟨h1, h2, h3, h4, h5⟩ := h
 have no : ∀ {x y z : S31}, onB x y z = false → ¬ Geo.On (gp x) (gp y) (gp z) := fun e o => by rw [on_gp.mp o] at e; cases e
 refine ⟨no h1, no h2, no h3, no h4, fun o => ?_⟩
 rcases h5 with h | h
 ·exact h (sgn_mul_neg o.1)
 ·exact h (sgn_mul_neg o.2)
theorem ix_gp (l : List S31) (i : Nat) (h : i < l.length) : Geo.ix (l.map gp) i = gp (pt l i) := by
 rw [Geo.ix_eq _ _ (by rw [List.length_map]; exact h), pt_eq l i h]; simp
theorem rowB_at (l : List S31) (i : Nat) : ∀ n k, rowB l i n k = true → ∀ j, k ≤ j → j < k + n → nx l j ≠ i → meetB (pt l i) (pt l (nx l i)) (pt l j) (pt l (nx l j)) = false
 | 0, k, _, j, h1, h2, _ => by omega
 | n + 1, k, h, j, h1, h2, h3 => by
  unfold rowB at h
  rw [Bool.and_eq_true] at h
  by_cases e : j = k
  ·subst e
   have := h.1
   rw [decide_eq_false h3, Bool.false_or, Bool.not_eq_true'] at this
   exact this
  ·exact rowB_at l i n (k + 1) h.2 j (by omega) (by omega) h3
theorem simB_at (l : List S31) : ∀ n i, simB l n i = true → ∀ j, i ≤ j → j < i + n → eqE l j = false ∧ xB l j = false ∧ rowB l j (l.length - (j + 2)) (j + 2) = true
 | 0, i, _, j, h1, h2 => by omega
 | n + 1, i, h, j, h1, h2 => by
  unfold simB at h
  simp only [Bool.and_eq_true, Bool.not_eq_true'] at h
  obtain ⟨⟨a1, a2, a3⟩, a4⟩ := h
  by_cases e : j = i
  ·subst e; exact ⟨a1, a2, a3⟩
  ·exact simB_at l n (i + 1) a4 j (by omega) (by omega)
theorem sim_gp {l : List S31} (h : simpleS l = true) : Geo.Sim (l.map gp) := by
 unfold simpleS at h
 simp only [Bool.and_eq_true, decide_eq_true_eq] at h
 obtain ⟨⟨⟨h3, h5⟩, hok⟩, hs⟩ := h
 have hat := simB_at l l.length 0 hs
 have hlen : (l.map gp).length = l.length := List.length_map ..
 refine Geo.sim_of_idx (by rw [hlen]; exact h3) ?_ ?_
 ·intro i hi
  rw [hlen] at hi ⊢
  obtain ⟨a1, a2, _⟩ := hat i (by omega) (by omega)
  have n1 : (i + 1) % l.length < l.length := Nat.mod_lt _ (by omega)
  have n2 : ((i + 1) % l.length + 1) % l.length < l.length := Nat.mod_lt _ (by omega)
  rw [ix_gp l i hi, ix_gp l _ n1, ix_gp l _ n2]
  unfold xB at a2
  rw [Bool.or_eq_false_iff] at a2
  refine ⟨fun e => ?_, fun o => ?_, fun o => ?_⟩
  ·have e' := gp_inj e
   unfold eqE at a1
   have : pt l i = pt l (nx l i) := e'
   rw [← this] at a1; simp at a1
  ·rw [on_gp] at o; have := a2.1; unfold nx at this; rw [o] at this; cases this
  ·rw [on_gp] at o; have := a2.2; unfold nx at this; rw [o] at this; cases this
 ·intro i k hik hk hne
  rw [hlen] at hk hne ⊢
  have n1 : (i + 1) % l.length < l.length := Nat.mod_lt _ (by omega)
  have n2 : (k + 1) % l.length < l.length := Nat.mod_lt _ (by omega)
  rw [ix_gp l i (by omega), ix_gp l k hk, ix_gp l _ n1, ix_gp l _ n2]
  have := (hat i (by omega) (by omega)).2.2
  exact dis_gp (rowB_at l i _ _ this k hik (by omega) hne)
theorem simple_ok {l : List S31} (h : simpleS l = true) : 3 ≤ l.length ∧ l.length ≤ 512 ∧ allOk l = true := by
 unfold simpleS at h
 simp only [Bool.and_eq_true, decide_eq_true_eq] at h
 exact ⟨h.1.1.1, h.1.1.2, h.1.2⟩
def NH : Int := 1048576
theorem inj_gp {l : List S31} (h : allOk l = true) : Geo.Inj NH (l.map gp) := by
 refine Geo.inj_of (B := 4096) (by unfold NH; omega) ?_
 intro p hp
 rw [List.mem_map] at hp
 obtain ⟨q, hq, rfl⟩ := hp
 have := List.all_eq_true.1 h q hq
 unfold okPt at this
 rw [decide_eq_true_eq] at this
 exact this.1
theorem good_gp {l : List S31} (h : simpleS l = true) : ∃ s, Geo.Good NH s (l.map gp) := Geo.good_of (sim_gp h) (inj_gp (simple_ok h).2.2)

def nat_at (L : List Nat) (i : Nat) : Nat := L.getD i 0
theorem nat_at_eq (L : List Nat) (i : Nat) (h : i < L.length) : nat_at L i = L[i] := by unfold nat_at; rw [List.getD_eq_getElem?_getD, List.getElem?_eq_getElem h, Option.getD_some]
def prv (n k : Nat) : Nat := (k + n - 1) % n
def nxt2 (n k : Nat) : Nat := (k + 1) % n
def inB (way : Int) (a b c p : S31) : Bool := (!decide (p = a) && (!decide (p = b) && !decide (p = c))) && (!decide (sgn (crs a b p) = -way) && (!decide (sgn (crs b c p) = -way) && !decide (sgn (crs c a p) = -way)))
def earB (l : List S31) (L : List Nat) (k : Nat) (way : Int) : Bool :=
 decide (sgn (crs (pt l (nat_at L (prv L.length k))) (pt l (nat_at L k)) (pt l (nat_at L (nxt2 L.length k)))) = way) &&
 L.all fun i => !inB way (pt l (nat_at L (prv L.length k))) (pt l (nat_at L k)) (pt l (nat_at L (nxt2 L.length k))) (pt l i)
def tri3 (L : List Nat) (k : Nat) : S58 := ⟨nat_at L (prv L.length k), nat_at L k, nat_at L (nxt2 L.length k)⟩
def trL (l : List S31) (way : Int) : Nat → List Nat → Nat → Option (List S58)
 | 0, _, _ => none
 | f + 1, L, at_ => if 3 ≤ L.length then (if earB l L (at_ % L.length) way = true then (trL l way f (L.eraseIdx (at_ % L.length)) (at_ + 1)).map (tri3 L (at_ % L.length) :: ·) else trL l way f L (at_ + 1)) else some []
def pL (l : List S31) (L : List Nat) : List Geo.Pt := L.map fun i => gp (pt l i)
theorem pL_len (l : List S31) (L : List Nat) : (pL l L).length = L.length := List.length_map ..
theorem pL_ix (l : List S31) (L : List Nat) (i : Nat) (h : i < L.length) : Geo.ix (pL l L) i = gp (pt l (nat_at L i)) := by
 rw [Geo.ix_eq _ _ (by rw [pL_len]; exact h), nat_at_eq L i h]; unfold pL; simp
theorem nat_mem {L : List Nat} {i : Nat} (h : i < L.length) : nat_at L i ∈ L := by rw [nat_at_eq L i h]; exact List.getElem_mem _
theorem pL_erase (l : List S31) (L : List Nat) (k : Nat) : pL l (L.eraseIdx k) = (pL l L).take k ++ (pL l L).drop (k + 1) := by
 unfold pL
 rw [List.eraseIdx_eq_take_drop_succ, List.map_append, List.map_take, List.map_drop]
theorem sgn_way {x s : Int} (hs : s = 1 ∨ s = -1) : sgn x = s ↔ 0 < s * x := by
 have h1 := sgn_bd x
 have h2 := @sgn_pos x; have h3 := @sgn_neg x
 rcases hs with rfl | rfl <;> omega
theorem sgn_nway {x s : Int} (hs : s = 1 ∨ s = -1) : ¬ sgn x = -s ↔ 0 ≤ s * x := by
 have h1 := sgn_bd x
 have h2 := @sgn_pos x; have h3 := @sgn_neg x
 rcases hs with rfl | rfl <;> omega
theorem earB_iff {l : List S31} {L : List Nat} {k : Nat} {s : Int} (hs : s = 1 ∨ s = -1) (hk : k < L.length) : earB l L k s = true ↔ Geo.EarI s (pL l L) k := by
 have n0 : 0 < L.length := by omega
 have h1 : prv L.length k < L.length := Nat.mod_lt _ n0
 have h2 : nxt2 L.length k < L.length := Nat.mod_lt _ n0
 unfold earB Geo.EarI
 rw [pL_len, pL_ix l L k hk]
 have e1 : Geo.ix (pL l L) ((k + L.length - 1) % L.length) = gp (pt l (nat_at L (prv L.length k))) := pL_ix l L _ h1
 have e2 : Geo.ix (pL l L) ((k + 1) % L.length) = gp (pt l (nat_at L (nxt2 L.length k))) := pL_ix l L _ h2
 rw [e1, e2, Bool.and_eq_true, decide_eq_true_eq, T_crs, sgn_way hs, List.all_eq_true]
 generalize pt l (nat_at L (prv L.length k)) = a
 generalize pt l (nat_at L k) = b
 generalize pt l (nat_at L (nxt2 L.length k)) = c
 refine and_congr Iff.rfl ?_
 constructor
 ·intro h q hq n1 n2 n3 hin
  unfold pL at hq
  rw [List.mem_map] at hq
  obtain ⟨i, hi, rfl⟩ := hq
  have hf := h i hi
  rw [Bool.not_eq_true'] at hf
  obtain ⟨j1, j2, j3⟩ := hin
  rw [T_crs] at j1 j2 j3
  have : inB s a b c (pt l i) = true := by
   unfold inB
   simp only [Bool.and_eq_true, Bool.not_eq_true', decide_eq_false_iff_not]
   exact ⟨⟨fun e => n1 (by rw [e]), fun e => n2 (by rw [e]), fun e => n3 (by rw [e])⟩, (sgn_nway hs).mpr j1, (sgn_nway hs).mpr j2, (sgn_nway hs).mpr j3⟩
  rw [hf] at this; cases this
 ·intro h i hi
  rw [Bool.not_eq_true']
  cases hb : inB s a b c (pt l i) with
  | false => rfl
  | true =>
   exfalso
   unfold inB at hb
   simp only [Bool.and_eq_true, Bool.not_eq_true', decide_eq_false_iff_not] at hb
   obtain ⟨⟨n1, n2, n3⟩, j1, j2, j3⟩ := hb
   exact h (gp (pt l i)) (List.mem_map.mpr ⟨i, hi, rfl⟩) (fun e => n1 (gp_inj e)) (fun e => n2 (gp_inj e)) (fun e => n3 (gp_inj e)) ⟨(sgn_nway hs).mp j1, (sgn_nway hs).mp j2, (sgn_nway hs).mp j3⟩
def p3 (l : List S31) (t : S58) : Geo.Pt × Geo.Pt × Geo.Pt := (gp (pt l t.f0.toNat), gp (pt l t.f1.toNat), gp (pt l t.f2.toNat))
theorem p3_tri (l : List S31) (L : List Nat) (k : Nat) : p3 l (tri3 L k) = (gp (pt l (nat_at L (prv L.length k))), gp (pt l (nat_at L k)), gp (pt l (nat_at L (nxt2 L.length k)))) := by
 unfold p3 tri3; simp
theorem tr_ex {l : List S31} {s : Int} : ∀ m (L : List Nat) at_, L.length = m → 3 ≤ m → Geo.Good NH s (pL l L) → ∃ f ts, f ≤ m * m ∧ trL l s f L at_ = some ts ∧ Geo.ES s (pL l L) (ts.map (p3 l)) ∧ (∀ t ∈ ts, ∃ a b c : Nat, t = ⟨a, b, c⟩ ∧ a ∈ L ∧ b ∈ L ∧ c ∈ L) := by
 intro m
 induction m using Nat.strongRecOn with
 | ind m ih =>
 intro L at0 hm h3 hG
 have hs := hG.sgn
 obtain ⟨k0, hk0, he0⟩ := hG.ear
 rw [pL_len] at hk0
 suffices H : ∀ d at_, (at_ + d) % L.length = k0 → ∃ f ts, f ≤ d + 1 + (if 4 ≤ m then (m - 1) * (m - 1) else 1) ∧ trL l s f L at_ = some ts ∧ Geo.ES s (pL l L) (ts.map (p3 l)) ∧ (∀ t ∈ ts, ∃ a b c : Nat, t = ⟨a, b, c⟩ ∧ a ∈ L ∧ b ∈ L ∧ c ∈ L) by
  obtain ⟨f, ts, h1, h2⟩ := H ((k0 + L.length - at0 % L.length) % L.length) at0 (by
   have hlt : at0 % L.length < L.length := Nat.mod_lt _ (by omega)
   rw [Nat.add_mod, Nat.mod_mod]
   by_cases c : at0 % L.length ≤ k0
   ·have e : (k0 + L.length - at0 % L.length) % L.length = k0 - at0 % L.length := by
     rw [show k0 + L.length - at0 % L.length = (k0 - at0 % L.length) + L.length by omega, Nat.add_mod_right, Nat.mod_eq_of_lt (by omega)]
    rw [e, show at0 % L.length + (k0 - at0 % L.length) = k0 by omega, Nat.mod_eq_of_lt hk0]
   ·have e : (k0 + L.length - at0 % L.length) % L.length = k0 + L.length - at0 % L.length := Nat.mod_eq_of_lt (by omega)
    rw [e, show at0 % L.length + (k0 + L.length - at0 % L.length) = k0 + L.length by omega, Nat.add_mod_right, Nat.mod_eq_of_lt hk0])
  refine ⟨f, ts, ?_, h2⟩
  have hd : (k0 + L.length - at0 % L.length) % L.length < L.length := Nat.mod_lt _ (by omega)
  by_cases c : 4 ≤ m
  ·rw [if_pos c] at h1
   obtain ⟨j, rfl⟩ : ∃ j, m = j + 1 := ⟨m - 1, by omega⟩
   have e : (j + 1) * (j + 1) = j * j + 2 * j + 1 := by grind
   rw [Nat.add_sub_cancel] at h1
   omega
  ·rw [if_neg c] at h1
   have : m = 3 := by omega
   subst this; omega
 intro d
 induction d with
 | zero =>
  intro at_ hat
  have hkk : at_ % L.length = k0 := hat
  have hear : earB l L (at_ % L.length) s = true := (earB_iff hs (by omega)).mpr (by rw [hkk]; exact he0)
  have hk : at_ % L.length < L.length := by omega
  rw [hkk] at hk
  by_cases c : 4 ≤ m
  ·have hG2 := hG.cut (k := k0) (by rw [pL_len]; exact hk) (by rw [pL_len]; omega) he0
   rw [← pL_erase] at hG2
   obtain ⟨f, ts, h1, h2, h5, h6⟩ := ih (m - 1) (by omega) (L.eraseIdx k0) (at_ + 1) (by rw [List.length_eraseIdx, if_pos hk]; omega) (by omega) hG2
   refine ⟨f + 1, tri3 L k0 :: ts, by rw [if_pos c]; omega, ?_, ?_, ?_⟩
   ·rw [trL, if_pos (by omega), if_pos hear, hkk, h2]; rfl
   ·rw [List.map_cons, p3_tri]
    rw [pL_erase] at h5
    have := hG.es_cut (by rw [pL_len]; exact hk) he0 h5
    rw [pL_len, pL_ix l L k0 hk, pL_ix l L _ (Nat.mod_lt _ (by omega)), pL_ix l L _ (Nat.mod_lt _ (by omega))] at this
    exact this
   ·intro t ht
    rw [List.mem_cons] at ht
    rcases ht with rfl | ht
    ·refine ⟨_, _, _, rfl, ?_, ?_, ?_⟩
     ·exact nat_mem (Nat.mod_lt _ (by omega))
     ·exact nat_mem hk
     ·exact nat_mem (Nat.mod_lt _ (by omega))
    ·obtain ⟨a, b, c, e, m1, m2, m3⟩ := h6 t ht
     exact ⟨a, b, c, e, List.mem_of_mem_eraseIdx m1, List.mem_of_mem_eraseIdx m2, List.mem_of_mem_eraseIdx m3⟩
  ·have hm3 : L.length = 3 := by omega
   obtain ⟨v, u, hvu⟩ : ∃ v u, L.eraseIdx k0 = [v, u] := by
    have : (L.eraseIdx k0).length = 2 := by rw [List.length_eraseIdx, if_pos hk]; omega
    match L.eraseIdx k0, this with
    | [v, u], _ => exact ⟨v, u, rfl⟩
   refine ⟨2, [tri3 L k0], by rw [if_neg c]; omega, ?_, ?_, ?_⟩
   ·rw [trL, if_pos (by omega), if_pos hear, hkk, hvu, trL, if_neg (by simp)]; rfl
   ·rw [List.map_cons, p3_tri]
    have h5 : Geo.ES s ((pL l L).take k0 ++ (pL l L).drop (k0 + 1)) [] := by
     rw [← pL_erase, hvu]; exact Geo.ES.last _ _
    have := hG.es_cut (by rw [pL_len]; exact hk) he0 h5
    rw [pL_len, pL_ix l L k0 hk, pL_ix l L _ (Nat.mod_lt _ (by omega)), pL_ix l L _ (Nat.mod_lt _ (by omega))] at this
    exact this
   ·intro t ht
    simp at ht; subst ht
    refine ⟨_, _, _, rfl, ?_, ?_, ?_⟩
    ·exact nat_mem (Nat.mod_lt _ (by omega))
    ·exact nat_mem hk
    ·exact nat_mem (Nat.mod_lt _ (by omega))
 | succ d ihd =>
  intro at_ hat
  obtain ⟨f, ts, h1, h2, h5, h6⟩ := ihd (at_ + 1) (by rw [show at_ + 1 + d = at_ + (d + 1) by omega]; exact hat)
  by_cases hear : earB l L (at_ % L.length) s = true
  ·have hk : at_ % L.length < L.length := Nat.mod_lt _ (by omega)
   have he := (earB_iff hs hk).mp hear
   by_cases c : 4 ≤ m
   ·have hG2 := hG.cut (by rw [pL_len]; exact hk) (by rw [pL_len]; omega) he
    rw [← pL_erase] at hG2
    obtain ⟨f, ts, h1, h2, h5, h6⟩ := ih (m - 1) (by omega) (L.eraseIdx (at_ % L.length)) (at_ + 1) (by rw [List.length_eraseIdx, if_pos hk]; omega) (by omega) hG2
    refine ⟨f + 1, tri3 L (at_ % L.length) :: ts, by rw [if_pos c]; omega, ?_, ?_, ?_⟩
    ·rw [trL, if_pos (by omega), if_pos hear, h2]; rfl
    ·rw [List.map_cons, p3_tri]
     rw [pL_erase] at h5
     have := hG.es_cut (by rw [pL_len]; exact hk) he h5
     rw [pL_len, pL_ix l L _ hk, pL_ix l L _ (Nat.mod_lt _ (by omega)), pL_ix l L _ (Nat.mod_lt _ (by omega))] at this
     exact this
    ·intro t ht
     rw [List.mem_cons] at ht
     rcases ht with rfl | ht
     ·refine ⟨_, _, _, rfl, ?_, ?_, ?_⟩
      ·exact nat_mem (Nat.mod_lt _ (by omega))
      ·exact nat_mem hk
      ·exact nat_mem (Nat.mod_lt _ (by omega))
     ·obtain ⟨a, b, c, e, m1, m2, m3⟩ := h6 t ht
      exact ⟨a, b, c, e, List.mem_of_mem_eraseIdx m1, List.mem_of_mem_eraseIdx m2, List.mem_of_mem_eraseIdx m3⟩
   ·obtain ⟨v, u, hvu⟩ : ∃ v u, L.eraseIdx (at_ % L.length) = [v, u] := by
     have : (L.eraseIdx (at_ % L.length)).length = 2 := by rw [List.length_eraseIdx, if_pos hk]; omega
     match L.eraseIdx (at_ % L.length), this with
     | [v, u], _ => exact ⟨v, u, rfl⟩
    refine ⟨2, [tri3 L (at_ % L.length)], by rw [if_neg c]; omega, ?_, ?_, ?_⟩
    ·rw [trL, if_pos (by omega), if_pos hear, hvu, trL, if_neg (by simp)]; rfl
    ·rw [List.map_cons, p3_tri]
     have h5 : Geo.ES s ((pL l L).take (at_ % L.length) ++ (pL l L).drop (at_ % L.length + 1)) [] := by
      rw [← pL_erase, hvu]; exact Geo.ES.last _ _
     have := hG.es_cut (by rw [pL_len]; exact hk) he h5
     rw [pL_len, pL_ix l L _ hk, pL_ix l L _ (Nat.mod_lt _ (by omega)), pL_ix l L _ (Nat.mod_lt _ (by omega))] at this
     exact this
    ·intro t ht
     simp at ht; subst ht
     refine ⟨_, _, _, rfl, ?_, ?_, ?_⟩
     ·exact nat_mem (Nat.mod_lt _ (by omega))
     ·exact nat_mem hk
     ·exact nat_mem (Nat.mod_lt _ (by omega))
  ·refine ⟨f + 1, ts, by omega, ?_, h5, h6⟩
   rw [trL, if_pos (by omega), if_neg hear, h2]
def cyA (a b : S31) : Int := a.f0 * b.f1 - b.f0 * a.f1
def arN (l : List S31) : Nat → Int
 | 0 => 0
 | n + 1 => arN l n + cyA (pt l n) (pt l ((n + 1) % l.length))
theorem cyA_bd {a b : S31} (ha : okPt a = true) (hb : okPt b = true) : -33554432 ≤ cyA a b ∧ cyA a b ≤ 33554432 := by
 rw [okPt_iff] at ha hb
 have h1 := mul_bd (a := a.f0) (b := b.f1) (m := 4096) (n := 4096) (by omega) (by omega)
 have h2 := mul_bd (a := b.f0) (b := a.f1) (m := 4096) (n := 4096) (by omega) (by omega)
 unfold cyA; omega
theorem arN_bd {l : List S31} (hok : allOk l = true) : ∀ n : Nat, n ≤ l.length → -33554432 * (n : Int) ≤ arN l n ∧ arN l n ≤ 33554432 * (n : Int)
 | 0, _ => ⟨by show _ ≤ (0 : Int); omega, by show (0 : Int) ≤ _; omega⟩
 | n + 1, hn => by
  have ih := arN_bd hok n (by omega)
  have h0 : 0 < l.length := by omega
  have hb := cyA_bd (pt_ok hok (i := n) (by omega)) (pt_ok hok (Nat.mod_lt (n + 1) h0))
  unfold arN; omega
theorem arN_from {l : List S31} (hok : allOk l = true) (hl : l.length ≤ 512) : ∀ (n i : Nat), l.length - i = n → i ≤ l.length →
  plane_area.l0 (n + 1) l (arN l i) l (l.length : Int) (i : Int) = some (arN l l.length)
 | 0, i, hn, hi => by
  obtain rfl : i = l.length := by omega
  unfold plane_area.l0; rw [if_neg (by omega)]
 | n + 1, i, hn, hi => by
  have hlt : i < l.length := by omega
  have hj : (i + 1) % l.length < l.length := Nat.mod_lt _ (by omega)
  have ih := arN_from hok hl n (i + 1) (by omega) (by omega)
  have hb := arN_bd hok (i + 1) (by omega)
  have hbi := arN_bd hok i (by omega)
  have oa := (okPt_iff _).1 (pt_ok hok hlt)
  have ob := (okPt_iff _).1 (pt_ok hok hj)
  have h1 := mul_bd (a := (pt l i).f0) (b := (pt l ((i + 1) % l.length)).f1) (m := 4096) (n := 4096) (by omega) (by omega)
  have h2 := mul_bd (a := (pt l ((i + 1) % l.length)).f0) (b := (pt l i).f1) (m := 4096) (n := 4096) (by omega) (by omega)
  have e : arN l (i + 1) = arN l i + cyA (pt l i) (pt l ((i + 1) % l.length)) := rfl
  have r0 : rd_T31 l (i : Int) = pt l i := by unfold rd_T31 pt; rw [Int.toNat_natCast]
  have r1 : rd_T31 l (((i + 1) % l.length : Nat) : Int) = pt l ((i + 1) % l.length) := by unfold rd_T31 pt; rw [Int.toNat_natCast]
  unfold cyA at e
  unfold plane_area.l0
  rw [if_pos (by omega), if_pos (by omega), if_pos (by omega), if_neg (by omega), show Int.tmod (wrap64 ((i : Int) + 1)) (l.length : Int) = (((i + 1) % l.length : Nat) : Int) from nx_tmod l i hlt (by omega), if_pos (by omega), if_pos (by omega), r0, r1, w64i (x := (i : Int) + 1) (by omega) (by omega),
   w64i (x := (pt l i).f0 * (pt l ((i + 1) % l.length)).f1) (by omega) (by omega), w64i (x := (pt l ((i + 1) % l.length)).f0 * (pt l i).f1) (by omega) (by omega)]
  rw [w64i (x := (pt l i).f0 * (pt l ((i + 1) % l.length)).f1 - (pt l ((i + 1) % l.length)).f0 * (pt l i).f1) (by omega) (by omega), w64i (by omega) (by omega), ← e]
  exact ih
theorem area_is {l : List S31} (hok : allOk l = true) (hl : l.length ≤ 512) : plane_area.f (l.length + 1) l = some (arN l l.length) := by
 have h := arN_from hok hl l.length 0 (by omega) (by omega)
 exact h
def sumF (f : Nat → Int) : Nat → Int
 | 0 => 0
 | n + 1 => sumF f n + f n
theorem sumF_front (f : Nat → Int) : ∀ n, sumF f (n + 1) = f 0 + sumF (fun i => f (i + 1)) n
 | 0 => by simp [sumF]
 | n + 1 => by
  have ih := sumF_front f n
  have e1 : sumF f (n + 1 + 1) = sumF f (n + 1) + f (n + 1) := rfl
  have e2 : sumF (fun i => f (i + 1)) (n + 1) = sumF (fun i => f (i + 1)) n + f (n + 1) := rfl
  rw [e1, e2, ih]; omega
theorem sumF_congr {f g : Nat → Int} : ∀ n, (∀ i, i < n → f i = g i) → sumF f n = sumF g n
 | 0, _ => rfl
 | n + 1, h => by
  unfold sumF; rw [sumF_congr n (fun i hi => h i (by omega)), h n (by omega)]
theorem pa_sum : ∀ M : List Geo.Pt, Geo.pa M = sumF (fun i => Geo.c2d (Geo.ix M i) (Geo.ix M (i + 1))) (M.length - 1)
 | [] => rfl
 | [_] => rfl
 | a :: b :: r => by
  have ih := pa_sum (b :: r)
  rw [Geo.pa_two, ih]
  have e : (a :: b :: r).length - 1 = ((b :: r).length - 1) + 1 := by simp
  rw [e, sumF_front]; rfl
theorem Ar_arN (l : List S31) : Geo.Ar (l.map gp) = arN l l.length := by
 cases l with
 | nil => rfl
 | cons a r =>
  have hA : ∀ n, arN (a :: r) n = sumF (fun i => cyA (pt (a :: r) i) (pt (a :: r) ((i + 1) % (a :: r).length))) n := by
   intro n; induction n with
   | zero => rfl
   | succ n ih => unfold arN sumF; rw [ih]
  rw [hA]
  show Geo.pa (((a :: r).map gp) ++ [gp a]) = _
  rw [pa_sum]
  have hl : (((a :: r).map gp) ++ [gp a]).length - 1 = (a :: r).length := by simp
  rw [hl]
  refine sumF_congr _ fun i hi => ?_
  have hm : ((a :: r).map gp).length = (a :: r).length := List.length_map ..
  rw [Geo.ix_app_l _ _ _ (by rw [hm]; exact hi), ix_gp _ i hi]
  have hk : Geo.ix (((a :: r).map gp) ++ [gp a]) (i + 1) = gp (pt (a :: r) ((i + 1) % (a :: r).length)) := by
   by_cases c : i + 1 < (a :: r).length
   ·rw [Geo.ix_app_l _ _ _ (by rw [hm]; exact c), ix_gp _ _ c, Nat.mod_eq_of_lt c]
   ·have e : i + 1 = (a :: r).length := by omega
    rw [e, Nat.mod_self, ← hm, Geo.ix_app_r]; rfl
  rw [hk]; rfl
theorem sense_good {l : List S31} {s : Int} (h : Geo.Good NH s (l.map gp)) : (0 < arN l l.length ∧ s = 1) ∨ (arN l l.length < 0 ∧ s = -1) := by
 have ha := h.area
 rw [Ar_arN] at ha
 rcases h.sgn with rfl | rfl <;> omega
theorem sense_is {l : List S31} (hok : allOk l = true) (hl : l.length ≤ 512) {s : Int} (h : Geo.Good NH s (l.map gp)) : plane_sense.f (l.length + 1) l = some s := by
 unfold plane_sense.f
 rw [area_is hok hl, Option.bind_some]
 rcases sense_good h with ⟨h1, h2⟩ | ⟨h1, h2⟩
 ·rw [if_pos (by omega), h2]
 ·rw [if_neg (by omega), h2]
def tk (t : S58) (k : Nat) : Int := if k = 0 then t.f0 else if k = 1 then t.f1 else t.f2
def tt (ts : List S58) (i : Nat) : S58 := ts.getD i z58
def cnt1 (t : S58) (a b : Int) : Nat → Int
 | 0 => 0
 | k + 1 => cnt1 t a b k + if tk t k = a ∧ tk t ((k + 1) % 3) = b then 1 else 0
def cntI (ts : List S58) (a b : Int) : Nat → Int
 | 0 => 0
 | i + 1 => cntI ts a b i + cnt1 (tt ts i) a b 3
theorem cnt1_bd (t : S58) (a b : Int) : ∀ k, 0 ≤ cnt1 t a b k ∧ cnt1 t a b k ≤ k
 | 0 => by simp [cnt1]
 | k + 1 => by have := cnt1_bd t a b k; unfold cnt1; split <;> omega
theorem cntI_bd (ts : List S58) (a b : Int) : ∀ i, 0 ≤ cntI ts a b i ∧ cntI ts a b i ≤ 3 * i
 | 0 => by simp [cntI]
 | i + 1 => by have := cntI_bd ts a b i; have := cnt1_bd (tt ts i) a b 3; unfold cntI; omega
def inT (n : Nat) (t : S58) : Bool := decide (0 ≤ t.f0 ∧ t.f0 < n) && (decide (0 ≤ t.f1 ∧ t.f1 < n) && decide (0 ≤ t.f2 ∧ t.f2 < n))
def turnT (l : List S31) (t : S58) : Int := sgn (crs (pt l t.f0.toNat) (pt l t.f1.toNat) (pt l t.f2.toNat))
def okTri (l : List S31) (way : Int) (t : S58) : Bool := inT l.length t && decide (turnT l t = way)
def nxn (n i : Nat) : Nat := (i + 1) % n
def chkR (n : Nat) (ts : List S58) (a b : Nat) : Bool :=
 if b = nxn n a then decide (cntI ts a b ts.length = 1) && decide (cntI ts b a ts.length = 0) else decide (a = nxn n b) || decide (cntI ts a b ts.length = cntI ts b a ts.length)
def allR (n : Nat) (ts : List S58) : Bool := (List.range n).all fun a => (List.range n).all fun b => chkR n ts a b
def refCovB (l : List S31) (way : Int) (ts : List S58) : Bool := decide ((ts.length : Int) = (l.length : Int) - 2) && (ts.all (okTri l way) && allR l.length ts)
theorem tt_mem {ts : List S58} {i : Nat} (h : i < ts.length) : tt ts i ∈ ts := by
 unfold tt; rw [List.getD_eq_getElem?_getD, List.getElem?_eq_getElem h]; exact List.getElem_mem h
theorem all_tt {ts : List S58} {p : S58 → Bool} (h : ∀ i, i < ts.length → p (tt ts i) = true) : ts.all p = true := by
 rw [List.all_eq_true]
 intro t ht
 obtain ⟨i, hi, e⟩ := List.getElem_of_mem ht
 have := h i hi
 unfold tt at this
 rw [List.getD_eq_getElem?_getD, List.getElem?_eq_getElem hi, Option.getD_some, e] at this; exact this
theorem ref_bad {l : List S31} {way : Int} {ts : List S58} {i : Nat} (hi : i < ts.length) (h : okTri l way (tt ts i) = false) : refCovB l way ts = false := by
 unfold refCovB
 have : ts.all (okTri l way) = false := by
  rw [List.all_eq_false]
  exact ⟨_, tt_mem hi, by rw [h]; decide⟩
 rw [this]; simp
theorem ref_bad2 {l : List S31} {way : Int} {ts : List S58} {a b : Nat} (ha : a < l.length) (hb : b < l.length) (h : chkR l.length ts a b = false) : refCovB l way ts = false := by
 unfold refCovB allR
 have : ((List.range l.length).all fun a => (List.range l.length).all fun b => chkR l.length ts a b) = false := by
  rw [List.all_eq_false]
  refine ⟨a, List.mem_range.mpr ha, ?_⟩
  rw [Bool.not_eq_true, List.all_eq_false]
  exact ⟨b, List.mem_range.mpr hb, by rw [h]; decide⟩
 rw [this]; simp
theorem ref_good {l : List S31} {way : Int} {ts : List S58} (h1 : (ts.length : Int) = (l.length : Int) - 2) (h2 : ∀ i, i < ts.length → okTri l way (tt ts i) = true) (h3 : ∀ a, a < l.length → ∀ b, b < l.length → chkR l.length ts a b = true) : refCovB l way ts = true := by
 unfold refCovB allR
 rw [decide_eq_true h1, all_tt h2, Bool.true_and, Bool.true_and, List.all_eq_true]
 intro a ha
 rw [List.all_eq_true]
 intro b hb
 exact h3 a (List.mem_range.mp ha) b (List.mem_range.mp hb)
theorem ref_len {l : List S31} {way : Int} {ts : List S58} (h1 : ¬ (ts.length : Int) = (l.length : Int) - 2) : refCovB l way ts = false := by
 unfold refCovB; rw [decide_eq_false h1]; rfl
structure CntOk (n : Nat) (C : List Int) (f : Int → Int → Int) : Prop where
 len : C.length = n * n
 at_ : ∀ a b : Nat, a < n → b < n → rd C ((a : Int) * n + b) = f a b
theorem idx_lt {n a b : Nat} (ha : a < n) (hb : b < n) : a * n + b < n * n := by
 have : (a + 1) * n ≤ n * n := Nat.mul_le_mul_right n (by omega)
 rw [Nat.add_mul] at this; omega
theorem idx_inj {n a b c d : Nat} (hb : b < n) (hd : d < n) (e : a * n + b = c * n + d) : a = c ∧ b = d := by
 have h1 : (a * n + b) / n = a := by rw [Nat.mul_comm, Nat.mul_add_div (by omega), Nat.div_eq_of_lt hb]; rfl
 have h2 : (c * n + d) / n = c := by rw [Nat.mul_comm, Nat.mul_add_div (by omega), Nat.div_eq_of_lt hd]; rfl
 have : a = c := by rw [← h1, ← h2, e]
 subst this; exact ⟨rfl, by omega⟩
theorem idx_cast (n a b : Nat) : ((a : Int) * n + b) = ((a * n + b : Nat) : Int) := by push_cast; rfl
theorem CntOk.zero (n : Nat) : CntOk n (List.replicate (n * n) 0) (fun _ _ => 0) := by
 refine ⟨List.length_replicate .., fun a b ha hb => ?_⟩
 rw [idx_cast]; unfold rd
 rw [Int.toNat_natCast, List.getD_eq_getElem?_getD, List.getElem?_replicate, if_pos (idx_lt ha hb)]; rfl
theorem CntOk.put {n : Nat} {C : List Int} {f : Int → Int → Int} (h : CntOk n C f) {x y : Nat} (hx : x < n) (hy : y < n) (v : Int) :
  CntOk n (C.set (x * n + y) v) (fun a b => if a = x ∧ b = y then v else f a b) := by
 refine ⟨by rw [List.length_set]; exact h.len, fun a b ha hb => ?_⟩
 have h0 := h.at_ a b ha hb
 have l1 := idx_lt ha hb
 have l2 := idx_lt hx hy
 have hl := h.len
 rw [idx_cast] at h0 ⊢
 unfold rd at h0 ⊢
 rw [Int.toNat_natCast, List.getD_eq_getElem?_getD] at h0 ⊢
 by_cases e : a = x ∧ b = y
 ·obtain ⟨rfl, rfl⟩ := e
  rw [List.getElem?_set_self (by omega), if_pos ⟨rfl, rfl⟩]; rfl
 ·have ne : x * n + y ≠ a * n + b := fun q => e (by have := idx_inj hy hb q; exact ⟨this.1.symm, this.2.symm⟩)
  rw [List.getElem?_set_ne ne, h0, if_neg (fun q => e ⟨by omega, by omega⟩)]
theorem side_w {n : Nat} (hn : n ≤ 512) {x y : Int} (hx : 0 ≤ x ∧ x < n) (hy : 0 ≤ y ∧ y < n) : wrap64 (wrap64 (x * (n : Int)) + y) = ((x.toNat * n + y.toNat : Nat) : Int) := by
 have h1 := idx_lt (n := n) (a := x.toNat) (b := y.toNat) (by omega) (by omega)
 have h2 := Nat.mul_le_mul hn hn
 have e : x * (n : Int) = ((x.toNat * n : Nat) : Int) := by push_cast; rw [Int.toNat_of_nonneg hx.1]
 rw [e, w64i (x := ((x.toNat * n : Nat) : Int)) (by omega) (by omega), w64i (by omega) (by omega)]
 omega
theorem side_cnt {n : Nat} {C : List Int} {f : Int → Int → Int} (h : CntOk n C f) {x y : Int} (hx : 0 ≤ x ∧ x < n) (hy : 0 ≤ y ∧ y < n) : rd C ((x.toNat * n + y.toNat : Nat) : Int) = f x y := by
 have := h.at_ x.toNat y.toNat (by omega) (by omega)
 rw [idx_cast] at this
 rw [this, show ((x.toNat : Nat) : Int) = x by omega, show ((y.toNat : Nat) : Int) = y by omega]
theorem side_put {n : Nat} {C : List Int} {ts : List S58} {i : Nat} {t : S58} {k : Nat} (h : CntOk n C (fun a b => cntI ts a b i + cnt1 t a b k)) (hx : 0 ≤ tk t k ∧ tk t k < n) (hy : 0 ≤ tk t ((k + 1) % 3) ∧ tk t ((k + 1) % 3) < n) :
  CntOk n (C.set ((tk t k).toNat * n + (tk t ((k + 1) % 3)).toNat) (cntI ts (tk t k) (tk t ((k + 1) % 3)) i + cnt1 t (tk t k) (tk t ((k + 1) % 3)) k + 1)) (fun a b => cntI ts a b i + cnt1 t a b (k + 1)) := by
 have := h.put (x := (tk t k).toNat) (y := (tk t ((k + 1) % 3)).toNat) (by omega) (by omega) (cntI ts (tk t k) (tk t ((k + 1) % 3)) i + cnt1 t (tk t k) (tk t ((k + 1) % 3)) k + 1)
 refine ⟨this.len, fun a b ha hb => ?_⟩
 refine (this.at_ a b ha hb).trans ?_
 show (if (a : Int) = ((tk t k).toNat : Nat) ∧ (b : Int) = ((tk t ((k + 1) % 3)).toNat : Nat) then _ else _) = _
 rw [show (((tk t k).toNat : Nat) : Int) = tk t k by omega, show (((tk t ((k + 1) % 3)).toNat : Nat) : Int) = tk t ((k + 1) % 3) by omega]
 show _ = cntI ts a b i + (cnt1 t a b k + if tk t k = a ∧ tk t ((k + 1) % 3) = b then 1 else 0)
 by_cases e : (a : Int) = tk t k ∧ (b : Int) = tk t ((k + 1) % 3)
 ·rw [if_pos e, if_pos ⟨e.1.symm, e.2.symm⟩, e.1, e.2]; omega
 ·rw [if_neg e, if_neg (fun q => e ⟨q.1.symm, q.2.symm⟩)]; omega
theorem side_n {n : Nat} (hn : n ≤ 512) {a b : Nat} (ha : a < n) (hb : b < n) : wrap64 (wrap64 (((a : Nat) : Int) * ((n : Nat) : Int)) + ((b : Nat) : Int)) = ((a * n + b : Nat) : Int) := by
 have := side_w hn (x := (a : Int)) (y := (b : Int)) (by omega) (by omega)
 rw [this, Int.toNat_natCast, Int.toNat_natCast]
theorem CntOk.val {n : Nat} {C : List Int} {f : Int → Int → Int} (h : CntOk n C f) {a b : Nat} (ha : a < n) (hb : b < n) : rd C ((a * n + b : Nat) : Int) = f a b := by
 have := h.at_ a b ha hb; rw [idx_cast] at this; exact this
theorem chkR_a {n : Nat} {ts : List S58} {a b : Nat} (h : b = nxn n a) : chkR n ts a b = (decide (cntI ts a b ts.length = 1) && decide (cntI ts b a ts.length = 0)) := if_pos h
theorem chkR_b {n : Nat} {ts : List S58} {a b : Nat} (h : ¬ b = nxn n a) : chkR n ts a b = (decide (a = nxn n b) || decide (cntI ts a b ts.length = cntI ts b a ts.length)) := if_neg h
def edF (n : Nat) (f : Int → Int → Int) : Nat → Int → Int → Int
 | 0 => f
 | i + 1 => putF (edF n f i) ((nxn n i : Nat) : Int) ((i : Nat) : Int) 1
theorem edF_in (n : Nat) (f : Int → Int → Int) {j : Nat} : ∀ i, j < i → edF n f i ((nxn n j : Nat) : Int) ((j : Nat) : Int) = 1
 | 0, h => by omega
 | i + 1, h => by
  show (if _ then _ else _) = _
  by_cases e : j = i
  ·subst e; rw [if_pos ⟨rfl, rfl⟩]
  ·rw [if_neg (fun q => e (by omega)), edF_in n f i (by omega)]
theorem edF_out (n : Nat) (f : Int → Int → Int) {a d : Int} : ∀ i, (∀ j : Nat, j < i → ¬ (a = ((nxn n j : Nat) : Int) ∧ d = ((j : Nat) : Int))) → edF n f i a d = f a d
 | 0, _ => rfl
 | i + 1, h => by
  show (if _ then _ else _) = _
  rw [if_neg (h i (by omega)), edF_out n f i (fun j hj => h j (by omega))]
theorem nxn_two {n i j : Nat} (h : 3 ≤ n) (hi : i < n) (hj : j < n) : ¬ (i = nxn n j ∧ nxn n i = j) := by
 unfold nxn
 rintro ⟨h1, h2⟩
 by_cases c : j + 1 < n
 ·rw [Nat.mod_eq_of_lt c] at h1
  by_cases c2 : i + 1 < n
  ·rw [Nat.mod_eq_of_lt c2] at h2; omega
  ·rw [show i + 1 = n by omega, Nat.mod_self] at h2; omega
 ·rw [show j + 1 = n by omega, Nat.mod_self] at h1
  subst h1
  rw [Nat.mod_eq_of_lt (by omega)] at h2; omega
theorem edF_now {n i : Nat} (f : Int → Int → Int) (h : 3 ≤ n) (hi : i < n) : edF n f i ((i : Nat) : Int) ((nxn n i : Nat) : Int) = f i (nxn n i) ∧ edF n f i ((nxn n i : Nat) : Int) ((i : Nat) : Int) = f (nxn n i) i := by
 refine ⟨edF_out n f i (fun j hj q => nxn_two (j := j) h hi (by omega) ⟨by omega, by omega⟩), edF_out n f i (fun j hj q => by omega)⟩
theorem edge_q {n a b j : Nat} (q : ((a : Nat) : Int) = ((nxn n j : Nat) : Int) ∧ ((b : Nat) : Int) = ((j : Nat) : Int)) : a = nxn n b := by
 have q1 : a = nxn n j := by omega
 have q2 : b = j := by omega
 rw [q2]; exact q1
theorem cnt1_in {n : Nat} {t : S58} (h : inT n t = true) {a b : Int} : ∀ k, k ≤ 3 → cnt1 t a b k ≠ 0 → (0 ≤ a ∧ a < n) ∧ (0 ≤ b ∧ b < n)
 | 0, _, e => absurd rfl e
 | k + 1, hk, e => by
  have ih := cnt1_in h (a := a) (b := b) k (by omega)
  have ht : ∀ j, 0 ≤ tk t j ∧ tk t j < n := fun j => by
   unfold inT at h
   simp only [Bool.and_eq_true, decide_eq_true_eq] at h
   unfold tk
   split
   ·exact h.1
   ·split
    ·exact h.2.1
    ·exact h.2.2
  unfold cnt1 at e
  by_cases c : tk t k = a ∧ tk t ((k + 1) % 3) = b
  ·rw [← c.1, ← c.2]; exact ⟨ht _, ht _⟩
  ·rw [if_neg c] at e; exact ih (by omega)
theorem cntI_in {l : List S31} {way : Int} {ts : List S58} {a b : Int} : ∀ i, i ≤ ts.length → (∀ j, j < i → okTri l way (tt ts j) = true) → cntI ts a b i ≠ 0 → (0 ≤ a ∧ a < l.length) ∧ (0 ≤ b ∧ b < l.length)
 | 0, _, _, e => absurd rfl e
 | i + 1, hi, h, e => by
  have ih := cntI_in (a := a) (b := b) i (by omega) (fun j hj => h j (by omega))
  unfold cntI at e
  by_cases c : cntI ts a b i = 0
  ·refine cnt1_in (n := l.length) (t := tt ts i) ?_ 3 (Nat.le_refl _) (by omega)
   have := h i (by omega)
   unfold okTri at this
   rw [Bool.and_eq_true] at this; exact this.1
  ·exact ih c
def cF (n : Nat) (ts : List S58) : Int → Int → Int := edF n (fun a b => cntI ts a b ts.length) n
theorem cF_bad {l : List S31} {way : Int} {ts : List S58} (h3 : 3 ≤ l.length) (hok : ∀ j, j < ts.length → okTri l way (tt ts j) = true) (he : ∀ j, j < l.length → cntI ts ((j : Nat) : Int) ((nxn l.length j : Nat) : Int) ts.length = 1)
  {x y : Int} (hne : cF l.length ts y x ≠ cF l.length ts x y) : refCovB l way ts = false := by
 have hn : ∀ j, nxn l.length j < l.length := fun j => Nat.mod_lt _ (by omega)
 have hin : ∀ u v : Int, cF l.length ts u v ≠ 0 → (0 ≤ u ∧ u < l.length) ∧ (0 ≤ v ∧ v < l.length) := fun u v h => by
  by_cases c : ∃ j : Nat, j < l.length ∧ u = ((nxn l.length j : Nat) : Int) ∧ v = ((j : Nat) : Int)
  ·obtain ⟨j, hj, rfl, rfl⟩ := c
   have := hn j
   omega
  ·unfold cF at h
   rw [edF_out _ _ _ (fun j hj q => c ⟨j, hj, q⟩)] at h
   exact cntI_in _ (Nat.le_refl _) hok h
 have hr : (0 ≤ x ∧ x < l.length) ∧ (0 ≤ y ∧ y < l.length) := by
  by_cases c : cF l.length ts x y = 0
  ·have := hin y x (by omega); exact ⟨this.2, this.1⟩
  ·exact hin x y c
 obtain ⟨a, rfl⟩ : ∃ a : Nat, x = a := ⟨x.toNat, by omega⟩
 obtain ⟨b, rfl⟩ : ∃ b : Nat, y = b := ⟨y.toNat, by omega⟩
 have ha : a < l.length := by omega
 have hb : b < l.length := by omega
 have edge : ∀ u v : Nat, u < l.length → v < l.length → v = nxn l.length u → cF l.length ts v u = cF l.length ts u v := fun u v hu hv e => by
  have h1 : cF l.length ts v u = 1 := by rw [e]; exact edF_in _ _ _ hu
  have h2 : cF l.length ts u v = 1 := by
   unfold cF
   rw [edF_out _ _ _ (fun j hj q => nxn_two h3 hu hj ⟨by omega, by omega⟩), e]
   exact he u hu
  rw [h1, h2]
 by_cases e1 : b = nxn l.length a
 ·exact absurd (edge a b ha hb e1) hne
 ·by_cases e2 : a = nxn l.length b
  ·exact absurd (edge b a hb ha e2).symm hne
  ·refine ref_bad2 ha hb ?_
   rw [chkR_b e1, decide_eq_false e2, Bool.false_or, decide_eq_false_iff_not]
   have o1 : cF l.length ts a b = cntI ts a b ts.length := edF_out _ _ _ (fun j hj q => e2 (edge_q q))
   have o2 : cF l.length ts b a = cntI ts b a ts.length := edF_out _ _ _ (fun j hj q => e1 (edge_q q))
   rw [o1, o2] at hne
   exact fun q => hne q.symm
theorem cF_good {l : List S31} {way : Int} {ts : List S58} (h3 : 3 ≤ l.length) (h1 : (ts.length : Int) = (l.length : Int) - 2) (hok : ∀ j, j < ts.length → okTri l way (tt ts j) = true) (he : ∀ j, j < l.length → cntI ts ((j : Nat) : Int) ((nxn l.length j : Nat) : Int) ts.length = 1 ∧ cntI ts ((nxn l.length j : Nat) : Int) ((j : Nat) : Int) ts.length = 0)
  (hs : ∀ a b : Nat, a < l.length → b < l.length → cF l.length ts a b = cF l.length ts b a) : refCovB l way ts = true := by
 refine ref_good h1 hok (fun a ha b hb => ?_)
 by_cases e1 : b = nxn l.length a
 ·rw [chkR_a e1, e1, decide_eq_true (he a ha).1, decide_eq_true (he a ha).2]; rfl
 ·rw [chkR_b e1]
  by_cases e2 : a = nxn l.length b
  ·rw [decide_eq_true e2]; rfl
  ·have o1 : cF l.length ts a b = cntI ts a b ts.length := edF_out _ _ _ (fun j hj q => e2 (edge_q q))
   have o2 : cF l.length ts b a = cntI ts b a ts.length := edF_out _ _ _ (fun j hj q => e1 (edge_q q))
   have := hs a b ha hb
   rw [o1, o2] at this
   rw [decide_eq_true this, Bool.or_true]
theorem edge_bad {l : List S31} {way : Int} {ts : List S58} {i : Nat} (h3 : 3 ≤ l.length) (hi : i < l.length) (h : ¬ (cntI ts ((i : Nat) : Int) ((nxn l.length i : Nat) : Int) ts.length = 1 ∧ cntI ts ((nxn l.length i : Nat) : Int) ((i : Nat) : Int) ts.length = 0)) : refCovB l way ts = false := by
 refine ref_bad2 (b := nxn l.length i) hi (Nat.mod_lt _ (by omega)) ?_
 rw [chkR_a rfl]
 by_cases c : cntI ts ((i : Nat) : Int) ((nxn l.length i : Nat) : Int) ts.length = 1
 ·rw [decide_eq_false (fun q => h ⟨c, q⟩), Bool.and_false]
 ·rw [decide_eq_false c, Bool.false_and]
end Go.Proofs.Ythaklbjcjoolcaa.P
namespace Go.Proofs.Ythaklbjcjoolcaa.P
open Go.RowKit YthaklbjcjoolcaaW.PrintWords YthaklbjcjoolcaaW.PrintLast YthaklbjcjoolcaaW.PrintMore
attribute [local go_sem high] eqA31
def ints (L : List Nat) : List Int := L.map fun i : Nat => (i : Int)
theorem ints_len (L : List Nat) : (ints L).length = L.length := List.length_map ..
theorem rd_ints (L : List Nat) (i : Nat) (h : i < L.length) : rd (ints L) (i : Int) = (nat_at L i : Int) := by
  unfold rd ints
  rw [Int.toNat_natCast, List.getD_eq_getElem?_getD, List.getElem?_map, List.getElem?_eq_getElem h, nat_at_eq L i h]; rfl
theorem rd31 (l : List S31) (i : Nat) : rd_T31 l (i : Int) = pt l i := by unfold rd_T31 pt; rw [Int.toNat_natCast]
theorem lt_N {a n m : Nat} (h : a < n) (e : m = n) : ((a : Nat) : Int) < ((m : Nat) : Int) := by omega
theorem mod_a {k n : Nat} (hk : k < n) (hn : n ≤ 512) : Int.tmod (wrap64 (((k : Nat) : Int) + ((n : Nat) : Int) - 1)) ((n : Nat) : Int) = ((prv n k : Nat) : Int) := by
  rw [w64i (by omega) (by omega), show ((k : Nat) : Int) + ((n : Nat) : Int) - 1 = ((k + n - 1 : Nat) : Int) by omega]; rfl
theorem mod_b {k n : Nat} (hk : k < n) (hn : n ≤ 512) : Int.tmod (wrap64 (((k : Nat) : Int) + 1)) ((n : Nat) : Int) = ((nxt2 n k : Nat) : Int) := by
  rw [w64i (by omega) (by omega), show ((k : Nat) : Int) + 1 = ((k + 1 : Nat) : Int) by omega]; rfl
theorem mod_c {k n : Nat} (hk : k < n) (hn : n ≤ 512) : Int.tmod (((k : Nat) : Int) + ((n : Nat) : Int) - 1) ((n : Nat) : Int) = ((prv n k : Nat) : Int) := by
  rw [show ((k : Nat) : Int) + ((n : Nat) : Int) - 1 = ((k + n - 1 : Nat) : Int) by omega]; rfl
theorem mod_d {k n : Nat} (hk : k < n) (hn : n ≤ 512) : Int.tmod (((k : Nat) : Int) + 1) ((n : Nat) : Int) = ((nxt2 n k : Nat) : Int) := by
  rw [show ((k : Nat) : Int) + 1 = ((k + 1 : Nat) : Int) by omega]; rfl
theorem mod_w1 {k n : Nat} (hk : k < n) (hn : n ≤ 512) : IntKind.i64.wrap (((k : Nat) : Int) + ((n : Nat) : Int)) = ((k : Nat) : Int) + ((n : Nat) : Int) := IntWalk.i64_in _ (by omega)
theorem mod_w3 {k n : Nat} (hk : k < n) (hn : n ≤ 512) : IntKind.i64.wrap (((k : Nat) : Int) + 1) = ((k : Nat) : Int) + 1 := IntWalk.i64_in _ (by omega)
theorem succ_n {b n : Nat} (h : b < n) (hn : n ≤ 512) : wrap64 (((b : Nat) : Int) + 1) = ((b + 1 : Nat) : Int) := w64i (by omega) (by omega)
def B3 (g1 g2 g3 : Nat) (a b c : S31) (W : World) : Prop := Bx W g1 a.f0 a.f1 ∧ Bx W g2 b.f0 b.f1 ∧ Bx W g3 c.f0 c.f1
theorem B3.below {g1 g2 g3 : Nat} {a b c : S31} {W W' : World} (h : B3 g1 g2 g3 a b c W) (k : Below W.heap.size W W') : B3 g1 g2 g3 a b c W' := ⟨blk_below h.1 k, blk_below h.2.1 k, blk_below h.2.2 k⟩
theorem B3.wr {g1 g2 g3 g : Nat} {a b c : S31} {W W' : World} {x y : Int} (h : B3 g1 g2 g3 a b c W) (n : g1 ≠ g ∧ g2 ≠ g ∧ g3 ≠ g) (k : Wr W W' g x y) : B3 g1 g2 g3 a b c W' := ⟨k.bx n.1 h.1, k.bx n.2.1 h.2.1, k.bx n.2.2 h.2.2⟩
theorem B3.ne {g1 g2 g3 g : Nat} {a b c : S31} {W : World} (h : B3 g1 g2 g3 a b c W) (e : g = W.heap.size) : g1 ≠ g ∧ g2 ≠ g ∧ g3 ≠ g := by
  have h1 := blk_lt h.1; have h2 := blk_lt h.2.1; have h3 := blk_lt h.2.2
  omega
theorem Bx.cells {W : World} {g : Nat} {x y : Int} (h : Bx W g x y) : W.cell? ⟨g, 0, none⟩ = some (.int .i64 x) ∧ W.cell? ⟨g, 1, none⟩ = some (.int .i64 y) := ⟨(blk_cell h 0).trans rfl, (blk_cell h 1).trans rfl⟩
theorem inB_eq {way : Int} (hw : way = 1 ∨ way = -1) (a b c p : S31) : inB way a b c p = (((!(p.f0 == a.f0) || !(p.f1 == a.f1)) && ((!(p.f0 == b.f0) || !(p.f1 == b.f1)) && (!(p.f0 == c.f0) || !(p.f1 == c.f1)))) &&
    ((sgn (crs a b p) != wrap64 (-way)) && ((sgn (crs b c p) != wrap64 (-way)) && (sgn (crs c a p) != wrap64 (-way))))) := by
  have e : ∀ q : S31, (!(p.f0 == q.f0) || !(p.f1 == q.f1)) = !decide (p = q) := fun q => by
    by_cases h : p = q
    · rw [h]; simp
    · rw [decide_eq_false h]
      by_cases h0 : p.f0 = q.f0
      · by_cases h1 : p.f1 = q.f1
        · exact absurd (by cases p; cases q; simp at h0 h1; simp [h0, h1]) h
        · simp [h1]
      · simp [h0]
  have en : wrap64 (-way) = -way := w64i (by omega) (by omega)
  have t : ∀ x : Int, (x != wrap64 (-way)) = !decide (x = -way) := fun x => by
    rw [en]; by_cases h : x = -way
    · rw [decide_eq_true h, h]; simp
    · rw [decide_eq_false h]; simpa using h
  rw [e, e, e, t, t, t]; rfl
theorem bools6 (a b c x y z : Bool) : a = false ∨ (a = true ∧ b = false) ∨ (a = true ∧ b = true ∧ c = false) ∨ (a = true ∧ b = true ∧ c = true ∧ x = false) ∨ (a = true ∧ b = true ∧ c = true ∧ x = true ∧ y = false) ∨ (a = true ∧ b = true ∧ c = true ∧ x = true ∧ y = true ∧ z = false) ∨ (a = true ∧ b = true ∧ c = true ∧ x = true ∧ y = true ∧ z = true) := by
  cases a <;> cases b <;> cases c <;> cases x <;> cases y <;> cases z <;> simp
theorem ear_no {L : List Nat} {f : Nat → Bool} {j : Nat} (hj : j < L.length) (h : f (nat_at L j) = true) : (L.all fun i => !f i) = false := by
  rw [List.all_eq_false]; exact ⟨_, nat_mem hj, by rw [h]; decide⟩
theorem ear_all {L : List Nat} {f : Nat → Bool} (h : ∀ j, j < L.length → f (nat_at L j) = false) : (L.all fun i => !f i) = true := by
  rw [List.all_eq_true]
  intro x hx
  obtain ⟨j, hj, e⟩ := List.getElem_of_mem hx
  have := h j hj
  rw [nat_at_eq L j hj, e] at this
  rw [this]; rfl
def earR.T2 : Bool × List (List Nat × List Nat) := (true, [([], []), ([], []), ([], []), ([], []), ([2, 3], [2, 3]), ([4], [4]), ([], []), ([5, 6], [5, 6]), ([1, 7], [1, 7]), ([8], [8]), ([0, 9], [0, 9]), ([10], [10]), ([], []), ([], []), ([], []), ([13, 14], [13, 14]), ([15], [15]), ([12, 16], [12, 16]), ([17], [17]), ([], []), ([], []), ([], []), ([21], [21]), ([], []), ([22, 23], [22, 23]), ([20, 24], [20, 24]), ([25], [25]), ([19, 26], [19, 26]), ([27], [27]), ([], []), ([], []), ([], []), ([29, 11, 0, 1, 2, 3, 4, 5, 6, 7, 8, 9, 10, 11, 29, 30, 31], [11, 29]), ([30, 18, 32, 0, 1, 2, 3, 4, 5, 6, 7, 8, 9, 10, 11, 12, 13, 14, 15, 16, 17, 18, 29, 30, 31, 32], [18, 30]), ([31, 28, 33, 0, 1, 2, 3, 4, 5, 6, 7, 8, 9, 10, 11, 12, 13, 14, 15, 16, 17, 18, 19, 20, 21, 22, 23, 24, 25, 26, 27, 28, 29, 30, 31, 32, 33], [28, 31])])
def earR.B2 : List Nat := [0, 0, 0, 0, 12, 28, 0, 124, 254, 510, 1023, 2047, 0, 0, 0, 24576, 57344, 126976, 258048, 0, 0, 0, 2097152, 0, 14680064, 32505856, 66060288, 133693440, 267911168, 0, 0, 0, 3758100479, 8053587967, 17179869183]
theorem earR.tab2 : rtab .any (opsOf Try.f78 2) = earR.T2 := by kernel_rfl
theorem earR.bits2 : waitsOk earR.T2.2 earR.B2 = true := by kernel_rfl
set_option maxHeartbeats 8000000 in
set_option maxRecDepth 100000 in
theorem isear_calls (A0 : Option Addr) (c0 : Nat) (l0 : List S31) (A1 : Option Addr) (c1 : Nat) (L : List Nat) (k : Nat) (way : Int) (w : World) (hr0 : Kd.C k31 w A0 l0.length l0) (hc0 : l0.length ≤ c0) (hr1 : Kd.C (Kd.int .i64) w A1 (ints L).length (ints L)) (hc1 : (ints L).length ≤ c1)
    (hok : allOk l0 = true) (hL : ∀ i ∈ L, i < l0.length) (hs : L.length ≤ 512) (hw : way = 1 ∨ way = -1) (hk : k < L.length) :
    Calls Try.prog 78 #[.slice A0 l0.length c0, .slice A1 (ints L).length c1, .int .i64 (k : Nat), .int .i64 way] w fun e w' => e = .returned (.bool (earB l0 L k way)) ∧ Below w.heap.size w w' := by
  have hlen : (ints L).length = L.length := ints_len L
  have n1 : prv L.length k < L.length := Nat.mod_lt _ (by omega)
  have n2 : nxt2 L.length k < L.length := Nat.mod_lt _ (by omega)
  have hk31 := Kd.at_int hr1 ((k : Nat) : Int) (Int.natCast_nonneg _) (lt_N hk hlen)
  obtain ⟨ad, rfl, _⟩ := hk31
  have hy2 := hL _ (nat_mem hk)
  obtain ⟨ap, rfl, _⟩ := at_T31 hr0 ((nat_at L k : Nat) : Int) (Int.natCast_nonneg _) (lt_N hy2 rfl)
  have HI := Aside0.mk (show ∀ W, Below w.heap.size w W → ∀ i, i < L.length → W.cell? (ad.add i) = some (.int .i64 ((nat_at L i : Nat) : Int)) from fun W hb i hi => by
    obtain ⟨ad2, e2, hx⟩ := Kd.at_int hr1 ((i : Nat) : Int) (Int.natCast_nonneg _) (lt_N hi hlen)
    obtain rfl : ad = ad2 := by injection e2
    rw [rd_ints L _ hi, Int.toNat_natCast] at hx
    exact (hb.cell (World.block_lt_of_cell? w _ hx)).trans hx)
  have HP := Aside0.mk (show ∀ W, Below w.heap.size w W → ∀ i, i < l0.length → W.cell? (ap.add (i * 2)) = some (.int .i64 (pt l0 i).f0) ∧ W.cell? ⟨(ap.add (i * 2)).block, (ap.add (i * 2)).off + 1, none⟩ = some (.int .i64 (pt l0 i).f1) from fun W hb i hi => by
    obtain ⟨ap2, e2, hx, hy⟩ := at_T31 hr0 ((i : Nat) : Int) (Int.natCast_nonneg _) (lt_N hi rfl)
    obtain rfl : ap = ap2 := by injection e2
    rw [rd31, Int.toNat_natCast] at hx hy
    exact ⟨(hb.cell (World.block_lt_of_cell? w _ hx)).trans hx, (hb.cell (World.block_lt_of_cell? w _ hy)).trans hy⟩)
  have hE : earB l0 L k way = (decide (sgn (crs (pt l0 (nat_at L (prv L.length k))) (pt l0 (nat_at L k)) (pt l0 (nat_at L (nxt2 L.length k)))) = way) && L.all fun i => !inB way (pt l0 (nat_at L (prv L.length k))) (pt l0 (nat_at L k)) (pt l0 (nat_at L (nxt2 L.length k))) (pt l0 i)) := rfl
  have hy1 := hL _ (nat_mem n1)
  have hy3 := hL _ (nat_mem n2)
  have oa := pt_ok hok hy1
  have ob := pt_ok hok hy2
  have oc := pt_ok hok hy3
  have hN : (ints L).length ≤ 512 := by omega
  have hkN : k < (ints L).length := by omega
  have hm1 := mod_a hkN hN
  have hm2 := mod_b hkN hN
  have hm3 := mod_c hkN hN
  have hm4 := mod_d hkN hN
  have hs1 := mod_w1 hkN hN
  have hs3 := mod_w3 hkN hN
  rw [show prv (ints L).length k = prv L.length k by rw [hlen]] at hm1 hm3
  rw [show nxt2 (ints L).length k = nxt2 L.length k by rw [hlen]] at hm2 hm4
  have hz : ((((ints L).length : Nat) : Int) == 0) = false := by rw [beq_eq_false_iff_ne]; omega
  have hz1 : ((((ints L).length : Nat) : Int) != 0) = true := by rw [bne_iff_ne]; omega
  have hz3 : ¬ (ints L).length = 0 := by omega
  have hz4 : ¬ (((ints L).length : Nat) : Int) = 0 := by omega
  have hz2 : ¬ ints L = [] := fun e => by rw [e] at hz3; simp at hz3
  have i1 : ((prv L.length k : Nat) : Int) < (((ints L).length : Nat) : Int) := lt_N n1 hlen
  have i2 : ((k : Nat) : Int) < (((ints L).length : Nat) : Int) := lt_N hk hlen
  have i3 : ((nxt2 L.length k : Nat) : Int) < (((ints L).length : Nat) : Int) := lt_N n2 hlen
  have j1 : ((nat_at L (prv L.length k) : Nat) : Int) < ((l0.length : Nat) : Int) := lt_N hy1 rfl
  have j2 : ((nat_at L k : Nat) : Int) < ((l0.length : Nat) : Int) := lt_N hy2 rfl
  have j3 : ((nat_at L (nxt2 L.length k) : Nat) : Int) < ((l0.length : Nat) : Int) := lt_N hy3 rfl
  have HX := Aside0.mk (show ∀ W, Below w.heap.size w W → W.cell? (ad.add (prv L.length k)) = some (.int .i64 ((nat_at L (prv L.length k) : Nat) : Int)) ∧ W.cell? (ad.add k) = some (.int .i64 ((nat_at L k : Nat) : Int)) ∧ W.cell? (ad.add (nxt2 L.length k)) = some (.int .i64 ((nat_at L (nxt2 L.length k) : Nat) : Int)) ∧
      W.cell? (ap.add (nat_at L (prv L.length k) * 2)) = some (.int .i64 (pt l0 (nat_at L (prv L.length k))).f0) ∧ W.cell? ⟨(ap.add (nat_at L (prv L.length k) * 2)).block, (ap.add (nat_at L (prv L.length k) * 2)).off + 1, none⟩ = some (.int .i64 (pt l0 (nat_at L (prv L.length k))).f1) ∧
      W.cell? (ap.add (nat_at L k * 2)) = some (.int .i64 (pt l0 (nat_at L k)).f0) ∧ W.cell? ⟨(ap.add (nat_at L k * 2)).block, (ap.add (nat_at L k * 2)).off + 1, none⟩ = some (.int .i64 (pt l0 (nat_at L k)).f1) ∧
      W.cell? (ap.add (nat_at L (nxt2 L.length k) * 2)) = some (.int .i64 (pt l0 (nat_at L (nxt2 L.length k))).f0) ∧ W.cell? ⟨(ap.add (nat_at L (nxt2 L.length k) * 2)).block, (ap.add (nat_at L (nxt2 L.length k) * 2)).off + 1, none⟩ = some (.int .i64 (pt l0 (nat_at L (nxt2 L.length k))).f1) from
    fun W hb => ⟨HI.out W hb _ n1, HI.out W hb _ hk, HI.out W hb _ n2, (HP.out W hb _ hy1).1, (HP.out W hb _ hy1).2, (HP.out W hb _ hy2).1, (HP.out W hb _ hy2).2, (HP.out W hb _ hy3).1, (HP.out W hb _ hy3).2⟩)
  rw [hE]
  clear hE hy1 hy2 hy3 n1 n2 hkN hN hr0 hr1
  generalize prv L.length k = p1 at *
  generalize nxt2 L.length k = p2 at *
  generalize nat_at L p1 = y1 at *
  generalize nat_at L k = y2 at *
  generalize nat_at L p2 = y3 at *
  generalize pt l0 y1 = pa at *
  generalize pt l0 y2 = pb at *
  generalize pt l0 y3 = pc at *
  have HT0 := Aside0.mk (fun W => plane_turn.calls pa.f0 pa.f1 pb.f0 pb.f1 pc.f0 pc.f1 _ W (turn_is oa ob oc))
  have HTL := Aside0.mk (fun (p : S31) (h : okPt p = true) => (⟨fun W => plane_turn.calls pa.f0 pa.f1 pb.f0 pb.f1 p.f0 p.f1 _ W (turn_is oa ob h), fun W => plane_turn.calls pb.f0 pb.f1 pc.f0 pc.f1 p.f0 p.f1 _ W (turn_is ob oc h), fun W => plane_turn.calls pc.f0 pc.f1 pa.f0 pa.f1 p.f0 p.f1 _ W (turn_is oc oa h)⟩ : (∀ W, _) ∧ (∀ W, _) ∧ (∀ W, _)))
  have HF := Aside0.mk (show (∀ i ∈ L, i < l0.length) ∧ allOk l0 = true ∧ L.length ≤ 512 ∧ (way = 1 ∨ way = -1) ∧ k < L.length ∧ (ints L).length = L.length from ⟨hL, hok, hs, hw, hk, hlen⟩)
  have HBd := Aside0.mk (below_drew1 (Below.refl w.heap.size w))
  have hu31 := Try.underlying31
  have hu78 := Try.underlying78
  clear hL hok hs hw hk hlen oa ob oc
  go_enter Try.func78, Try.ntmps78
  go_wp2
  refine start_ (n := 35) (S := fun W => Below w.heap.size w W) (ds := []) (Bs 0 35) (by kernel_rfl) rfl rfl HBd.out (fun hHeld => ?_)
  refine with_tabW earR.tab2 earR.bits2 (fun HT_ HW_ => ?_)
  refine pu 0 18 (Bs 1 35) HT_ ?_
  refine pu 1 19 (Bs 2 35) HT_ ?_
  refine pu 2 20 (Bs 3 35) HT_ ?_
  refine pu 3 21 (Bs 4 35) HT_ ?_
  refine pu 4 22 (Bs 5 35) HT_ ?_
  refine pu 5 23 (Bs 6 35) HT_ ?_
  refine pu 6 24 (Bs 7 35) HT_ ?_
  refine pu 7 25 (Bs 8 35) HT_ ?_
  refine pu 8 26 (Bs 9 35) HT_ ?_
  refine pu 12 30 (Br [9,3,1,22]) HT_ ?_
  refine pu 13 31 (Br [9,3,2,21]) HT_ ?_
  refine pu 14 32 (Br [9,3,3,20]) HT_ ?_
  refine pu 15 33 (Br [9,3,4,19]) HT_ ?_
  refine pu 19 37 (Br [9,3,4,3,1,15]) HT_ ?_
  refine pu 20 38 (Br [9,3,4,3,2,14]) HT_ ?_
  refine pu 21 39 (Br [9,3,4,3,3,13]) HT_ ?_
  refine pu 22 40 (Br [9,3,4,3,4,12]) HT_ ?_
  refine pu 23 41 (Br [9,3,4,3,5,11]) HT_ ?_
  refine pu 24 42 (Br [9,3,4,3,6,10]) HT_ ?_
  refine pu 25 43 (Br [9,3,4,3,7,9]) HT_ ?_
  refine ta 9 27 (Br [10,2,4,3,7,9]) HT_ HW_ hHeld ?_ (hy := by intro W hb; obtain ⟨x1, x2, x3, a0, a1, b0, b1, d0, d1⟩ := HX.out W hb; go_simp; with_reducible rfl)
  refine pu 10 28 (Br [11,1,4,3,7,9]) HT_ ?_
  refine ta 11 29 (Br [16,3,7,9]) HT_ HW_ hHeld ?_ (hy := by intro W hb; obtain ⟨x1, x2, x3, a0, a1, b0, b1, d0, d1⟩ := HX.out W hb; go_simp; with_reducible rfl)
  refine ta 16 34 (Br [17,2,7,9]) HT_ HW_ hHeld ?_ (hy := by intro W hb; obtain ⟨x1, x2, x3, a0, a1, b0, b1, d0, d1⟩ := HX.out W hb; go_simp; with_reducible rfl)
  refine pu 17 35 (Br [18,1,7,9]) HT_ ?_
  refine ta 18 36 (Bs 26 35) HT_ HW_ hHeld ?_ (hy := by intro W hb; obtain ⟨x1, x2, x3, a0, a1, b0, b1, d0, d1⟩ := HX.out W hb; go_simp; with_reducible rfl)
  refine ta 26 44 (Bs 27 35) HT_ HW_ hHeld ?_ (hy := by intro W hb; obtain ⟨x1, x2, x3, a0, a1, b0, b1, d0, d1⟩ := HX.out W hb; go_simp; with_reducible rfl)
  refine pu 27 45 (Bs 28 35) HT_ ?_
  refine ta 28 46 (Bs 29 35) HT_ HW_ hHeld ?_ (hy := by intro W hb; obtain ⟨x1, x2, x3, a0, a1, b0, b1, d0, d1⟩ := HX.out W hb; go_simp; with_reducible rfl)
  refine boxes3 (i := 29) (j := 30) (k := 31) (Ni := 10) (Nj := 11) (Nk := 12) (ob := .cells #[.int .i64 0, .int .i64 0] 31 (0, 0)) (Bs 30 35) (Br [29,1,1,4]) (Br [29,2,1,3]) (Bs 31 35) (Br [30,1,1,3]) (Br [29,1,2,3]) (Bs 32 35) rfl rfl rfl rfl rfl rfl (fun a W => ⟨rfl, by go_simp⟩) (fun a W => ⟨rfl, by go_simp⟩) (fun a W => ⟨rfl, by go_simp⟩) (three_of HT_.out (by kernel_rfl)) (two_of HT_.out (by kernel_rfl)) (two_of HT_.out (by kernel_rfl)) (two_of HT_.out (by kernel_rfl)) (one_of HT_.out (by kernel_rfl)) (one_of HT_.out (by kernel_rfl)) (one_of HT_.out (by kernel_rfl)) (by decide) (by decide) (by decide) (by decide) (by decide) (by decide) (fun W h => below_alloc h _) hHeld (fun g1 g2 g3 w3 hS3 k1 k2 k3 e1 e2 e3 d1 d2 d3 hb3 => ?_)
  have HS3 := Aside0.mk hS3; have K1 := Aside0.mk k1; have K2 := Aside0.mk k2; have K3 := Aside0.mk k3; have HN := Aside0.mk (show g2 ≠ g1 ∧ g3 ≠ g1 ∧ g1 ≠ g2 ∧ g3 ≠ g2 from ⟨Ne.symm d1, Ne.symm d2, d1, Ne.symm d3⟩); have HG := Aside0.mk (show w.heap.size ≤ g1 ∧ w.heap.size ≤ g2 ∧ w.heap.size ≤ g3 from by have := below_size HBd.out; omega)
  clear hS3 k1 k2 k3 e1 e2 e3 d1 d2 d3 hb3 hHeld
  refine nm 12 ?_
  refine one_ (i := 32) (N := none) (Bs 33 35) rfl rfl (one_of HT_.out (by kernel_rfl)) (by decide) (fun K hK => ?_)
  refine st_step K1.out (fun w4 h4 => hK.out _ _ (h4.below HS3.out HG.out.1) (fun _ => ?_))
  have HS4 := Aside0.mk (h4.below HS3.out HG.out.1); have L1 := Aside0.mk h4.box; have L2 := Aside0.mk (h4.bx HN.out.1 K2.out); have L3 := Aside0.mk (h4.bx HN.out.2.1 K3.out); clear h4 hK K
  refine one_ (i := 33) (N := none) (Bs 34 35) rfl rfl (one_of HT_.out (by kernel_rfl)) (by decide) (fun K hK => ?_)
  refine st_step L2.out (fun w5 h5 => hK.out _ _ (h5.below HS4.out HG.out.2.1) (fun _ => ?_))
  have HS5 := Aside0.mk (h5.below HS4.out HG.out.2.1); have M1 := Aside0.mk (h5.bx HN.out.2.2.1 L1.out); have M2 := Aside0.mk h5.box; have M3 := Aside0.mk (h5.bx HN.out.2.2.2 L3.out); clear h5 hK K
  refine one_ (i := 34) (N := none) (Bs 35 35) rfl rfl (one_of HT_.out (by kernel_rfl)) (by decide) (fun K hK => ?_)
  refine st_step M3.out (fun w6 h6 => hK.out _ _ (h6.below HS5.out HG.out.2.2) (fun _ => ?_))
  have HS6 := Aside0.mk (h6.below HS5.out HG.out.2.2); have HX3 := Aside0.mk (show B3 g1 g2 g3 pa pb pc w6 from ⟨h6.bx (Ne.symm HN.out.2.1) M1.out, h6.bx (Ne.symm HN.out.2.2.2) M2.out, h6.box⟩); clear h6 hK K
  refine done_ (done_of HT_.out (by kernel_rfl)) ?_
  clear hm1 hm2 hm3 hm4 hs1 hs3 hz hz1 hz2 hz3 hz4 i1 i2 i3 j1 j2 j3 HX HS3 HS4 HS5 K1 K2 K3 L1 L2 L3 M1 M2 M3 HBd HW_ HT_ HG HN
  obtain ⟨c10, c11⟩ := HX3.out.1.cells
  obtain ⟨c20, c21⟩ := HX3.out.2.1.cells
  obtain ⟨c30, c31⟩ := HX3.out.2.2.cells
  by_cases ht : sgn (crs pa pb pc) = way
  · have htb : (sgn (crs pa pb pc) != way) = false := bne_eq_false_iff_eq.mpr ht
    have hD := Aside0.mk (decide_eq_true ht)
    clear ht
    go_wp2_with (first | (go_at_call 61; go_must (refine (HT0.out _).mono ?_); rintro e w7 ⟨rfl, hb7⟩; have HB := Aside0.mk (below_step HS6.out hb7); have H3 := Aside0.mk (HX3.out.below hb7); clear hb7 c10 c11 c20 c21 c30 c31))
    go_loopg [55] L.length (fun q v55 wr => ∃ j : Nat, j + q = L.length ∧ v55 = .int .i64 j ∧ Aside0 (∀ i, i < j → inB way pa pb pc (pt l0 (nat_at L i)) = false) ∧ Aside0 (B3 g1 g2 g3 pa pb pc wr) ∧ Aside0 (Below w.heap.size w wr))
    case atStart => exact ⟨0, Nat.zero_add _, rfl, ⟨fun i h => absurd h (by omega)⟩, H3, HB⟩
    case round =>
      clear HB H3 HX3 HS6 htb HT0
      obtain ⟨j, hj, rfl, HJ, H3, HB⟩ := hrel
      by_cases hlt : j < L.length
      · obtain ⟨gq, rfl⟩ : ∃ q, gk = q + 1 := ⟨gk - 1, by omega⟩
        have HQ := Aside0.mk (show j + 1 + gq = L.length by omega)
        have q1 := lt_N hlt HF.out.2.2.2.2.2
        have hin := HF.out.1 _ (nat_mem hlt)
        have q2 : ((nat_at L j : Nat) : Int) < ((l0.length : Nat) : Int) := lt_N hin rfl
        have x1 := HI.out _ HB.out j hlt
        obtain ⟨x2, x3⟩ := HP.out _ HB.out _ hin
        have HT := Aside0.mk (HTL.out _ (pt_ok HF.out.2.1 hin))
        have hE := inB_eq HF.out.2.2.2.1 pa pb pc (pt l0 (nat_at L j))
        have HEE : Aside0 (∃ i, i < L.length ∧ j = i ∧ inB way pa pb pc (pt l0 (nat_at L j)) = inB way pa pb pc (pt l0 (nat_at L i))) := ⟨j, hlt, rfl, rfl⟩
        obtain ⟨c10, c11⟩ := H3.out.1.cells
        obtain ⟨c20, c21⟩ := H3.out.2.1.cells
        obtain ⟨c30, c31⟩ := H3.out.2.2.cells
        have HJ1 : Aside0 (inB way pa pb pc (pt l0 (nat_at L j)) = false → ∀ i, i < j + 1 → inB way pa pb pc (pt l0 (nat_at L i)) = false) := ⟨fun h i hi => by
          by_cases e : i = j
          · rw [e]; exact h
          · exact HJ.out i (by omega)⟩
        have HNO : Aside0 (inB way pa pb pc (pt l0 (nat_at L j)) = true → (L.all fun i => !inB way pa pb pc (pt l0 i)) = false) := ⟨fun h => ear_no (f := fun i => inB way pa pb pc (pt l0 i)) hlt h⟩
        clear HJ HEE hin
        generalize nat_at L j = y at *
        generalize pt l0 y = p at *
        obtain ⟨xa, ha⟩ : ∃ x, (!(p.f0 == pa.f0) || !(p.f1 == pa.f1)) = x := ⟨_, rfl⟩
        obtain ⟨xb, hb⟩ : ∃ x, (!(p.f0 == pb.f0) || !(p.f1 == pb.f1)) = x := ⟨_, rfl⟩
        obtain ⟨xc, hc⟩ : ∃ x, (!(p.f0 == pc.f0) || !(p.f1 == pc.f1)) = x := ⟨_, rfl⟩
        obtain ⟨t1, h1⟩ : ∃ x, (sgn (crs pa pb p) != wrap64 (-way)) = x := ⟨_, rfl⟩
        obtain ⟨t2, h2⟩ : ∃ x, (sgn (crs pb pc p) != wrap64 (-way)) = x := ⟨_, rfl⟩
        obtain ⟨t3, h3⟩ : ∃ x, (sgn (crs pc pa p) != wrap64 (-way)) = x := ⟨_, rfl⟩
        rw [ha, hb, hc, h1, h2, h3] at hE
        have HE := Aside0.mk hE
        clear hE hj
        have hsj := Aside0.mk (succ_n hlt HF.out.2.2.1)
        clear hlt
        rcases bools6 xa xb xc t1 t2 t3 with rfl | ⟨rfl, rfl⟩ | ⟨rfl, rfl, rfl⟩ | ⟨rfl, rfl, rfl, rfl⟩ | ⟨rfl, rfl, rfl, rfl, rfl⟩ | ⟨rfl, rfl, rfl, rfl, rfl, rfl⟩ | ⟨rfl, rfl, rfl, rfl, rfl, rfl⟩
        all_goals
          as_aux_lemma =>
            go_wp2_with (first
              | ((with_reducible refine gate_dst (N := 15) rfl ?_); refine bxe 15 #[.int .i64 0, .int .i64 0] 31 ?_; intro gp_ hg w8 hbox hb8; have HX8 := Aside0.mk hbox; have HN8 := Aside0.mk (H3.out.ne hg); have HG8 := Aside0.mk (lG (w := w) hg); have H38 := Aside0.mk (H3.out.below hb8); have HB8 := Aside0.mk (below_step HB.out hb8); clear hg hbox hb8)
              | ((with_reducible refine gate_store (t := 31) (p := 15) rfl ?_); refine st_list HX8.out rfl rfl rfl rfl rfl ?_; intro w9 h9; have HX := Aside0.mk h9.box; have H3 := Aside0.mk (H38.out.wr HN8.out h9); have HB := Aside0.mk (h9.below HB8.out HG8.out); obtain ⟨c00, c01⟩ := HX.out.cells; obtain ⟨c10, c11⟩ := H3.out.1.cells; obtain ⟨c20, c21⟩ := H3.out.2.1.cells; obtain ⟨c30, c31⟩ := H3.out.2.2.cells; clear h9)
              | (go_at_call 61; (first | (with_reducible refine (HT.out.1 _).mono ?_) | (with_reducible refine (HT.out.2.1 _).mono ?_) | (with_reducible refine (HT.out.2.2 _).mono ?_)); rintro e w10 ⟨rfl, hb10⟩; have HX := Aside0.mk (blk_below HX.out hb10); have H3 := Aside0.mk (H3.out.below hb10); have HB := Aside0.mk (below_step HB.out hb10); obtain ⟨c00, c01⟩ := Bx.cells HX.out; obtain ⟨c10, c11⟩ := H3.out.1.cells; obtain ⟨c20, c21⟩ := H3.out.2.1.cells; obtain ⟨c30, c31⟩ := H3.out.2.2.cells; clear hb10))
            first
            | (go_roundg gq
               case rel => exact ⟨j + 1, HQ.out, by rw [hsj.out], ⟨HJ1.out (by rw [HE.out]; simp)⟩, H3, HB⟩
               case measure => exact Nat.lt_succ_self _)
            | (go_ret; exact ⟨by rw [hD.out, Bool.true_and, HNO.out (by rw [HE.out]; rfl)]; rfl, HB.out⟩)
      · obtain rfl : j = (ints L).length := by have := HF.out.2.2.2.2.2; omega
        clear hj hlt
        go_wp2
        go_ret
        exact ⟨by rw [hD.out, Bool.true_and, ear_all (f := fun i => inB way pa pb pc (pt l0 i)) (fun j h => HJ.out j (by have := HF.out.2.2.2.2.2; omega))]; rfl, HB.out⟩
  · have htb : (sgn (crs pa pb pc) != way) = true := bne_iff_ne.mpr ht
    have hD := Aside0.mk (decide_eq_false ht)
    clear ht
    go_wp2_with (first | (go_at_call 61; go_must (refine (HT0.out _).mono ?_); rintro e w7 ⟨rfl, hb7⟩; have HB := Aside0.mk (below_step HS6.out hb7); clear hb7))
    go_ret
    exact ⟨by rw [hD.out, Bool.false_and]; rfl, HB.out⟩
end Go.Proofs.Ythaklbjcjoolcaa.P
namespace Go.Proofs.Ythaklbjcjoolcaa.P
open Go.RowKit Go.Shelf Go.Sort YthaklbjcjoolcaaW.PrintWords YthaklbjcjoolcaaW.PrintLast YthaklbjcjoolcaaW.PrintMore
theorem info58 : (Try.prog.info? 58).map (fun i => (i.zero, i.size, i.bytes)) = some (some (.agg #[.int .i64 0, .int .i64 0, .int .i64 0]), 3, 24) := by kernel_rfl
theorem ints_snoc (n : Nat) : ints (List.range (n + 1)) = ints (List.range n) ++ [(n : Int)] := by unfold ints; rw [List.range_succ, List.map_append]; rfl
theorem ints_erase (L : List Nat) (k : Nat) : (ints L).eraseIdx k = ints (L.eraseIdx k) := by
 unfold ints; rw [List.eraseIdx_eq_take_drop_succ, List.eraseIdx_eq_take_drop_succ, List.map_append, List.map_take, List.map_drop]
theorem simple_ev (l : List S31) : ∃ k, plane_Simple.f k l = some (simpleS l) := (prog_simple l).rounds
set_option maxHeartbeats 4000000 in
set_option maxRecDepth 100000 in
theorem tri_no (A0 : Option Addr) (c0 : Nat) (l0 : List S31) (w : World) (hr0 : Kd.C k31 w A0 l0.length l0) (hc0 : l0.length ≤ c0) (hs : simpleS l0 = false) :
  Calls Try.prog 50 #[.slice A0 l0.length c0] w fun e w' => e = .returned (.tuple #[.slice none 0 0, .int .i64 2]) ∧ Below w.heap.size w w' := by
 obtain ⟨k, hk⟩ := simple_ev l0
 rw [hs] at hk
 have HS := Aside0.mk (fun W (hb : Below w.heap.size w W) => plane_Simple.calls k A0 c0 l0 _ W (Kd.C_below hr0 hb) hc0 hk)
 have HB := Aside0.mk (Below.refl w.heap.size w)
 clear hr0 hk hs
 go_enter Try.func50, Try.ntmps50
 go_wp2_with (first | (go_at_call 25; go_must (refine (HS.out _ HB.out).mono ?_); rintro e w1 ⟨rfl, hb1⟩; have HB1 := Aside0.mk (below_step HB.out hb1); clear hb1))
 go_ret2
 exact ⟨rfl, HB1.out⟩
def triR.T17 : Bool × List (List Nat × List Nat) := (true, [([], []), ([], []), ([], []), ([], []), ([2, 3], [2, 3]), ([4], [4]), ([], []), ([5, 6], [5, 6]), ([1, 7], [1, 7]), ([8], [8]), ([], []), ([], []), ([10, 11], [10, 11]), ([12], [12]), ([], []), ([], []), ([15], [15]), ([], []), ([16, 17], [16, 17]), ([14, 18], [14, 18]), ([19], [19]), ([9, 13, 20], [9, 13, 20]), ([21], [21]), ([0, 22], [0, 22]), ([23, 23, 0, 1, 2, 3, 4, 5, 6, 7, 8, 9, 10, 11, 12, 13, 14, 15, 16, 17, 18, 19, 20, 21, 22, 23], [0, 23])])
def triR.B17 : List Nat := [0, 0, 0, 0, 12, 28, 0, 124, 254, 510, 0, 0, 3072, 7168, 0, 0, 32768, 0, 229376, 507904, 1032192, 2097150, 4194302, 8388607, 16777215]
theorem triR.tab17 : rtab .any (opsOf Try.f50 17) = triR.T17 := by kernel_rfl
theorem triR.bits17 : waitsOk triR.T17.2 triR.B17 = true := by kernel_rfl
set_option maxHeartbeats 8000000 in
set_option maxRecDepth 100000 in
theorem tri_yes (A0 : Option Addr) (c0 : Nat) (l0 : List S31) (w : World) (hr0 : Kd.C k31 w A0 l0.length l0) (hc0 : l0.length ≤ c0) (hs : simpleS l0 = true) (s : Int) (hG : Geo.Good NH s (l0.map gp)) (f : Nat) (ts : List S58) (hf : f ≤ 262144) (htr : trL l0 s f (List.range l0.length) 0 = some ts) :
  Calls Try.prog 50 #[.slice A0 l0.length c0] w fun e w' => ∃ v, e = .returned (.tuple #[v, .int .i64 0]) ∧ Kd.R k58 58 w' w.heap.size (fun _ => True) v ts ∧ Below w.heap.size w w' := by
 obtain ⟨k, hk⟩ := simple_ev l0
 rw [hs] at hk
 obtain ⟨h3, h5, hok⟩ := simple_ok hs
 have hw := hG.sgn
 have HS := Aside0.mk (fun W (hb : Below w.heap.size w W) => plane_Simple.calls k A0 c0 l0 _ W (Kd.C_below hr0 hb) hc0 hk)
 have HW := Aside0.mk (fun W (hb : Below w.heap.size w W) => plane_sense.calls (l0.length + 1) A0 c0 l0 s W (Kd.C_below hr0 hb) hc0 (sense_is hok h5 hG))
 have HE := Aside0.mk (fun (L : List Nat) (hL : ∀ i ∈ L, i < l0.length) (hl : L.length ≤ 512) (k : Nat) (hk : k < L.length) A1 c1 W (hb : Below w.heap.size w W) (hr1 : Kd.C (Kd.int .i64) W A1 (ints L).length (ints L)) (hc1 : (ints L).length ≤ c1) =>
  isear_calls A0 c0 l0 A1 c1 L k s W (Kd.C_below hr0 hb) hc0 hr1 hc1 hok hL hl hw hk)
 have HB := Aside0.mk (Below.refl w.heap.size w)
 have HT := Aside0.mk htr
 have HN0 : Aside0 (Kd.R (Kd.int .i64) 3 w w.heap.size (fun _ => True) (.slice none 0 0) (ints (List.range 0))) := ⟨Kd.R_nil _ _ _ _ _⟩
 clear hr0 hk hs hG htr hw hok
 have hu78 := Try.underlying78
 go_enter Try.func50, Try.ntmps50
 go_wp2_with (first | (go_at_call 25; go_must (refine (HS.out _ HB.out).mono ?_); rintro e w1 ⟨rfl, hb1⟩; have HB1 := Aside0.mk (below_step HB.out hb1); have HN1 := Aside0.mk (Kd.R_below HN0.out hb1); clear hb1))
 go_loopw [4, 16] (fun v4 v16 wr => ∃ k : Nat, k ≤ l0.length ∧ v16 = .int .i64 k ∧ Aside0 (Kd.R (Kd.int .i64) 3 wr w.heap.size (fun _ => True) v4 (ints (List.range k))) ∧ Aside0 (Below w.heap.size w wr)) (fun _ v16 _ => l0.length - (intOf v16).toNat)
 case atStart => exact ⟨0, by omega, rfl, HN1, HB1⟩
 case round =>
  obtain ⟨k, hk, rfl, HL, HB2⟩ := hrel
  clear HN0 HN1 HB HB1
  by_cases hlt : k < l0.length
  ·have hltI : ((k : Nat) : Int) < ((l0.length : Nat) : Int) := by omega
   have hll : Aside0 ((ints (List.range k)).length = k) := ⟨by rw [ints_len, List.length_range]⟩
   go_wp2_with (first | ((with_reducible refine gate_builtin (b := .append) (xs := #[.tmp 19, .tmp 21]) rfl ?_); at_builtin; refine Kd.R_append (Kd.int .i64) (w0 := w) w.heap.size rfl (.tmp 19) (.tmp 21) 78 3 (.int .i64 0) 8 rfl Try.underlying78 info3 rfl (by decide) (by omega) u4 (ints (List.range k)) (k : Int) [.int .i64 (k : Int)] (fun _ => True) (fun _ => False) rfl rfl ?aP (fun _ hk => hk.elim) ?aF ?aO ?aB ?aS ?aL ?_; (case aP => exact rfl); (case aB => exact HB2.out); (case aF => exact (fun _ _ => trivial)); (case aO => exact HL.out); (case aS => exact HB2.out.size); (case aL => rw [hll.out]; omega); intro v1 w1 ho1 hb1 hg1 hat1; have HL1 := Aside0.mk ho1; have HB3 := Aside0.mk hb1; clear ho1 hb1 hg1 hat1))
   rw [← ints_snoc] at HL1
   go_roundw
   case rel => exact ⟨k + 1, by omega, by go_num, HL1, HB3⟩
   case measure => simp [intOf]; omega
  ·obtain rfl : k = l0.length := by omega
   have HD0 : Aside0 (Kd.R k58 58 wr w.heap.size (fun _ => True) (.slice none 0 0) []) := ⟨Kd.R_nil _ _ _ _ _⟩
   go_wp2_with (first | (go_at_call 76; go_must (refine (HW.out _ HB2.out).mono ?_); rintro e w2 ⟨rfl, hb2⟩; have HB3 := Aside0.mk (below_step HB2.out hb2); have HL3 := Aside0.mk (Kd.R_below HL.out hb2); have HD3 := Aside0.mk (Kd.R_below HD0.out hb2); clear hb2))
   clear HL HB2 HD0 HS HW
   go_loopg [4, 7, 8] f (fun fq v4 v7 v8 wr => ∃ (L : List Nat) (at_ : Nat) (out rest : List S58), v8 = .int .i64 at_ ∧ Aside0 (trL l0 s fq L at_ = some rest) ∧ Aside0 (out ++ rest = ts) ∧ Aside0 (at_ + fq ≤ 262144) ∧ Aside0 (∀ i ∈ L, i < l0.length) ∧ Aside0 (L.length ≤ 512) ∧ Aside0 (out.length + L.length ≤ 512) ∧ Aside0 (Kd.R (Kd.int .i64) 3 wr w.heap.size (fun _ => True) v4 (ints L)) ∧ Aside0 (Kd.R k58 58 wr w.heap.size (fun _ => True) v7 out) ∧ Aside0 (Below w.heap.size w wr))
   case atStart => exact ⟨List.range l0.length, 0, [], ts, rfl, HT, ⟨rfl⟩, ⟨by omega⟩, ⟨fun i hi => List.mem_range.mp hi⟩, ⟨by rw [List.length_range]; omega⟩, ⟨by rw [List.length_range]; simp; omega⟩, HL3, HD3, HB3⟩
   case round =>
    obtain ⟨L, at_, out, rest, rfl, HA, HTS, HAT, HLt, HLl, HOl, HL, HD, HB⟩ := hrel
    clear HL3 HD3 HB3 HT
    cases gk with
    | zero => exact absurd HA.out (by simp [trL])
    | succ f1 =>
     have hA := HA.out
     rw [trL] at hA
     have hlen : (ints L).length = L.length := ints_len L
     obtain ⟨Ao, co, rfl⟩ := Kd.R_slice HL.out
     by_cases h3L : 3 ≤ L.length
     ·rw [if_pos h3L] at hA
      have hge : decide ((3 : Int) ≤ (((ints L).length : Nat) : Int)) = true := by simp; omega
      have hz : ((((ints L).length : Nat) : Int) == 0) = false := by rw [beq_eq_false_iff_ne]; omega
      have hz1 : ((((ints L).length : Nat) : Int) != 0) = true := by rw [bne_iff_ne]; omega
      have hz2 : ¬ ints L = [] := fun e => by rw [e] at hlen; simp at hlen; omega
      have hz3 : ¬ (ints L).length = 0 := by omega
      have hz4 : ¬ (((ints L).length : Nat) : Int) = 0 := by omega
      obtain ⟨k, hk⟩ : ∃ k, k = at_ % L.length := ⟨_, rfl⟩
      have hkl : k < L.length := by rw [hk]; exact Nat.mod_lt _ (by omega)
      rw [← hk] at hA
      have hmod : Int.tmod ((at_ : Nat) : Int) (((ints L).length : Nat) : Int) = ((k : Nat) : Int) := by rw [hlen, hk]; rfl
      have hC := Aside0.mk (Kd.R_reads' HL.out).2.2
      have hCc := Aside0.mk (Kd.R_reads' HL.out).2.1
      have HK := Aside0.mk (⟨hkl, h3L, hlen⟩ : k < L.length ∧ 3 ≤ L.length ∧ (ints L).length = L.length)
      have HATo := HAT.out
      clear hk hlen
      by_cases hear : earB l0 L k s = true
      ·rw [if_pos hear] at hA
       obtain ⟨rest', hA1, hA2⟩ := Option.map_eq_some_iff.mp hA
       have HA1 := Aside0.mk hA1
       have HTS1 : Aside0 ((out ++ [tri3 L k]) ++ rest' = ts) := ⟨by rw [← HTS.out, ← hA2]; simp⟩
       clear hA HA hA1 hA2
       go_wp2_with (first | (go_at_call 78; go_must (refine (HE.out L HLt.out (by have := HLl.out; omega) k HK.out.1 Ao co _ HB.out hC.out hCc.out).mono ?_); rw [hear]; rintro e w3 ⟨rfl, hb3⟩; have HB1 := Aside0.mk (below_step HB.out hb3); have HL1 := Aside0.mk (Kd.R_below HL.out hb3); have HD1 := Aside0.mk (Kd.R_below HD.out hb3); clear hb3))
       obtain ⟨hkl', h3L', hlen⟩ := HK.out
       clear hmod hge
       have hC1 := (Kd.R_reads' HL1.out).2.2
       have n1 : prv L.length k < L.length := Nat.mod_lt _ (by omega)
       have n2 : nxt2 L.length k < L.length := Nat.mod_lt _ (by omega)
       obtain ⟨ad, rfl, hx1⟩ := Kd.at_int hC1 ((prv L.length k : Nat) : Int) (Int.natCast_nonneg _) (lt_N n1 hlen)
       obtain ⟨ad2, e2, hx2⟩ := Kd.at_int hC1 ((k : Nat) : Int) (Int.natCast_nonneg _) (lt_N hkl' hlen)
       obtain ⟨ad3, e3, hx3⟩ := Kd.at_int hC1 ((nxt2 L.length k : Nat) : Int) (Int.natCast_nonneg _) (lt_N n2 hlen)
       obtain rfl : ad = ad2 := by injection e2
       obtain rfl : ad = ad3 := by injection e3
       rw [rd_ints L _ n1, Int.toNat_natCast] at hx1
       rw [rd_ints L _ hkl', Int.toNat_natCast] at hx2
       rw [rd_ints L _ n2, Int.toNat_natCast] at hx3
       have hlb := HLl.out
       have hN : (ints L).length ≤ 512 := by omega
       have hkN : k < (ints L).length := by omega
       have hm1 := mod_a hkN hN
       have hm2 := mod_b hkN hN
       have hm3 := mod_c hkN hN
       have hm4 := mod_d hkN hN
       have hs1 := mod_w1 hkN hN
       have hs3 := mod_w3 hkN hN
       rw [show prv (ints L).length k = prv L.length k by rw [hlen]] at hm1 hm3
       rw [show nxt2 (ints L).length k = nxt2 L.length k by rw [hlen]] at hm2 hm4
       have i1 : ((prv L.length k : Nat) : Int) < (((ints L).length : Nat) : Int) := lt_N n1 hlen
       have i2 : ((k : Nat) : Int) < (((ints L).length : Nat) : Int) := lt_N hkl' hlen
       have i3 : ((nxt2 L.length k : Nat) : Int) < (((ints L).length : Nat) : Int) := lt_N n2 hlen
       have HTR : Aside0 (tri3 L k = ⟨((nat_at L (prv L.length k) : Nat) : Int), ((nat_at L k : Nat) : Int), ((nat_at L (nxt2 L.length k) : Nat) : Int)⟩) := ⟨rfl⟩
       clear e2 e3 hC1 hlen hkl' h3L' n1 n2 hN hkN hlb
       generalize hp1 : prv L.length k = p1 at *
       generalize hp2 : nxt2 L.length k = p2 at *
       generalize nat_at L p1 = y1 at *
       generalize nat_at L p2 = y3 at *
       generalize nat_at L k = y2 at *
       have HL2 := Aside0.mk (Kd.R_drew HL1.out)
       have HD2 := Aside0.mk (Kd.R_drew HD1.out)
       have HB2 := Aside0.mk (below_drew HB1.out)
       clear HL1 HD1 HB1 HL HD HB hC hCc HE
       refine start_ (n := 25) (S := fun w' => w'.cell? (ad.add p1) = some (.int .i64 ((y1 : Nat) : Int)) ∧ w'.cell? (ad.add k) = some (.int .i64 ((y2 : Nat) : Int)) ∧ w'.cell? (ad.add p2) = some (.int .i64 ((y3 : Nat) : Int))) (ds := [22, 23]) (Bs 0 25) (by kernel_rfl) rfl rfl ⟨hx1, hx2, hx3⟩ (fun hHeld => ?_)
       generalize w3.drew = w4 at HL2 HD2 HB2 hx1 hx2 hx3 hHeld ⊢
       refine with_tabW triR.tab17 triR.bits17 (fun HT_ HW_ => ?_)
       refine pu 0 42 (Bs 1 25) HT_ ?_
       refine pu 1 43 (Bs 2 25) HT_ ?_
       refine pu 2 44 (Bs 3 25) HT_ ?_
       refine pu 3 45 (Bs 4 25) HT_ ?_
       refine pu 4 46 (Bs 5 25) HT_ ?_
       refine pu 5 47 (Bs 6 25) HT_ ?_
       refine pu 6 48 (Bs 7 25) HT_ ?_
       refine pu 7 49 (Bs 8 25) HT_ ?_
       refine pu 8 50 (Bs 9 25) HT_ ?_
       refine pu 10 52 (Br [9,1,1,14]) HT_ ?_
       refine pu 11 53 (Br [9,1,2,13]) HT_ ?_
       refine pu 12 54 (Br [9,1,3,12]) HT_ ?_
       refine pu 14 56 (Br [9,1,3,1,1,10]) HT_ ?_
       refine pu 15 57 (Br [9,1,3,1,2,9]) HT_ ?_
       refine pu 16 58 (Br [9,1,3,1,3,8]) HT_ ?_
       refine pu 17 59 (Br [9,1,3,1,4,7]) HT_ ?_
       refine pu 18 60 (Br [9,1,3,1,5,6]) HT_ ?_
       refine pu 19 61 (Br [9,1,3,1,6,5]) HT_ ?_
       refine ta 9 51 (Br [13,1,6,5]) HT_ HW_ hHeld ?_
       refine ta 13 55 (Bs 20 25) HT_ HW_ hHeld ?_
       refine ta 20 62 (Bs 21 25) HT_ HW_ hHeld ?_
       refine pu 21 63 (Bs 22 25) HT_ ?_
       refine last_ (i := 22) (N := some 64) (Bs 23 25) rfl rfl (one_of HT_.out (by kernel_rfl)) (by decide) (fun K hK => ?_)
       refine value_ (w1 := ?_) (v := ?_) (by rfl) rfl ?_ ?_
       rotate_left 2
       ·go_simp
        constructor
        ·rfl
        ·rfl
       refine hK.out _ _ ?_
       clear hK K
       refine nm 64 ?_
       refine last_ (i := 23) (N := some 65) (Bs 24 25) rfl rfl (one_of HT_.out (by kernel_rfl)) (by decide) (fun K hK => ?_)
       refine Kd.R_append_step k58 (w0 := w) w.heap.size (by rfl) (.tmp 42) (.tmp 64) 53 58 (.agg #[.int .i64 0, .int .i64 0, .int .i64 0]) 24 rfl Try.underlying53 info58 rfl (by decide) (by omega) u7 out ⟨((y1 : Nat) : Int), ((y2 : Nat) : Int), ((y3 : Nat) : Int)⟩ [.int .i64 ((y1 : Nat) : Int), .int .i64 ((y2 : Nat) : Int), .int .i64 ((y3 : Nat) : Int)] (fun _ => True) (fun _ => False) rfl rfl ?aP (fun _ hk => hk.elim) ?aF ?aO ?aB ?aS ?aL ?_
       case aP => exact k58_mkM _ _ _ _
       case aF => exact (fun _ _ => trivial)
       case aO => exact HD2.out
       case aB => exact HB2.out
       case aS => exact HB2.out.size
       case aL => have := HOl.out; omega
       intro v7 w5 ho5 hb5 hg5 hat5
       have HD3 := Aside0.mk ho5
       have HL3 := Aside0.mk (Kd.R_over HL2.out HD2.out (by decide) hg5)
       have HB3 := Aside0.mk hb5
       clear ho5 hb5 hg5 hat5
       refine hK.out _ _ ?_
       clear hK K
       refine nm 65 ?_
       refine pu 24 7 (Bs 25 25) HT_ ?_
       refine done_ (done_of HT_.out (by kernel_rfl)) ?_
       clear hm1 hm2 hm3 hm4 hz hz1 hz2 hz3 hz4
       have HKo := Aside0.mk (show k < (ints L).length ∧ (ints L).length ≤ 512 from ⟨by have := HK.out; omega, by have := HK.out; have := HLl.out; omega⟩)
       go_wp2_with (first | (go_at_call 79; go_must (refine (delete_calls _ w.heap.size (fun _ => True) _ (ints L) k HL3.out HKo.out.1 (by have := HKo.out.2; omega)).mono ?_); rintro e w6 ⟨v4', rfl, hr6, hg6, _⟩; have HD4 := Aside0.mk (Kd.R_over HD3.out HL3.out (by decide) hg6); have HB4 := Aside0.mk (HB3.out.grown hg6 HB3.out.size (fun k e => Kd.R_base HL3.out k e)); rw [ints_erase] at hr6; have HL4 := Aside0.mk hr6; clear hr6 hg6))
       go_roundg f1
       case measure => omega
       case rel =>
        have hkl := HK.out.1
        refine ⟨L.eraseIdx k, at_ + 1, _, rest', by go_num, HA1, HTS1, ⟨by omega⟩, ⟨fun i hi => HLt.out i (List.mem_of_mem_eraseIdx hi)⟩, ⟨by have := HLl.out; rw [List.length_eraseIdx, if_pos hkl]; omega⟩, ⟨by have := HOl.out; rw [List.length_eraseIdx, if_pos hkl, List.length_append]; simp; omega⟩, HL4, ⟨by rw [HTR.out]; exact HD4.out⟩, HB4⟩
      ·rw [if_neg hear] at hA
       rw [Bool.not_eq_true] at hear
       have HA1 := Aside0.mk hA
       clear hA HA
       go_wp2_with (first | (go_at_call 78; go_must (refine (HE.out L HLt.out (by have := HLl.out; omega) k HK.out.1 Ao co _ HB.out hC.out hCc.out).mono ?_); rw [hear]; rintro e w3 ⟨rfl, hb3⟩; have HB1 := Aside0.mk (below_step HB.out hb3); have HL1 := Aside0.mk (Kd.R_below HL.out hb3); have HD1 := Aside0.mk (Kd.R_below HD.out hb3); clear hb3))
       go_roundg f1
       case measure => omega
       case rel => exact ⟨L, at_ + 1, out, rest, by go_num, HA1, HTS, ⟨by omega⟩, HLt, HLl, HOl, HL1, HD1, HB1⟩
     ·rw [if_neg h3L] at hA
      have hge : decide ((3 : Int) ≤ (((ints L).length : Nat) : Int)) = false := by simp; omega
      obtain rfl := Option.some.inj hA
      have hts := HTS.out
      rw [List.append_nil] at hts
      subst hts
      go_wp2
      go_ret2
      exact ⟨_, rfl, HD.out, HB.out⟩
theorem trL_mono (l : List S31) (way : Int) : ∀ f L at_ r, trL l way f L at_ = some r → trL l way (f + 1) L at_ = some r
 | 0, _, _, _, h => by simp [trL] at h
 | f + 1, L, at_, r, h => by
  rw [trL] at h ⊢
  by_cases h3 : 3 ≤ L.length
  ·rw [if_pos h3] at h ⊢
   by_cases he : earB l L (at_ % L.length) way = true
   ·rw [if_pos he] at h ⊢
    obtain ⟨q, h1, h2⟩ := Option.map_eq_some_iff.mp h
    rw [trL_mono l way f _ _ _ h1]; simpa using h2
   ·rw [if_neg he] at h ⊢
    exact trL_mono l way f _ _ _ h
  ·rw [if_neg h3] at h ⊢; exact h
theorem trL_le (l : List S31) (way : Int) {f L at_ r} (h : trL l way f L at_ = some r) : ∀ d, trL l way (f + d) L at_ = some r
 | 0 => h
 | d + 1 => trL_mono l way (f + d) L at_ r (trL_le l way h d)
def senseS (l : List S31) : Int := if 0 < arN l l.length then 1 else -1
def triT (l : List S31) : List S58 := (trL l (senseS l) (l.length * l.length) (List.range l.length) 0).getD []
theorem range_pL (l : List S31) : pL l (List.range l.length) = l.map gp := by
 unfold pL
 apply List.ext_getElem
 ·simp
 ·intro i h1 h2
  simp at h1
  simp [pt_eq l i h1]
structure TriOk (l : List S31) (s : Int) (ts : List S58) : Prop where
 good : Geo.Good NH s (l.map gp)
 es : Geo.ES s (l.map gp) (ts.map (p3 l))
 idx : ∀ t ∈ ts, ∃ a b c : Nat, t = ⟨a, b, c⟩ ∧ a < l.length ∧ b < l.length ∧ c < l.length
theorem tri_fact {l : List S31} (h : simpleS l = true) : TriOk l (senseS l) (triT l) ∧ trL l (senseS l) (l.length * l.length) (List.range l.length) 0 = some (triT l) := by
 obtain ⟨s, hG⟩ := good_gp h
 have hs : senseS l = s := by
  unfold senseS
  rcases sense_good hG with ⟨h1, h2⟩ | ⟨h1, h2⟩
  ·rw [if_pos h1, h2]
  ·rw [if_neg (by omega), h2]
 obtain ⟨h3, _, _⟩ := simple_ok h
 obtain ⟨f, ts, k1, k2, k3, k4⟩ := tr_ex l.length (List.range l.length) 0 (List.length_range ..) h3 (by rw [range_pL]; exact hG)
 rw [range_pL] at k3
 have k5 := trL_le l s k2 (l.length * l.length - f)
 rw [show f + (l.length * l.length - f) = l.length * l.length by omega] at k5
 have e : triT l = ts := by unfold triT; rw [hs, k5]; rfl
 rw [e, hs]
 refine ⟨⟨hG, k3, fun t ht => ?_⟩, k5⟩
 obtain ⟨a, b, c, e, m1, m2, m3⟩ := k4 t ht
 exact ⟨a, b, c, e, List.mem_range.mp m1, List.mem_range.mp m2, List.mem_range.mp m3⟩
def plane_Triangulate.f (l0 : List S31) : Option (List S58 × Int) := if simpleS l0 = true then some (triT l0, 0) else some ([], 2)
theorem plane_Triangulate.calls (A0 : Option Addr) (c0 : Nat) (l0 : List S31) (r1 : List S58) (r2 : Int) (w : World) (hr0 : Kd.C k31 w A0 l0.length l0) (hc0 : l0.length ≤ c0) (h : plane_Triangulate.f l0 = some (r1, r2)) :
  Calls Try.prog 50 #[.slice A0 l0.length c0] w fun e w' => ∃ v1_ : Value, e = .returned (.tuple #[v1_, .int .i64 r2]) ∧ Kd.R k58 58 w' w.heap.size (fun _ => True) v1_ r1 ∧ Below w.heap.size w w' := by
 unfold plane_Triangulate.f at h
 by_cases hs : simpleS l0 = true
 ·rw [if_pos hs] at h
  simp only [Option.some.injEq, Prod.mk.injEq] at h
  obtain ⟨rfl, rfl⟩ := h
  obtain ⟨k1, k2⟩ := tri_fact hs
  obtain ⟨h3, h5, _⟩ := simple_ok hs
  exact tri_yes A0 c0 l0 w hr0 hc0 hs _ k1.good (l0.length * l0.length) _ (by have := Nat.mul_le_mul h5 h5; omega) k2
 ·rw [if_neg hs] at h
  simp only [Option.some.injEq, Prod.mk.injEq] at h
  obtain ⟨rfl, rfl⟩ := h
  rw [Bool.not_eq_true] at hs
  refine (tri_no A0 c0 l0 w hr0 hc0 hs).mono ?_
  rintro e w' ⟨rfl, hb⟩
  exact ⟨_, rfl, Kd.R_nil _ _ _ _ _, hb⟩
theorem idx58 (t : S58) {k : Nat} (hk : k < 3) (W : World) : (Instr.index 58 (.agg #[.int .i64 t.f0, .int .i64 t.f1, .int .i64 t.f2]) (.int .i64 ((k : Nat) : Int))).run Try.prog W = .ok (.int .i64 (tk t k)) W := by
 have hu58 := Try.underlying58
 have hi3 : ∀ W, (isAgg 3).run Try.prog W = .ok false W := fun W => by simp [isAgg, run_underlying Try.underlying3, Result.andThen]
 match k, hk with
 | 0, _ => simp [Instr.index, run_underlying hu58, Result.andThen, tk, asIntOf, asInt, part, hi3]
 | 1, _ => simp [Instr.index, run_underlying hu58, Result.andThen, tk, asIntOf, asInt, part, hi3]
 | 2, _ => simp [Instr.index, run_underlying hu58, Result.andThen, tk, asIntOf, asInt, part, hi3]
def covT.T15 : Bool × List (List Nat × List Nat) := (true, [([], []), ([], []), ([], []), ([2], [2]), ([3], [3]), ([4], [4]), ([5], [5]), ([1, 6], [1, 6]), ([0, 7], [0, 7]), ([8], [8]), ([0, 7, 0, 1, 2, 3, 4, 5, 6, 7], [0, 7]), ([10], [10]), ([0, 11, 9, 10, 0, 1, 2, 3, 4, 5, 6, 7, 8, 9, 10, 11], [0, 9, 11])])
def covT.B15 : List Nat := [0, 0, 0, 4, 12, 28, 60, 126, 255, 511, 255, 1279, 4095]
theorem covT.tab15 : rtab .any (opsOf Try.f48 15) = covT.T15 := by kernel_rfl
theorem covT.bits15 : waitsOk covT.T15.2 covT.B15 = true := by kernel_rfl
def covT.T17 : Bool × List (List Nat × List Nat) := (true, [([], []), ([], []), ([1], [1]), ([0, 2], [0, 2]), ([3], [3]), ([], []), ([], []), ([6], [6]), ([5, 7], [5, 7]), ([8], [8]), ([], []), ([], []), ([11], [11]), ([10, 12], [10, 12]), ([13], [13]), ([4, 9, 14], [4, 9, 14]), ([], []), ([15, 16], [15, 16])])
def covT.B17 : List Nat := [0, 0, 2, 7, 15, 0, 0, 64, 224, 480, 0, 0, 2048, 7168, 15360, 32767, 0, 131071]
theorem covT.tab17 : rtab .any (opsOf Try.f48 17) = covT.T17 := by kernel_rfl
theorem covT.bits17 : waitsOk covT.T17.2 covT.B17 = true := by kernel_rfl
theorem putF_cnt {ts : List S58} {i : Nat} {t : S58} {k : Nat} {x y : Int} (h : ∀ a d, cnt1 t a d (k + 1) = cnt1 t a d k + if x = a ∧ y = d then 1 else 0) {c : Int} (hc : c = cntI ts x y i + cnt1 t x y k) :
  putF (fun a d => cntI ts a d i + cnt1 t a d k) x y (c + 1) = fun a d => cntI ts a d i + cnt1 t a d (k + 1) := by
 funext a d
 unfold putF
 rw [h]
 by_cases e : a = x ∧ d = y
 ·rw [if_pos e, if_pos ⟨e.1.symm, e.2.symm⟩, hc, e.1, e.2]; omega
 ·rw [if_neg e, if_neg (fun q => e ⟨q.1.symm, q.2.symm⟩)]
  show cntI ts a d i + cnt1 t a d k = _
  omega
theorem mk_map {ops : Array Oper} {Q : Exit → Act → World → Prop} {rest : List Oper} {o : Oper} {a : Act} {W : World} {N : Nat} (hop : o.op = .makeMap 76 none) (hg : o.guard = none) (hN : o.dst = some N)
  (h : ∀ b W1, b = W.heap.size → Mp W1 b 0 (.map []) (fun _ _ => 0) → W.grownBy W1 none → Below W.heap.size W W1 → wpList Try.prog ops Q rest (a.put (some N) (.map (some b))) W1) : wpList Try.prog ops Q (o :: rest) a W := by
 refine wpList_plain hg fun K hK => ?_
 have hr : (execOp a.eval o).run Try.prog W = .ok (.value (.map (some W.heap.size))) (W.alloc (.map #[] 0)) := by
  unfold execOp
  simp [hop, run_makeMap, Result.andThen]
 unfold Oper.wp
 rw [hr]
 show K (a.put o.dst _) _
 rw [hN]
 exact hK _ _ (h _ _ rfl (mp_made W) (World.grownBy_alloc W _ none) (below_alloc (Below.refl _ _) _))
theorem map_sym {D : DataW Unit} {c : Int → Int → Int} {n : Nat} (h : ∀ x y, ok64 x → ok64 y → D.atKey (kl x y) (.lit (.int .i64 0)) = .lit (.int .i64 (c x y))) (hn : n ≤ 512) (hs : ∀ x y, ok64 x → ok64 y → Maps.has D (kl x y) = true → c y x = c x y) :
  ∀ a b : Nat, a < n → b < n → c a b = c b a := by
 intro a b ha hb
 have oa : ok64 ((a : Nat) : Int) := ok64_of (by omega) (by omega)
 have ob : ok64 ((b : Nat) : Int) := ok64_of (by omega) (by omega)
 have z : ∀ x y, ok64 x → ok64 y → Maps.has D (kl x y) = false → c x y = 0 := fun x y ox oy hh => by
  have := h x y ox oy
  rw [Maps.atKey_of_not_has hh] at this
  simp at this
  exact this.symm
 cases h1 : Maps.has D (kl a b) with
 | true => exact (hs _ _ oa ob h1).symm
 | false =>
  cases h2 : Maps.has D (kl b a) with
  | true => exact hs _ _ ob oa h2
  | false => rw [z _ _ oa ob h1, z _ _ ob oa h2]
theorem entry_is {D : DataW Unit} {f : Int → Int → Int} (h : ∀ x y, ok64 x → ok64 y → D.atKey (kl x y) (.lit (.int .i64 0)) = .lit (.int .i64 (f x y))) {u v c : Int} {l : Lit} {y1 : DataW Unit} {y2 : List MemPlace} (hk : keyOf Try.prog 49 (kv u v) = some l)
  (hR : plainElem Try.prog 3 (.int .i64 c) = some (y1, y2)) (hat : ∀ zd, D.atKey l zd = y1) : ok64 u ∧ ok64 v ∧ l = kl u v ∧ c = f u v := by
 obtain ⟨x, y, e, ox, oy, rfl⟩ := key_inv hk
 unfold kv at e
 simp at e
 obtain ⟨rfl, rfl⟩ := e
 obtain ⟨a, ea, eb, _⟩ := plainElem_int_inv Try.underlying3 hR
 simp at ea eb
 have h1 := hat (.lit (.int .i64 0))
 rw [h u v ox oy, eb.1] at h1
 simp at h1
 exact ⟨ox, oy, rfl, by rw [ea, h1]⟩
def covR (l : List S31) (ts : List S58) : Int := if refCovB l (senseS l) ts = true then 0 else 10
theorem covR_no {l : List S31} {ts : List S58} (h : refCovB l (senseS l) ts = false) : covR l ts = 10 := if_neg (by rw [h]; decide)
theorem covR_yes {l : List S31} {ts : List S58} (h : refCovB l (senseS l) ts = true) : covR l ts = 0 := if_pos h
set_option maxHeartbeats 8000000 in
set_option maxRecDepth 100000 in
theorem cov_yes (A0 : Option Addr) (c0 : Nat) (l0 : List S31) (A1 : Option Addr) (c1 : Nat) (ts : List S58) (w : World) (hr0 : Kd.C k31 w A0 l0.length l0) (hc0 : l0.length ≤ c0) (hr1 : Kd.C k58 w A1 ts.length ts) (hc1 : ts.length ≤ c1)
  (hs : simpleS l0 = true) (hwf : ∀ t ∈ ts, ok64 t.f0 ∧ ok64 t.f1 ∧ ok64 t.f2) :
  Calls Try.prog 48 #[.slice A0 l0.length c0, .slice A1 ts.length c1] w fun e w' => e = .returned (.int .i64 (covR l0 ts)) ∧ Below w.heap.size w w' := by
 obtain ⟨k1, _⟩ := tri_fact hs
 obtain ⟨h3, h5, hok⟩ := simple_ok hs
 obtain ⟨kS, hkS⟩ := simple_ev l0
 rw [hs] at hkS
 have HS := Aside0.mk (fun W (hb : Below w.heap.size w W) => plane_Simple.calls kS A0 c0 l0 _ W (Kd.C_below hr0 hb) hc0 hkS)
 have HW := Aside0.mk (fun W (hb : Below w.heap.size w W) => plane_sense.calls (l0.length + 1) A0 c0 l0 (senseS l0) W (Kd.C_below hr0 hb) hc0 (sense_is hok h5 k1.good))
 have HWi := Aside0.mk (fun (x m : Int) W => plane_within.calls x 0 m _ W (within_is x 0 m))
 have HR0 := Aside0.mk hr0
 have HR1 := Aside0.mk hr1
 have HF := Aside0.mk (show 3 ≤ l0.length ∧ l0.length ≤ 512 ∧ allOk l0 = true ∧ (∀ t ∈ ts, ok64 t.f0 ∧ ok64 t.f1 ∧ ok64 t.f2) from ⟨h3, h5, hok, hwf⟩)
 have HB := Aside0.mk (Below.refl w.heap.size w)
 have hu58 := Try.underlying58
 have hu49 := Try.underlying49
 have hu3 := Try.underlying3
 by_cases hlen : (ts.length : Int) = (l0.length : Int) - 2
 ·have hlenB : (((ts.length : Nat) : Int) != wrap64 (((l0.length : Nat) : Int) - 2)) = false := by rw [w64i (by omega) (by omega), bne_eq_false_iff_eq]; exact hlen
  have HLE := Aside0.mk hlen
  clear hlen hs hwf k1 h3 h5 hok hkS hr0 hr1
  go_enter Try.func48, Try.ntmps48
  go_wp2_with (first | (go_at_call 25; go_must (refine (HS.out _ HB.out).mono ?_); rintro e w1 ⟨rfl, hb1⟩; have HB1 := Aside0.mk (below_step HB.out hb1); clear hb1) | (go_at_call 76; go_must (refine (HW.out _ HB1.out).mono ?_); rintro e w2 ⟨rfl, hb2⟩; have HB2 := Aside0.mk (below_step HB1.out hb2); clear hb2) | ((with_reducible refine gate_dst (N := 28) rfl ?_); refine mk_map rfl rfl rfl ?_; intro b w3 hb hm3 hg3 hb3; have HG := Aside0.mk (show w.heap.size ≤ b from by rw [hb]; exact below_size HB2.out); have HM3 := Aside0.mk hm3; have HB3 := Aside0.mk (below_step HB2.out hb3); clear hb hm3 hg3 hb3))
  clear HS HW HB HB1 HB2 hlenB
  have HU0 : Aside0 (∀ j : Nat, j < 0 → okTri l0 (senseS l0) (tt ts j) = true) := ⟨fun j hj => absurd hj (by omega)⟩
  have HMM : Aside0 (∃ D, Mp w3 b (3 * 0) D (fun a d => cntI ts a d 0)) := ⟨_, HM3.out⟩
  go_loopg [31] ts.length (fun q v31 wr => ∃ i : Nat, i + q = ts.length ∧ v31 = .int .i64 i ∧ Aside0 (∀ j : Nat, j < i → okTri l0 (senseS l0) (tt ts j) = true) ∧ Aside0 (∃ D, Mp wr b (3 * i) D (fun a d => cntI ts a d i)) ∧ Aside0 (Below w.heap.size w wr))
  case atStart => exact ⟨0, Nat.zero_add _, rfl, HU0, HMM, HB3⟩
  case round =>
   obtain ⟨i, hi, rfl, HU, HM, HB⟩ := hrel
   clear HU0 HMM HB3 HM3
   by_cases hlt : i < ts.length
   ·obtain ⟨gq, rfl⟩ : ∃ q, gk = q + 1 := ⟨gk - 1, by omega⟩
    have HQ := Aside0.mk (show i + 1 + gq = ts.length by omega)
    have hltI : ((i : Nat) : Int) < ((ts.length : Nat) : Int) := by omega
    have hsi := Aside0.mk (succ_n hlt (by have := HLE.out; have := HF.out.2.1; omega))
    obtain ⟨ad, rfl, _⟩ := at_T58 HR1.out (i : Int) (by omega) (by omega)
    obtain ⟨t, ht⟩ : ∃ t, t = tt ts i := ⟨_, rfl⟩
    have HT := Aside0.mk ht
    have HTW := Aside0.mk (show ok64 t.f0 ∧ ok64 t.f1 ∧ ok64 t.f2 from by rw [ht]; exact HF.out.2.2.2 _ (tt_mem hlt))
    obtain ⟨ad', e', hx0, hx1, hx2⟩ := at_T58 (Kd.C_below HR1.out HB.out) (i : Int) (by omega) (by omega)
    obtain rfl : ad = ad' := by injection e'
    have hrd : rd_T58 ts (i : Int) = t := by rw [HT.out]; unfold rd_T58 tt; rw [Int.toNat_natCast]
    rw [hrd, Int.toNat_natCast] at hx0 hx1 hx2
    have HK0 : Aside0 (∀ j : Nat, j < 0 → 0 ≤ tk t j ∧ tk t j < l0.length) := ⟨fun j hj => absurd hj (by omega)⟩
    have HLT := Aside0.mk hlt
    clear e' hrd ht hlt hi
    go_wp2_with (first
     | ((with_reducible refine gate_dst (N := 9) rfl ?_); refine bxe 9 #[.int .i64 0, .int .i64 0, .int .i64 0] 58 ?_; intro g hg w4 hbox hb4; have HX4 := Aside0.mk hbox; have HNb := Aside0.mk (show g ≠ b from by have := HM.out.choose_spec.1.lt; omega); have HGg := Aside0.mk (lG (w := w) hg); have HM4 : Aside0 (∃ D, Mp w4 b (3 * i) D (fun a d => cntI ts a d i)) := ⟨HM.out.imp fun D h => h.kept (bel_grown hb4) (by simp)⟩; have HB4 := Aside0.mk (below_step HB.out hb4); clear hg hbox hb4)
     | ((with_reducible refine gate_store (t := 58) (p := 9) rfl ?_); refine st58 HX4.out rfl rfl rfl rfl rfl ?_; intro w5 hx5 hg5; have HX := Aside0.mk hx5; have HM5 : Aside0 (∃ D, Mp w5 b (3 * i + 0) D (fun a d => cntI ts a d i + cnt1 t a d 0)) := ⟨HM4.out.imp fun D h => by have := h.kept hg5 (fun e => HNb.out (Option.some.inj e).symm); simpa [cnt1] using this⟩; have HB5 := Aside0.mk (HB4.out.grown hg5 HB4.out.size (fun k e => by obtain rfl := Option.some.inj e; exact HGg.out)); obtain ⟨c0', c1', c2'⟩ := B58.cells hx5; clear hx5 hg5))
    clear HM HB HX4 HM4 HB4 hx0 hx1 hx2 hltI
    go_loopg [36] 3 (fun q v36 wx => ∃ k : Nat, k + q = 3 ∧ v36 = .int .i64 k ∧ Aside0 (∀ j : Nat, j < k → 0 ≤ tk t j ∧ tk t j < l0.length) ∧ Aside0 (∃ D, Mp wx b (3 * i + k) D (fun a d => cntI ts a d i + cnt1 t a d k)) ∧ Aside0 (B58 wx g t.f0 t.f1 t.f2) ∧ Aside0 (Below w.heap.size w wx))
    case atStart => exact ⟨0, rfl, rfl, HK0, HM5, HX, HB5⟩
    case round =>
     obtain ⟨k, hk, rfl, HK, HM, HX, HB⟩ := hrel
     clear HK0 HM5 HB5
     by_cases hk3 : k < 3
     ·obtain ⟨gr, rfl⟩ : ∃ q, gk = q + 1 := ⟨gk - 1, by omega⟩
      have HKQ := Aside0.mk (show k + 1 + gr = 3 by omega)
      have hk3I : ((k : Nat) : Int) < 3 := by omega
      have HKn := Aside0.mk (show k = 0 ∨ k = 1 ∨ k = 2 by omega)
      have hix : (Instr.index 58 (.agg #[.int .i64 t.f0, .int .i64 t.f1, .int .i64 t.f2]) (.int .i64 ((k : Nat) : Int))).run Try.prog wr = .ok (.int .i64 (tk t k)) wr := idx58 t hk3 wr
      have hmw : wrap64 (((l0.length : Nat) : Int) - 1) = ((l0.length : Nat) : Int) - 1 := by have := HF.out.2.1; exact w64i (by omega) (by omega)
      by_cases hr : 0 ≤ tk t k ∧ tk t k < l0.length
      ·have HW1 := Aside0.mk (fun W => plane_within.calls (tk t k) 0 (wrap64 (((l0.length : Nat) : Int) - 1)) true W (by rw [within_is, decide_eq_true (by rw [hmw]; omega)]))
       have HK1 : Aside0 (∀ j : Nat, j < k + 1 → 0 ≤ tk t j ∧ tk t j < l0.length) := ⟨fun j hj => by
        by_cases e : j = k
        ·subst e; exact hr
        ·exact HK.out j (by omega)⟩
       clear hr hmw HK
       have hm2 : Int.tmod (wrap64 (((k : Nat) : Int) + 1)) 3 = (((k + 1) % 3 : Nat) : Int) := mod_b hk3 (by decide)
       have hm4 : Int.tmod (((k : Nat) : Int) + 1) 3 = (((k + 1) % 3 : Nat) : Int) := mod_d hk3 (by decide)
       have hs3 : IntKind.i64.wrap (((k : Nat) : Int) + 1) = ((k : Nat) : Int) + 1 := mod_w3 hk3 (by decide)
       have i3 : (((k + 1) % 3 : Nat) : Int) < 3 := by omega
       have HX2 : Aside0 (∀ W, B58 W g t.f0 t.f1 t.f2 → W.cell? ⟨g, (k + 1) % 3, none⟩ = some (.int .i64 (tk t ((k + 1) % 3)))) := ⟨fun W h => by
        obtain ⟨d0, d1, d2⟩ := B58.cells h
        rcases HKn.out with rfl | rfl | rfl
        ·exact d1
        ·exact d2
        ·exact d0⟩
       have HOK : Aside0 (ok64 (tk t k) ∧ ok64 (tk t ((k + 1) % 3))) := ⟨by
        obtain ⟨o0, o1, o2⟩ := HTW.out
        rcases HKn.out with rfl | rfl | rfl
        ·exact ⟨o0, o1⟩
        ·exact ⟨o1, o2⟩
        ·exact ⟨o2, o0⟩⟩
       have HCN : Aside0 (∀ a d, cnt1 t a d (k + 1) = cnt1 t a d k + if tk t k = a ∧ tk t ((k + 1) % 3) = d then 1 else 0) := ⟨fun a d => rfl⟩
       clear hk3
       generalize tk t k = x at *
       generalize tk t ((k + 1) % 3) = y at *
       generalize (k + 1) % 3 = k1 at *
       go_wp2_with (first | (go_at_call 77; go_must (refine (HW1.out _).mono ?_); rintro e w6 ⟨rfl, nd, rfl⟩; have HB6 := Aside0.mk (lN HB.out nd); have HX6 : Aside0 (B58 (wr.drewN nd) g t.f0 t.f1 t.f2) := ⟨HX.out⟩; have HM6 : Aside0 (∃ D, Mp (wr.drewN nd) b (3 * i + k) D (fun a d => cntI ts a d i + cnt1 t a d k)) := ⟨HM.out.imp fun D h => h.kept (bel_grown (lN (Below.refl _ _) nd)) (by simp)⟩; generalize wr.drewN nd = w6 at *))
       clear HB HX HM
       obtain ⟨D, hD⟩ := HM6.out
       have hkb : 3 * i + k < maxLen := by have := HLE.out; have := HF.out.2.1; have := HKQ.out; have := HLT.out; unfold maxLen; omega
       obtain ⟨c, hc⟩ : ∃ c, c = cntI ts x y i + cnt1 t x y k := ⟨_, rfl⟩
       have hcb : ok64 (c + 1) ∧ wrap64 (c + 1) = c + 1 ∧ IntKind.i64.wrap (c + 1) = c + 1 := by
        have h1 := cntI_bd ts x y i; have h2 := cnt1_bd t x y k; have h3 := HLE.out; have h4 := HF.out.2.1; have h5 := HKQ.out; have h6 := HLT.out
        exact ⟨ok64_of (by omega) (by omega), w64i (by omega) (by omega), IntWalk.i64_in _ (by omega)⟩
       have HCB := Aside0.mk hcb.1
       have hcw := hcb.2.1
       have hci := hcb.2.2
       have hd := below_drew1 (Below.refl w6.heap.size w6)
       have hD7 := hD.kept (bel_grown hd) (by simp)
       have hX7 : B58 w6.drew g t.f0 t.f1 t.f2 := HX6.out
       have HB7 := Aside0.mk (below_drew1 HB6.out)
       have hlk := mp_look hD7 HOK.out.1 HOK.out.2
       rw [← hc] at hlk
       have HC := Aside0.mk hc
       have HM7 := Aside0.mk hD7
       have HX7 := Aside0.mk hX7
       have HKB := Aside0.mk hkb
       clear hD7 hd hkb hcb hD hc HM6 HX6 HB6
       refine start_ (n := 13) (S := fun W => B58 W g t.f0 t.f1 t.f2 ∧ (Instr.lookup 76 (.map (some b)) (.agg #[.int .i64 x, .int .i64 y]) false).run Try.prog W = .ok (.int .i64 c) W) (ds := [12]) (Bs 0 13) (by kernel_rfl) rfl rfl ⟨hX7, hlk⟩ (fun hHeld => ?_)
       generalize w6.drew = w7 at *
       clear hX7 hlk
       refine with_tabW covT.tab15 covT.bits15 (fun HT_ HW_ => ?_)
       refine pu 0 45 (Bs 1 13) HT_ ?_
       refine pu 1 46 (Bs 2 13) HT_ ?_
       refine pu 2 47 (Bs 3 13) HT_ ?_
       refine pu 3 48 (Bs 4 13) HT_ ?_
       refine pu 4 49 (Bs 5 13) HT_ ?_
       refine pu 5 50 (Bs 6 13) HT_ ?_
       refine ta 6 51 (Bs 7 13) HT_ HW_ hHeld ?_ (hy := by intro W hb; have hc1 := HX2.out W hb.1; go_simp; with_reducible rfl)
       refine pu 7 52 (Bs 8 13) HT_ ?_
       refine ta 8 53 (Bs 9 13) HT_ HW_ hHeld ?_ (hy := by intro W hb; have hc2 := hb.2; go_simp; with_reducible rfl)
       refine pu 9 54 (Bs 10 13) HT_ ?_
       obtain ⟨v0, st, w8, r1, ⟨D1, hM8⟩, g8, r3⟩ := mp_entry HM7.out HKB.out HOK.out.1 HOK.out.2
       obtain ⟨w9, r4, ⟨D3, hM9⟩, g9⟩ := r3 w8 (c + 1) HCB.out rfl
       have hne : some g ≠ some b := fun e => HNb.out (Option.some.inj e)
       have HX8 : Aside0 (B58 w8 g t.f0 t.f1 t.f2) := ⟨grown_blk g8 HX7.out hne⟩
       have HX9 : Aside0 (B58 w9 g t.f0 t.f1 t.f2) := ⟨grown_blk g9 HX8.out hne⟩
       have HB8 := Aside0.mk (HB7.out.grown g8 HB7.out.size (fun k e => by obtain rfl := Option.some.inj e; exact HG.out))
       have HB9 := Aside0.mk (HB8.out.grown g9 HB8.out.size (fun k e => by obtain rfl := Option.some.inj e; exact HG.out))
       have hl8 := mp_look hM8 HOK.out.1 HOK.out.2
       rw [← HC.out] at hl8
       have HM9 : Aside0 (∃ D, Mp w9 b (3 * i + (k + 1)) D (fun a d => cntI ts a d i + cnt1 t a d (k + 1))) := ⟨⟨D3, by rw [← putF_cnt HCN.out HC.out]; exact hM9⟩⟩
       have HL8 := Aside0.mk hl8
       clear r3 hM8 hM9 g8 g9 hl8 hne HM7 HX7
       refine one_ (i := 10) (N := some 55) (Bs 11 13) rfl rfl (one_of HT_.out (by kernel_rfl)) (by decide) (fun K hK => ?_)
       unfold kv at r1
       refine value_ (w1 := w8) (v := .tuple #[v0, st]) (by rfl) rfl (by go_simp) (hK.out _ _ ⟨HX8.out, HL8.out⟩ (fun _ => ?_))
       clear hK K r1
       refine nm 55 ?_
       refine pu 11 56 (Bs 12 13) HT_ ?_
       refine last_ (i := 12) (N := none) (Bs 13 13) rfl rfl (one_of HT_.out (by kernel_rfl)) (by decide) (fun K hK => ?_)
       refine skip_ (w1 := w9) (by rfl) rfl (by go_simp) (hK.out _ _ ?_)
       clear hK K r4
       refine done_ (done_of HT_.out (by kernel_rfl)) ?_
       clear hm2 hm4 hs3 i3 hcw hci hix
       go_wp2
       go_roundg gr
       case measure => exact Nat.lt_succ_self _
       case rel => exact ⟨k + 1, HKQ.out, by go_num, HK1, HM9, HX9, HB9⟩
      ·have HW1 := Aside0.mk (fun W => plane_within.calls (tk t k) 0 (wrap64 (((l0.length : Nat) : Int) - 1)) false W (by rw [within_is, decide_eq_false (by rw [hmw]; omega)]))
       have HNO : Aside0 (refCovB l0 (senseS l0) ts = false) := ⟨ref_bad HLT.out (by
        rw [← HT.out]; unfold okTri
        have : inT l0.length t = false := by
         cases e : inT l0.length t with
         | false => rfl
         | true =>
          unfold inT at e
          simp only [Bool.and_eq_true, decide_eq_true_eq] at e
          exfalso; apply hr
          unfold tk
          split
          ·exact e.1
          ·split
           ·exact e.2.1
           ·exact e.2.2
        rw [this, Bool.false_and])⟩
       clear hr hmw
       go_wp2_with (first | (go_at_call 77; go_must (refine (HW1.out _).mono ?_); rintro e w6 ⟨rfl, nd, rfl⟩; have HB6 := Aside0.mk (lN HB.out nd)))
       go_ret
       exact ⟨by rw [covR_no HNO.out]; rfl, HB6.out⟩
     ·obtain rfl : k = 3 := by omega
      clear hk3 hk
      go_wp2
      have hin : inT l0.length t = true := by
       have h0 := HK.out 0 (by omega); have h1 := HK.out 1 (by omega); have h2 := HK.out 2 (by omega)
       unfold tk at h0 h1 h2
       unfold inT
       rw [decide_eq_true (by simpa using h0), decide_eq_true (by simpa using h1), decide_eq_true (by simpa using h2)]; rfl
      have h0 := HK.out 0 (by omega); have h1 := HK.out 1 (by omega); have h2 := HK.out 2 (by omega)
      obtain ⟨y0, hy0⟩ : ∃ y : Nat, t.f0 = ((y : Nat) : Int) := ⟨t.f0.toNat, by have := h0.1; simp [tk] at this; omega⟩
      obtain ⟨y1, hy1⟩ : ∃ y : Nat, t.f1 = ((y : Nat) : Int) := ⟨t.f1.toNat, by have := h1.1; simp [tk] at this; omega⟩
      obtain ⟨y2, hy2⟩ : ∃ y : Nat, t.f2 = ((y : Nat) : Int) := ⟨t.f2.toNat, by have := h2.1; simp [tk] at this; omega⟩
      have l0' : y0 < l0.length := by have := h0.2; simp [tk] at this; omega
      have l1' : y1 < l0.length := by have := h1.2; simp [tk] at this; omega
      have l2' : y2 < l0.length := by have := h2.2; simp [tk] at this; omega
      have hok := HF.out.2.2.1
      have HTU := Aside0.mk (fun W => plane_turn.calls (pt l0 y0).f0 (pt l0 y0).f1 (pt l0 y1).f0 (pt l0 y1).f1 (pt l0 y2).f0 (pt l0 y2).f1 _ W (turn_is (pt_ok hok l0') (pt_ok hok l1') (pt_ok hok l2')))
      have HTT : Aside0 (turnT l0 t = sgn (crs (pt l0 y0) (pt l0 y1) (pt l0 y2))) := ⟨by unfold turnT; rw [hy0, hy1, hy2, Int.toNat_natCast, Int.toNat_natCast, Int.toNat_natCast]⟩
      have HIN := Aside0.mk hin
      obtain ⟨ap, rfl, _⟩ := at_T31 HR0.out ((y0 : Nat) : Int) (Int.natCast_nonneg _) (lt_N l0' rfl)
      have HP := Aside0.mk (show ∀ W, Below w.heap.size w W → ∀ i, i < l0.length → W.cell? (ap.add (i * 2)) = some (.int .i64 (pt l0 i).f0) ∧ W.cell? ⟨(ap.add (i * 2)).block, (ap.add (i * 2)).off + 1, none⟩ = some (.int .i64 (pt l0 i).f1) from fun W hb i hi => by
       obtain ⟨ap2, e2, hx, hy⟩ := at_T31 (Kd.C_below HR0.out hb) ((i : Nat) : Int) (Int.natCast_nonneg _) (lt_N hi rfl)
       obtain rfl : ap = ap2 := by injection e2
       rw [rd31, Int.toNat_natCast] at hx hy
       exact ⟨hx, hy⟩)
      have j0 : ((y0 : Nat) : Int) < ((l0.length : Nat) : Int) := lt_N l0' rfl
      have j1 : ((y1 : Nat) : Int) < ((l0.length : Nat) : Int) := lt_N l1' rfl
      have j2 : ((y2 : Nat) : Int) < ((l0.length : Nat) : Int) := lt_N l2' rfl
      have hX7 : B58 wr.drew g t.f0 t.f1 t.f2 := HX.out
      obtain ⟨d0, d1, d2⟩ := B58.cells hX7
      rw [hy0] at d0; rw [hy1] at d1; rw [hy2] at d2
      have HB7 := Aside0.mk (below_drew1 HB.out)
      have HM7 : Aside0 (∃ D, Mp wr.drew b (3 * i + 3) D (fun a d => cntI ts a d i + cnt1 t a d 3)) := ⟨HM.out⟩
      obtain ⟨a0, a1⟩ := HP.out _ HB7.out y0 l0'
      obtain ⟨b0, b1⟩ := HP.out _ HB7.out y1 l1'
      obtain ⟨e0, e1⟩ := HP.out _ HB7.out y2 l2'
      clear HK HM HX HB hX7 hin h0 h1 h2 hok l0' l1' l2'
      rw [hy0, hy1, hy2]
      clear hy0 hy1 hy2
      generalize pt l0 y0 = p0 at *
      generalize pt l0 y1 = p1 at *
      generalize pt l0 y2 = p2 at *
      refine start_ (n := 18) (S := fun W => W.cell? ⟨g, 0, none⟩ = some (.int .i64 ((y0 : Nat) : Int)) ∧ W.cell? ⟨g, 1, none⟩ = some (.int .i64 ((y1 : Nat) : Int)) ∧ W.cell? ⟨g, 2, none⟩ = some (.int .i64 ((y2 : Nat) : Int)) ∧ W.cell? (ap.add (y0 * 2)) = some (.int .i64 p0.f0) ∧ W.cell? ⟨(ap.add (y0 * 2)).block, (ap.add (y0 * 2)).off + 1, none⟩ = some (.int .i64 p0.f1) ∧ W.cell? (ap.add (y1 * 2)) = some (.int .i64 p1.f0) ∧ W.cell? ⟨(ap.add (y1 * 2)).block, (ap.add (y1 * 2)).off + 1, none⟩ = some (.int .i64 p1.f1) ∧ W.cell? (ap.add (y2 * 2)) = some (.int .i64 p2.f0) ∧ W.cell? ⟨(ap.add (y2 * 2)).block, (ap.add (y2 * 2)).off + 1, none⟩ = some (.int .i64 p2.f1)) (ds := [15]) (Bs 0 18) (by kernel_rfl) rfl rfl ⟨d0, d1, d2, a0, a1, b0, b1, e0, e1⟩ (fun hHeld => ?_)
      generalize wr.drew = w7 at *
      clear d0 d1 d2 a0 a1 b0 b1 e0 e1
      refine with_tabW covT.tab17 covT.bits17 (fun HT_ HW_ => ?_)
      refine pu 0 58 (Bs 1 18) HT_ ?_
      refine pu 1 59 (Bs 2 18) HT_ ?_
      refine ta 2 60 (Bs 3 18) HT_ HW_ hHeld ?_
      refine pu 3 61 (Bs 4 18) HT_ ?_
      refine ta 4 62 (Bs 5 18) HT_ HW_ hHeld ?_
      refine pu 5 63 (Bs 6 18) HT_ ?_
      refine pu 6 64 (Bs 7 18) HT_ ?_
      refine ta 7 65 (Bs 8 18) HT_ HW_ hHeld ?_
      refine pu 8 66 (Bs 9 18) HT_ ?_
      refine ta 9 67 (Bs 10 18) HT_ HW_ hHeld ?_
      refine pu 10 68 (Bs 11 18) HT_ ?_
      refine pu 11 69 (Bs 12 18) HT_ ?_
      refine ta 12 70 (Bs 13 18) HT_ HW_ hHeld ?_
      refine pu 13 71 (Bs 14 18) HT_ ?_
      refine ta 14 72 (Bs 15 18) HT_ HW_ hHeld ?_
      refine pu 16 74 (Br [15,1,1,1]) HT_ ?_
      refine last_ (i := 15) (N := some 73) (Bs 17 18) rfl rfl (one_of HT_.out (by kernel_rfl)) (by decide) (fun K hK => ?_)
      refine goes_ Try.func61 (by kernel_rfl) rfl #[.agg #[.int .i64 p0.f0, .int .i64 p0.f1], .agg #[.int .i64 p1.f0, .int .i64 p1.f1], .agg #[.int .i64 p2.f0, .int .i64 p2.f1]] (by rfl) rfl rfl (by (try simp only [List.map_toArray, List.map_cons, List.map_nil]); first | done | rfl) ?_
      refine (HTU.out _).mono ?_
      rintro e w8 ⟨rfl, hb8⟩
      refine ⟨_, rfl, hK.out _ _ ?_⟩
      have HB8 := Aside0.mk (below_step HB7.out hb8)
      have HM8 : Aside0 (∃ D, Mp w8 b (3 * i + 3) D (fun a d => cntI ts a d i + cnt1 t a d 3)) := ⟨HM7.out.imp fun D h => h.kept (bel_grown hb8) (by simp)⟩
      clear hK K hb8
      refine nm 73 ?_
      refine pu 17 75 (Bs 18 18) HT_ ?_
      refine done_ (done_of HT_.out (by kernel_rfl)) ?_
      by_cases htn : sgn (crs p0 p1 p2) = senseS l0
      ·have htb : (sgn (crs p0 p1 p2) != senseS l0) = false := bne_eq_false_iff_eq.mpr htn
       have HU1 : Aside0 (∀ j : Nat, j < i + 1 → okTri l0 (senseS l0) (tt ts j) = true) := ⟨fun j hj => by
        by_cases e : j = i
        ·rw [e, ← HT.out]; unfold okTri; rw [HIN.out, HTT.out, decide_eq_true htn]; rfl
        ·exact HU.out j (by omega)⟩
       have HM9 : Aside0 (∃ D, Mp w8 b (3 * (i + 1)) D (fun a d => cntI ts a d (i + 1))) := ⟨HM8.out.imp fun D h => by rw [HT.out] at h; exact h⟩
       clear htn
       go_wp2
       go_roundg gq
       case measure => exact Nat.lt_succ_self _
       case rel => exact ⟨i + 1, HQ.out, by rw [hsi.out], HU1, HM9, HB8⟩
      ·have htb : (sgn (crs p0 p1 p2) != senseS l0) = true := bne_iff_ne.mpr htn
       have HNO : Aside0 (refCovB l0 (senseS l0) ts = false) := ⟨ref_bad HLT.out (by rw [← HT.out]; unfold okTri; rw [HIN.out, HTT.out, decide_eq_false htn]; rfl)⟩
       clear htn
       go_wp2
       go_ret
       exact ⟨by rw [covR_no HNO.out]; rfl, HB8.out⟩
   ·obtain rfl : i = ts.length := by omega
    clear hlt hi
    have HF2 := Aside0.mk (show 3 ≤ l0.length ∧ l0.length ≤ 512 from ⟨HF.out.1, HF.out.2.1⟩)
    have hz : ((((l0).length : Nat) : Int) == 0) = false := by have := HF2.out; rw [beq_eq_false_iff_ne]; omega
    have hz1 : ((((l0).length : Nat) : Int) != 0) = true := by have := HF2.out; rw [bne_iff_ne]; omega
    have hz3 : ¬ (l0).length = 0 := by have := HF2.out; omega
    have hz4 : ¬ (((l0).length : Nat) : Int) = 0 := by have := HF2.out; omega
    have hz2 : ¬ l0 = [] := fun e => by rw [e] at hz3; simp at hz3
    go_wp2
    have HE0 : Aside0 (∀ j : Nat, j < 0 → cntI ts ((j : Nat) : Int) ((nxn l0.length j : Nat) : Int) ts.length = 1 ∧ cntI ts ((nxn l0.length j : Nat) : Int) ((j : Nat) : Int) ts.length = 0) := ⟨fun j h => absurd h (by omega)⟩
    have HM0 : Aside0 (∃ D, Mp wr b (3 * ts.length + 0) D (edF l0.length (fun a d => cntI ts a d ts.length) 0)) := HM
    go_loopg [78] l0.length (fun q v78 wx => ∃ i : Nat, i + q = l0.length ∧ v78 = .int .i64 i ∧ Aside0 (∀ j : Nat, j < i → cntI ts ((j : Nat) : Int) ((nxn l0.length j : Nat) : Int) ts.length = 1 ∧ cntI ts ((nxn l0.length j : Nat) : Int) ((j : Nat) : Int) ts.length = 0) ∧ Aside0 (∃ D, Mp wx b (3 * ts.length + i) D (edF l0.length (fun a d => cntI ts a d ts.length) i)) ∧ Aside0 (Below w.heap.size w wx))
    case atStart => exact ⟨0, Nat.zero_add _, rfl, HE0, HM0, HB⟩
    case round =>
     obtain ⟨i, hi, rfl, HE, HM, HB⟩ := hrel
     clear HE0 HM0
     by_cases hlt : i < l0.length
     ·obtain ⟨gq, rfl⟩ : ∃ q, gk = q + 1 := ⟨gk - 1, by omega⟩
      have HQ := Aside0.mk (show i + 1 + gq = l0.length by omega)
      have hltI : ((i : Nat) : Int) < ((l0.length : Nat) : Int) := by omega
      have hsi := Aside0.mk (succ_n hlt HF2.out.2)
      have hm2 : Int.tmod (wrap64 (((i : Nat) : Int) + 1)) ((l0.length : Nat) : Int) = ((nxn l0.length i : Nat) : Int) := mod_b hlt HF2.out.2
      have hm4 : Int.tmod (((i : Nat) : Int) + 1) ((l0.length : Nat) : Int) = ((nxn l0.length i : Nat) : Int) := mod_d hlt HF2.out.2
      have hs3 : IntKind.i64.wrap (((i : Nat) : Int) + 1) = ((i : Nat) : Int) + 1 := mod_w3 hlt HF2.out.2
      obtain ⟨D, hD⟩ := HM.out
      have hnx : nxn l0.length i < l0.length := Nat.mod_lt _ (by omega)
      have oi : ok64 ((i : Nat) : Int) := by have := HF2.out.2; exact ok64_of (by omega) (by omega)
      have on : ok64 ((nxn l0.length i : Nat) : Int) := by have := HF2.out.2; exact ok64_of (by omega) (by omega)
      have hkb : 3 * ts.length + i < maxLen := by have := HLE.out; have := HF2.out.2; unfold maxLen; omega
      have hl1 := mp_look hD oi on
      have hl2 := mp_look hD on oi
      obtain ⟨q1, q2⟩ := edF_now (i := i) (fun a d => cntI ts a d ts.length) HF2.out.1 hlt
      rw [q1] at hl1
      rw [q2] at hl2
      obtain ⟨w', hu, hD', hg'⟩ := mp_update hD hkb on oi (v := 1) (by unfold ok64; decide)
      have HB' := Aside0.mk (HB.out.grown hg' HB.out.size (fun k e => by obtain rfl := Option.some.inj e; exact HG.out))
      have HM' : Aside0 (∃ D, Mp w' b (3 * ts.length + (i + 1)) D (edF l0.length (fun a d => cntI ts a d ts.length) (i + 1))) := ⟨⟨_, hD'⟩⟩
      have HBAD := Aside0.mk (edge_bad (l := l0) (way := senseS l0) (ts := ts) HF2.out.1 hlt)
      have HE1 : Aside0 ((cntI ts ((i : Nat) : Int) ((nxn l0.length i : Nat) : Int) ts.length = 1 ∧ cntI ts ((nxn l0.length i : Nat) : Int) ((i : Nat) : Int) ts.length = 0) → ∀ j : Nat, j < i + 1 → cntI ts ((j : Nat) : Int) ((nxn l0.length j : Nat) : Int) ts.length = 1 ∧ cntI ts ((nxn l0.length j : Nat) : Int) ((j : Nat) : Int) ts.length = 0) := ⟨fun h j hj => by
       by_cases e : j = i
       ·rw [e]; exact h
       ·exact HE.out j (by omega)⟩
      clear hi hlt hnx oi on hkb hD hD' hg' q1 q2 HM HE
      unfold kv at hl1 hl2 hu
      generalize nxn l0.length i = nx at *
      generalize cntI ts ((i : Nat) : Int) ((nx : Nat) : Int) ts.length = n1 at *
      generalize cntI ts ((nx : Nat) : Int) ((i : Nat) : Int) ts.length = n2 at *
      by_cases h1 : n1 = 1
      ·have hb1 : (n1 != 1) = false := bne_eq_false_iff_eq.mpr h1
       by_cases h2 : n2 = 0
       ·have hb2 : (n2 != 0) = false := bne_eq_false_iff_eq.mpr h2
        have HE2 := Aside0.mk (HE1.out ⟨h1, h2⟩)
        clear h1 h2 HB
        go_wp2
        go_roundg gq
        case measure => exact Nat.lt_succ_self _
        case rel => exact ⟨i + 1, HQ.out, by go_num, HE2, HM', HB'⟩
       ·have hb2 : (n2 != 0) = true := bne_iff_ne.mpr h2
        have HNO := Aside0.mk (HBAD.out (fun q => h2 q.2))
        clear h1 h2
        go_wp2
        go_ret
        exact ⟨by rw [covR_no HNO.out]; rfl, HB.out⟩
      ·have hb1 : (n1 != 1) = true := bne_iff_ne.mpr h1
       have HNO := Aside0.mk (HBAD.out (fun q => h1 q.1))
       clear h1
       go_wp2
       go_ret
       exact ⟨by rw [covR_no HNO.out]; rfl, HB.out⟩
     ·obtain rfl : i = l0.length := by omega
      clear hlt hi hz hz1 hz2 hz3 hz4
      obtain ⟨D, hD⟩ := HM.out
      have HD := Aside0.mk (show Maps.IsMap D ∧ ∀ x y, ok64 x → ok64 y → D.atKey (kl x y) (.lit (.int .i64 0)) = .lit (.int .i64 (cF l0.length ts x y)) from hD.2)
      have hown := hD.1
      generalize 3 * ts.length + l0.length = nn at *
      clear hD HM
      go_wp2_with (first | (at_range; refine wpList_range_own _ rfl _ 76 rfl 49 3 mK Try.underlying76 _ b nn D rfl hown ?_; intro w0 hrg0 hg0 hs0))
      go_frame
      obtain ⟨r, hr⟩ : ∃ r, r = wr.heap.size := ⟨_, rfl⟩
      rw [← hr] at hrg0
      rw [← hr]
      have HR := Aside0.mk (show w.heap.size ≤ r from by rw [hr]; exact below_size HB.out)
      have HRG0 := Aside0.mk hrg0
      have HB0 := Aside0.mk (below_step HB.out ⟨hg0.os, hg0.tape, hg0.output, hg0.size, fun k hk => hg0.block k hk (by simp)⟩)
      have HL0 : Aside0 (∀ x y, ok64 x → ok64 y → Maps.has D (kl x y) = true → Maps.has D (kl x y) = false → cF l0.length ts y x = cF l0.length ts x y) := ⟨fun x y _ _ h h' => by rw [h] at h'; cases h'⟩
      clear hrg0 hg0 hs0 hown hr
      go_loopw [15] (fun _ wx => ∃ (left : Lit → Bool) (cnt : Nat), Aside0 (wx.ranges Try.prog 49 (plainElem Try.prog 3) b r nn D left cnt) ∧ Aside0 (∀ x y, ok64 x → ok64 y → Maps.has D (kl x y) = true → left (kl x y) = false → cF l0.length ts y x = cF l0.length ts x y) ∧ Aside0 (Below w.heap.size w wx)) (fun _ wx => wx.rangeLeft b r)
      case atStart => exact ⟨_, _, HRG0, HL0, HB0⟩
      case round =>
       obtain ⟨left, cnt, HRG, HL, HB⟩ := hrel
       clear HRG0 HL0 HB0
       go_wp2_with (first | (at_next; refine wpList_next_ranges _ rfl _ rfl 49 mK (plainElem Try.prog 3) (fun p : Int × Int => kv p.1 p.2) (fun c : Int => .int .i64 c) (fun key l h => by obtain ⟨x, y, e, _⟩ := key_inv h; exact ⟨(x, y), e⟩) (fun v y h => by obtain ⟨c, e, _⟩ := plainElem_int_inv Try.underlying3 h; exact ⟨c, e⟩) b r nn D left cnt rfl HRG.out ?_ ?_))
       ·intro _ hl0
        have HYES := Aside0.mk (cF_good (way := senseS l0) HF2.out.1 HLE.out HU.out HE.out (map_sym HD.out.2 HF2.out.2 (fun x y ox oy h => HL.out x y ox oy h (hl0 _))))
        clear hl0
        go_wp2
        go_ret
        exact ⟨by rw [covR_yes HYES.out]; rfl, HB.out⟩
       ·intro u v c l y1 y2 w1 cnt1 hkey hleft hRv hat hrg1 hlt hg1 hs1 hen
        obtain ⟨ou, ov, rfl, rfl⟩ := entry_is HD.out.2 hkey hRv hat
        have HOK := Aside0.mk (show ok64 u ∧ ok64 v from ⟨ou, ov⟩)
        have HL1 : Aside0 (cF l0.length ts v u = cF l0.length ts u v → ∀ x y, ok64 x → ok64 y → Maps.has D (kl x y) = true → (left (kl x y) && !(kl x y).sameKey (kl u v)) = false → cF l0.length ts y x = cF l0.length ts x y) := ⟨fun hg x y ox oy hh hl => by
         by_cases e : left (kl x y) = true
         ·rw [e, Bool.true_and, Bool.not_eq_false'] at hl
          obtain ⟨rfl, rfl⟩ := kl_inj ox oy ou ov (WideAt.sameKey_eq hl)
          exact hg
         ·exact HL.out x y ox oy hh (by rwa [Bool.not_eq_true] at e)⟩
        have HBAD := Aside0.mk (fun hne => cF_bad (l := l0) (way := senseS l0) (ts := ts) HF2.out.1 HU.out (fun j hj => (HE.out j hj).1) (x := u) (y := v) hne)
        have HRG1 := Aside0.mk hrg1
        have HLT := Aside0.mk (show w1.rangeLeft b r < wr.rangeLeft b r from by rw [hrg1.left_eq, HRG.out.left_eq]; exact hlt)
        have HB1 := Aside0.mk (HB.out.grown hg1 HB.out.size (fun k e => by obtain rfl := Option.some.inj e; exact HR.out))
        unfold kv at hen
        clear hkey hleft hRv hat hrg1 hlt hg1 hs1 ou ov HRG
        have HQ : Aside0 (r ≠ b) := ⟨HRG1.out.ne⟩
        obtain ⟨c1, hc1⟩ : ∃ c, c = cF l0.length ts u v := ⟨_, rfl⟩
        obtain ⟨c2, hc2⟩ : ∃ c, c = cF l0.length ts v u := ⟨_, rfl⟩
        rw [← hc1] at hen ⊢
        have HC := Aside0.mk (show c1 = cF l0.length ts u v ∧ c2 = cF l0.length ts v u from ⟨hc1, hc2⟩)
        clear hc1 hc2
        obtain ⟨e2, he2⟩ : ∃ x, (c2 != c1) = x := ⟨_, rfl⟩
        have HE2 := Aside0.mk he2
        rcases e2 with _ | _
        all_goals go_wp2_with (first
         | ((with_reducible refine gate_dst (N := 14) rfl ?_); refine bxe 14 #[.int .i64 0, .int .i64 0] 49 ?_; intro g hg w4 hbox hb4; have HX4 := Aside0.mk hbox; have HNg := Aside0.mk (show g ≠ b ∧ g ≠ r from by have := HRG1.out.lt; have := HRG1.out.owns.lt; omega); have HGg := Aside0.mk (show w.heap.size ≤ g from by rw [hg]; exact below_size HB1.out); have HRG4 := Aside0.mk (HRG1.out.kept (bel_grown hb4) (by simp) (by simp)); have HB4 := Aside0.mk (below_step HB1.out hb4); clear hg hbox hb4)
         | ((with_reducible refine gate_store (t := 49) (p := 14) rfl ?_); refine st49 HX4.out rfl rfl rfl rfl rfl ?_; intro w5 hx5 hg5; have HRG5 := Aside0.mk (HRG4.out.kept hg5 (fun e => HNg.out.1 (Option.some.inj e).symm) (fun e => HNg.out.2 (Option.some.inj e).symm)); have HB5 := Aside0.mk (HB4.out.grown hg5 HB4.out.size (fun k e => by obtain rfl := Option.some.inj e; exact HGg.out)); obtain ⟨d0, d1⟩ := B49.cells hx5; have hlk : (Instr.lookup 76 (.map (some b)) (.agg #[.int .i64 v, .int .i64 u]) false).run Try.prog w5 = .ok (.int .i64 c2) w5 := (mp_look (n := nn) (D := D) ⟨HRG5.out.owns, HD.out⟩ HOK.out.2 HOK.out.1).trans (by rw [HC.out.2]); clear hx5 hg5))
        ·have hgd := HL1.out (by rw [← HC.out.1, ← HC.out.2]; exact bne_eq_false_iff_eq.mp HE2.out)
         have HL2 := Aside0.mk hgd
         have HLT2 := Aside0.mk (show w5.rangeLeft b r < wr.rangeLeft b r from by have := HLT.out; rw [HRG1.out.left_eq] at this; rw [HRG5.out.left_eq]; exact this)
         clear hgd he2 hlk d0 d1
         go_roundw
         case rel => exact ⟨_, _, HRG5, HL2, HB5⟩
         case measure => exact HLT2.out
        ·have HNO := Aside0.mk (HBAD.out (by rw [← HC.out.1, ← HC.out.2]; exact bne_iff_ne.mp HE2.out))
         go_ret
         exact ⟨by rw [covR_no HNO.out]; rfl, HB5.out⟩
 ·have hlenB : (((ts.length : Nat) : Int) != wrap64 (((l0.length : Nat) : Int) - 2)) = true := by rw [w64i (by omega) (by omega), bne_iff_ne]; exact hlen
  have HLE := Aside0.mk (ref_len (way := senseS l0) hlen)
  clear hlen hs hwf k1 h3 h5 hok hkS hr0 hr1
  go_enter Try.func48, Try.ntmps48
  go_wp2_with (first | (go_at_call 25; go_must (refine (HS.out _ HB.out).mono ?_); rintro e w1 ⟨rfl, hb1⟩; have HB1 := Aside0.mk (below_step HB.out hb1); clear hb1) | (go_at_call 76; go_must (refine (HW.out _ HB1.out).mono ?_); rintro e w2 ⟨rfl, hb2⟩; have HB2 := Aside0.mk (below_step HB1.out hb2); clear hb2))
  go_ret
  exact ⟨by rw [covR_no HLE.out]; rfl, HB2.out⟩
set_option maxHeartbeats 4000000 in
set_option maxRecDepth 100000 in
theorem cov_no (A0 : Option Addr) (c0 : Nat) (l0 : List S31) (a1 : Value) (w : World) (hr0 : Kd.C k31 w A0 l0.length l0) (hc0 : l0.length ≤ c0) (hs : simpleS l0 = false) :
  Calls Try.prog 48 #[.slice A0 l0.length c0, a1] w fun e w' => e = .returned (.int .i64 2) ∧ Below w.heap.size w w' := by
 obtain ⟨k, hk⟩ := simple_ev l0
 rw [hs] at hk
 have HS := Aside0.mk (fun W (hb : Below w.heap.size w W) => plane_Simple.calls k A0 c0 l0 _ W (Kd.C_below hr0 hb) hc0 hk)
 have HB := Aside0.mk (Below.refl w.heap.size w)
 clear hr0 hk hs
 go_enter Try.func48, Try.ntmps48
 go_wp2_with (first | (go_at_call 25; go_must (refine (HS.out _ HB.out).mono ?_); rintro e w1 ⟨rfl, hb1⟩; have HB1 := Aside0.mk (below_step HB.out hb1); clear hb1))
 go_ret
 exact ⟨rfl, HB1.out⟩
def wfB (t : S58) : Bool := (Lit.int .i64 t.f0).wf && ((Lit.int .i64 t.f1).wf && (Lit.int .i64 t.f2).wf)
def plane_Covers.f (l0 : List S31) (ts : List S58) : Option Int := if ts.all wfB = true then some (if simpleS l0 = true then covR l0 ts else 2) else none
theorem plane_Covers.calls (A0 : Option Addr) (c0 : Nat) (l0 : List S31) (A1 : Option Addr) (c1 : Nat) (l1 : List S58) (r : Int) (w : World) (hr0 : Kd.C k31 w A0 l0.length l0) (hc0 : l0.length ≤ c0) (hr1 : Kd.C k58 w A1 l1.length l1) (hc1 : l1.length ≤ c1) (h : plane_Covers.f l0 l1 = some r) :
  Calls Try.prog 48 #[.slice A0 l0.length c0, .slice A1 l1.length c1] w fun e w' => e = .returned (.int .i64 r) ∧ Below w.heap.size w w' := by
 unfold plane_Covers.f at h
 by_cases hw : l1.all wfB = true
 ·rw [if_pos hw] at h
  obtain rfl := Option.some.inj h
  by_cases hs : simpleS l0 = true
  ·rw [if_pos hs]
   refine cov_yes A0 c0 l0 A1 c1 l1 w hr0 hc0 hr1 hc1 hs (fun t ht => ?_)
   have := List.all_eq_true.1 hw t ht
   unfold wfB at this
   simp only [Bool.and_eq_true] at this
   exact this
  ·rw [if_neg hs]
   rw [Bool.not_eq_true] at hs
   exact cov_no A0 c0 l0 _ w hr0 hc0 hs
 ·rw [if_neg hw] at h; cases h
theorem sq_w {n : Nat} (h : n ≤ 512) : wrap64 (((n : Nat) : Int) * ((n : Nat) : Int)) = ((n * n : Nat) : Int) := by
 have := Nat.mul_le_mul h h
 rw [show ((n : Nat) : Int) * ((n : Nat) : Int) = ((n * n : Nat) : Int) by push_cast; rfl]
 exact w64i (by omega) (by omega)
theorem succ_w {b n : Nat} (h : b < n) (hn : n ≤ 512) : wrap64 (((b : Nat) : Int) + 1) = ((b + 1 : Nat) : Int) := w64i (by omega) (by omega)
theorem sq_pos {n : Nat} (h : 3 ≤ n) : 0 < n * n := Nat.mul_pos (by omega) (by omega)
def refcR.T14 : Bool × List (List Nat × List Nat) := (true, [([], []), ([], []), ([], []), ([1, 2], [1, 2]), ([3], [3]), ([4], [4]), ([0, 5], [0, 5]), ([6], [6]), ([], []), ([], []), ([], []), ([9, 10], [9, 10]), ([11], [11]), ([12], [12]), ([8, 13], [8, 13]), ([14], [14]), ([], []), ([], []), ([], []), ([17, 18], [17, 18]), ([19], [19]), ([20], [20]), ([16, 21], [16, 21]), ([22], [22]), ([7, 15, 23], [7, 15, 23]), ([], []), ([24, 25], [24, 25])])
def refcR.B14 : List Nat := [0, 0, 0, 6, 14, 30, 63, 127, 0, 0, 0, 1536, 3584, 7680, 16128, 32512, 0, 0, 0, 393216, 917504, 1966080, 4128768, 8323072, 16777215, 0, 67108863]
theorem refcR.tab14 : rtab .any (opsOf Try.f49 14) = refcR.T14 := by kernel_rfl
theorem refcR.bits14 : waitsOk refcR.T14.2 refcR.B14 = true := by kernel_rfl
def refcR.T19 : Bool × List (List Nat × List Nat) := (true, [([], []), ([], []), ([], []), ([0, 1], [0, 1]), ([3, 2], [2, 3]), ([4], [4]), ([], []), ([5, 6], [5, 6]), ([], []), ([], []), ([], []), ([10], [10]), ([8, 9], [8, 9]), ([12, 11], [11, 12]), ([13], [13]), ([7, 14], [7, 14]), ([15, 11, 0, 1, 2, 3, 4, 5, 6, 7, 8, 9, 10, 11, 12, 13, 14, 15], [15])])
def refcR.B19 : List Nat := [0, 0, 0, 3, 15, 31, 0, 127, 0, 0, 0, 1024, 768, 7936, 16128, 32767, 65535]
theorem refcR.tab19 : rtab .any (opsOf Try.f49 19) = refcR.T19 := by kernel_rfl
theorem refcR.bits19 : waitsOk refcR.T19.2 refcR.B19 = true := by kernel_rfl
def refcR.T30 : Bool × List (List Nat × List Nat) := (true, [([], []), ([], []), ([], []), ([1, 2], [1, 2]), ([0, 3], [0, 3]), ([4, 3], [4]), ([5], [5]), ([5], [5]), ([5], [5]), ([7, 8, 5], [5, 7, 8]), ([5], [5]), ([9, 10, 5], [5, 9, 10]), ([6, 11, 5], [5, 6, 11]), ([12, 5], [5, 12]), ([5], [5]), ([5], [5]), ([5], [5]), ([15, 16, 5], [5, 15, 16]), ([5], [5]), ([17, 18, 5], [5, 17, 18]), ([14, 19, 5], [5, 14, 19]), ([20, 5], [5, 20]), ([13, 21, 5], [5, 13, 21]), ([5, 22], [5, 22]), ([23, 5], [23])])
def refcR.B30 : List Nat := [0, 0, 0, 6, 15, 31, 63, 63, 63, 447, 63, 1983, 4095, 8191, 63, 63, 63, 98367, 63, 491583, 1032255, 2080831, 4194303, 8388607, 16777215]
theorem refcR.tab30 : rtab .any (opsOf Try.f49 30) = refcR.T30 := by kernel_rfl
theorem refcR.bits30 : waitsOk refcR.T30.2 refcR.B30 = true := by kernel_rfl
set_option maxHeartbeats 8000000 in
set_option maxRecDepth 100000 in
theorem refcov_calls (A0 : Option Addr) (c0 : Nat) (l0 : List S31) (A1 : Option Addr) (c1 : Nat) (ts : List S58) (way : Int) (w : World) (hr0 : Kd.C k31 w A0 l0.length l0) (hc0 : l0.length ≤ c0) (hr1 : Kd.C k58 w A1 ts.length ts) (hc1 : ts.length ≤ c1)
  (hok : allOk l0 = true) (hl : 3 ≤ l0.length ∧ l0.length ≤ 512) (kA : Nat) (ar : Int) (hA : R1_Area.f kA l0 = some ar) (hS : R1_Sign.f ar = some way) :
  Calls Try.prog 49 #[.slice A0 l0.length c0, .slice A1 ts.length c1] w fun e w' => e = .returned (.bool (refCovB l0 way ts)) ∧ Below w.heap.size w w' := by
 have HA := Aside0.mk (fun W (hb : Below w.heap.size w W) => R1_Area.calls kA A0 c0 l0 _ W (Kd.C_below hr0 hb) hc0 hA)
 have HSg := Aside0.mk (fun W => R1_Sign.calls ar way W hS)
 have HB := Aside0.mk (Below.refl w.heap.size w)
 have HR0 := Aside0.mk hr0
 have HR1 := Aside0.mk hr1
 have HOK := Aside0.mk hok
 have HL := Aside0.mk hl
 have hu78 := Try.underlying78
 clear hr0 hr1 hA hS hok
 by_cases hlen : (ts.length : Int) = (l0.length : Int) - 2
 ·have hlenB : (((ts.length : Nat) : Int) != wrap64 (((l0.length : Nat) : Int) - 2)) = false := by rw [w64i (by omega) (by omega), bne_eq_false_iff_eq]; exact hlen
  have HLE := Aside0.mk hlen
  have hmw : wrap64 (((l0.length : Nat) : Int) * ((l0.length : Nat) : Int)) = ((l0.length * l0.length : Nat) : Int) := sq_w (n := l0.length) hl.2
  clear hlen hl
  go_enter Try.func49, Try.ntmps49
  go_wp2_with (first | (go_at_call 24; go_must (refine (HA.out _ HB.out).mono ?_); rintro e w1 ⟨rfl, hb1⟩; have HB1 := Aside0.mk (below_step HB.out hb1); clear hb1) | (go_at_call 62; go_must (refine (HSg.out _).mono ?_); rintro e w2 ⟨rfl, nd2, rfl⟩; have HB2 := Aside0.mk (lN HB1.out nd2)) | ((with_reducible refine gate_dst (N := 27) rfl ?_); refine Kd.R_make (Kd.int .i64) (w0 := w) w.heap.size 3 rfl (N := 27) rfl 78 (.tmp 26) (.tmp 26) rfl _ rfl rfl Try.underlying78 (.int .i64 0) 8 info3 rfl (by decide) (by omega) 0 (ok := fun _ => True) (okp := fun _ => False) rfl (fun _ hk => hk.elim) trivial ?h0 ?hl ?hB ?hb ?_; (case h0 => rw [hmw]; exact Int.natCast_nonneg _); (case hl => rw [hmw]; have := Nat.mul_le_mul HL.out.2 HL.out.2; omega); (case hB => exact HB2.out); (case hb => exact HB2.out.size); intro v7 w3 ho3 hb3 hg3 hat3; rw [hmw, Int.toNat_natCast] at ho3; have HC3 := Aside0.mk ho3; have HB3 := Aside0.mk hb3; clear ho3 hb3 hg3 hat3))
  clear HA HSg HB HB1 HB2 hmw hlenB
  obtain ⟨g, cap, rfl, hgb, _⟩ := Kd.R_form HC3.out (by rw [List.length_replicate]; exact sq_pos HL.out.1)
  rw [List.length_replicate] at HC3
  simp only [List.length_replicate]
  have HZ := Aside0.mk (CntOk.zero l0.length)
  have HU0 : Aside0 (∀ j : Nat, j < 0 → okTri l0 way (tt ts j) = true) := ⟨fun j hj => absurd hj (by omega)⟩
  go_loopw [8] (fun v8 wr => ∃ i : Nat, i ≤ ts.length ∧ v8 = .int .i64 i ∧ Aside0 (∀ j : Nat, j < i → okTri l0 way (tt ts j) = true) ∧ (∃ C, Aside0 (CntOk l0.length C (fun a b => cntI ts a b i)) ∧ Aside0 (Kd.R (Kd.int .i64) 3 wr w.heap.size (fun _ => True) (.slice (some ⟨g, 0, none⟩) (l0.length * l0.length) cap) C)) ∧ Aside0 (Below w.heap.size w wr)) (fun v8 _ => ts.length - (intOf v8).toNat)
  case atStart => exact ⟨0, by omega, rfl, HU0, ⟨_, HZ, HC3⟩, HB3⟩
  case round =>
   obtain ⟨i, hi, rfl, HU, ⟨C, HC, HRC⟩, HB⟩ := hrel
   clear HZ HU0 HC3 HB3
   by_cases hlt : i < ts.length
   ·have hltI : ((i : Nat) : Int) < ((ts.length : Nat) : Int) := by omega
    obtain ⟨ad, rfl, _⟩ := at_T58 HR1.out (i : Int) (by omega) (by omega)
    obtain ⟨t, ht⟩ : ∃ t, t = tt ts i := ⟨_, rfl⟩
    have HT := Aside0.mk ht
    have HK0 : Aside0 (∀ j : Nat, j < 0 → 0 ≤ tk t j ∧ tk t j < l0.length) := ⟨fun j hj => absurd hj (by omega)⟩
    clear ht
    go_wp2
    go_loopw [9] (fun v9 wx => ∃ k : Nat, k ≤ 3 ∧ v9 = .int .i64 k ∧ Aside0 (∀ j : Nat, j < k → 0 ≤ tk t j ∧ tk t j < l0.length) ∧ Aside0 (Kd.R (Kd.int .i64) 3 wx w.heap.size (fun _ => True) (.slice (some ⟨g, 0, none⟩) (l0.length * l0.length) cap) C) ∧ Aside0 (Below w.heap.size w wx)) (fun v9 _ => 3 - (intOf v9).toNat)
    case atStart => exact ⟨0, by omega, rfl, HK0, HRC, HB⟩
    case round =>
     obtain ⟨k, hk, rfl, HK, HRC2, HB2⟩ := hrel
     clear HK0 HRC HB
     by_cases hk3 : k < 3
     ·have hk3I : ((k : Nat) : Int) < 3 := by omega
      obtain ⟨ad', e', hx0, hx1, hx2⟩ := at_T58 (Kd.C_below HR1.out HB2.out) (i : Int) (by omega) (by omega)
      obtain rfl : ad = ad' := by injection e'
      have hrd : rd_T58 ts (i : Int) = t := by rw [HT.out]; unfold rd_T58 tt; rw [Int.toNat_natCast]
      rw [hrd, Int.toNat_natCast] at hx0 hx1 hx2
      clear e' hrd
      have HN := Aside0.mk (show k = 0 ∨ k = 1 ∨ k = 2 by omega)
      by_cases hr : 0 ≤ tk t k ∧ tk t k < l0.length
      ·have HK1 : Aside0 (∀ j : Nat, j < k + 1 → 0 ≤ tk t j ∧ tk t j < l0.length) := ⟨fun j hj => by
        by_cases e : j = k
        ·subst e; exact hr
        ·exact HK.out j (by omega)⟩
       rcases HN.out with rfl | rfl | rfl
       ·have b1 : decide (t.f0 < 0) = false := decide_eq_false (fun c => by have := hr.1; unfold tk at this; simp at this; omega)
        have b2 : decide (((l0.length : Nat) : Int) ≤ t.f0) = false := decide_eq_false (fun c => by have := hr.2; unfold tk at this; simp at this; omega)
        clear hr
        go_wp2
        go_roundw
        case rel => exact ⟨1, by omega, by go_num, HK1, HRC2, HB2⟩
        case measure => simp [intOf]
       ·have b1 : decide (t.f1 < 0) = false := decide_eq_false (fun c => by have := hr.1; unfold tk at this; simp at this; omega)
        have b2 : decide (((l0.length : Nat) : Int) ≤ t.f1) = false := decide_eq_false (fun c => by have := hr.2; unfold tk at this; simp at this; omega)
        clear hr
        go_wp2
        go_roundw
        case rel => exact ⟨2, by omega, by go_num, HK1, HRC2, HB2⟩
        case measure => simp [intOf]
       ·have b1 : decide (t.f2 < 0) = false := decide_eq_false (fun c => by have := hr.1; unfold tk at this; simp at this; omega)
        have b2 : decide (((l0.length : Nat) : Int) ≤ t.f2) = false := decide_eq_false (fun c => by have := hr.2; unfold tk at this; simp at this; omega)
        clear hr
        go_wp2
        go_roundw
        case rel => exact ⟨3, by omega, by go_num, HK1, HRC2, HB2⟩
        case measure => simp [intOf]
      ·have HV : Aside0 (refCovB l0 way ts = false) := ⟨by
        refine ref_bad hlt ?_
        rw [← HT.out]
        unfold okTri
        have : inT l0.length t = false := by
         unfold inT
         rcases HN.out with rfl | rfl | rfl <;> (unfold tk at hr; simp at hr ⊢; omega)
        rw [this]; rfl⟩
       rcases HN.out with rfl | rfl | rfl
       ·by_cases b1 : t.f0 < 0
        ·have b1' : decide (t.f0 < 0) = true := decide_eq_true b1
         clear hr b1
         go_wp2
         go_ret
         exact ⟨by rw [HV.out]; rfl, HB2.out⟩
        ·have b1' : decide (t.f0 < 0) = false := decide_eq_false b1
         have b2 : decide (((l0.length : Nat) : Int) ≤ t.f0) = true := decide_eq_true (by unfold tk at hr; simp at hr; omega)
         clear hr b1
         go_wp2
         go_ret
         exact ⟨by rw [HV.out]; rfl, HB2.out⟩
       ·by_cases b1 : t.f1 < 0
        ·have b1' : decide (t.f1 < 0) = true := decide_eq_true b1
         clear hr b1
         go_wp2
         go_ret
         exact ⟨by rw [HV.out]; rfl, HB2.out⟩
        ·have b1' : decide (t.f1 < 0) = false := decide_eq_false b1
         have b2 : decide (((l0.length : Nat) : Int) ≤ t.f1) = true := decide_eq_true (by unfold tk at hr; simp at hr; omega)
         clear hr b1
         go_wp2
         go_ret
         exact ⟨by rw [HV.out]; rfl, HB2.out⟩
       ·by_cases b1 : t.f2 < 0
        ·have b1' : decide (t.f2 < 0) = true := decide_eq_true b1
         clear hr b1
         go_wp2
         go_ret
         exact ⟨by rw [HV.out]; rfl, HB2.out⟩
        ·have b1' : decide (t.f2 < 0) = false := decide_eq_false b1
         have b2 : decide (((l0.length : Nat) : Int) ≤ t.f2) = true := decide_eq_true (by unfold tk at hr; simp at hr; omega)
         clear hr b1
         go_wp2
         go_ret
         exact ⟨by rw [HV.out]; rfl, HB2.out⟩
     ·obtain rfl : k = 3 := by omega
      obtain ⟨ad', e', hx0, hx1, hx2⟩ := at_T58 (Kd.C_below HR1.out HB2.out) (i : Int) (by omega) (by omega)
      obtain rfl : ad = ad' := by injection e'
      have hrd : rd_T58 ts (i : Int) = t := by rw [HT.out]; unfold rd_T58 tt; rw [Int.toNat_natCast]
      rw [hrd, Int.toNat_natCast] at hx0 hx1 hx2
      clear e' hrd
      have k0 : 0 ≤ t.f0 ∧ t.f0 < l0.length := HK.out 0 (by omega)
      have k1 : 0 ≤ t.f1 ∧ t.f1 < l0.length := HK.out 1 (by omega)
      have k2 : 0 ≤ t.f2 ∧ t.f2 < l0.length := HK.out 2 (by omega)
      have HI := Aside0.mk (show inT l0.length t = true by unfold inT; rw [decide_eq_true k0, decide_eq_true k1, decide_eq_true k2]; rfl)
      obtain ⟨ap, rfl, hp0, hp1⟩ := at_T31 (Kd.C_below HR0.out HB2.out) t.f0 k0.1 k0.2
      obtain ⟨ap2, e2, hq0, hq1⟩ := at_T31 (Kd.C_below HR0.out HB2.out) t.f1 k1.1 k1.2
      obtain ⟨ap3, e3, hr0, hr1⟩ := at_T31 (Kd.C_below HR0.out HB2.out) t.f2 k2.1 k2.2
      obtain rfl : ap = ap2 := by injection e2
      obtain rfl : ap = ap3 := by injection e3
      have HTN : Aside0 (R1_Turn.f (pt l0 t.f0.toNat).f0 (pt l0 t.f0.toNat).f1 (pt l0 t.f1.toNat).f0 (pt l0 t.f1.toNat).f1 (pt l0 t.f2.toNat).f0 (pt l0 t.f2.toNat).f1 = some (turnT l0 t)) := ⟨by
       rw [refturn_same]; exact turn_is (pt_ok HOK.out (by omega)) (pt_ok HOK.out (by omega)) (pt_ok HOK.out (by omega))⟩
      rw [show rd_T31 l0 t.f0 = pt l0 t.f0.toNat from rfl] at hp0 hp1
      rw [show rd_T31 l0 t.f1 = pt l0 t.f1.toNat from rfl] at hq0 hq1
      rw [show rd_T31 l0 t.f2 = pt l0 t.f2.toNat from rfl] at hr0 hr1
      have HW := Aside0.mk (show okTri l0 way t = decide (turnT l0 t = way) by unfold okTri; rw [HI.out, Bool.true_and])
      generalize turnT l0 t = tn at *
      generalize pt l0 t.f0.toNat = p at *
      generalize pt l0 t.f1.toNat = q at *
      generalize pt l0 t.f2.toNat = r at *
      have HK' := Aside0.mk (show (0 ≤ t.f0 ∧ t.f0 < l0.length) ∧ (0 ≤ t.f1 ∧ t.f1 < l0.length) ∧ (0 ≤ t.f2 ∧ t.f2 < l0.length) from ⟨k0, k1, k2⟩)
      have HRC4 := Aside0.mk (Kd.R_drew HRC2.out)
      have HB4 := Aside0.mk (below_drew HB2.out)
      obtain ⟨k0a, k0b⟩ := k0
      obtain ⟨k1a, k1b⟩ := k1
      obtain ⟨k2a, k2b⟩ := k2
      clear e2 e3 HRC2 HB2 HK
      by_cases htn : tn = way
      ·have hb1 : (tn != way) = false := by rw [bne_eq_false_iff_eq]; exact htn
       go_wp2
       refine start_ (n := 27) (S := fun w' => w'.cell? (ad.add (i * 3)) = some (.int .i64 t.f0) ∧ w'.cell? ⟨(ad.add (i * 3)).block, (ad.add (i * 3)).off + 1, none⟩ = some (.int .i64 t.f1) ∧ w'.cell? ⟨(ad.add (i * 3)).block, (ad.add (i * 3)).off + 2, none⟩ = some (.int .i64 t.f2) ∧ w'.cell? (ap.add (t.f0.toNat * 2)) = some (.int .i64 p.f0) ∧ w'.cell? ⟨(ap.add (t.f0.toNat * 2)).block, (ap.add (t.f0.toNat * 2)).off + 1, none⟩ = some (.int .i64 p.f1) ∧ w'.cell? (ap.add (t.f1.toNat * 2)) = some (.int .i64 q.f0) ∧ w'.cell? ⟨(ap.add (t.f1.toNat * 2)).block, (ap.add (t.f1.toNat * 2)).off + 1, none⟩ = some (.int .i64 q.f1) ∧ w'.cell? (ap.add (t.f2.toNat * 2)) = some (.int .i64 r.f0) ∧ w'.cell? ⟨(ap.add (t.f2.toNat * 2)).block, (ap.add (t.f2.toNat * 2)).off + 1, none⟩ = some (.int .i64 r.f1)) (ds := [24]) (Bs 0 27) (by kernel_rfl) rfl rfl ⟨hx0, hx1, hx2, hp0, hp1, hq0, hq1, hr0, hr1⟩ (fun hHeld => ?_)
       generalize wr.drew = w4 at HRC4 HB4 hx0 hx1 hx2 hp0 hp1 hq0 hq1 hr0 hr1 hHeld ⊢
       refine with_tabW refcR.tab14 refcR.bits14 (fun HT_ HW_ => ?_)
       refine pu 0 55 (Bs 1 27) HT_ ?_
       refine pu 1 56 (Bs 2 27) HT_ ?_
       refine pu 2 57 (Bs 3 27) HT_ ?_
       refine pu 3 58 (Bs 4 27) HT_ ?_
       refine pu 4 59 (Bs 5 27) HT_ ?_
       refine pu 8 63 (Br [5,3,1,18]) HT_ ?_
       refine pu 9 64 (Br [5,3,2,17]) HT_ ?_
       refine pu 10 65 (Br [5,3,3,16]) HT_ ?_
       refine pu 11 66 (Br [5,3,4,15]) HT_ ?_
       refine pu 12 67 (Br [5,3,5,14]) HT_ ?_
       refine pu 16 71 (Br [5,3,5,3,1,10]) HT_ ?_
       refine pu 17 72 (Br [5,3,5,3,2,9]) HT_ ?_
       refine pu 18 73 (Br [5,3,5,3,3,8]) HT_ ?_
       refine pu 19 74 (Br [5,3,5,3,4,7]) HT_ ?_
       refine pu 20 75 (Br [5,3,5,3,5,6]) HT_ ?_
       refine pu 25 80 (Br [5,3,5,3,5,4,1,1]) HT_ ?_
       refine ta 5 60 (Br [6,2,5,3,5,4,1,1]) HT_ HW_ hHeld ?_
       refine pu 6 61 (Br [7,1,5,3,5,4,1,1]) HT_ ?_
       refine ta 7 62 (Br [13,3,5,4,1,1]) HT_ HW_ hHeld ?_
       refine ta 13 68 (Br [14,2,5,4,1,1]) HT_ HW_ hHeld ?_
       refine pu 14 69 (Br [15,1,5,4,1,1]) HT_ ?_
       refine ta 15 70 (Br [21,4,1,1]) HT_ HW_ hHeld ?_
       refine ta 21 76 (Br [22,3,1,1]) HT_ HW_ hHeld ?_
       refine pu 22 77 (Br [23,2,1,1]) HT_ ?_
       refine ta 23 78 (Br [24,1,1,1]) HT_ HW_ hHeld ?_
       refine last_ (i := 24) (N := some 79) (Bs 26 27) rfl rfl (one_of HT_.out (by kernel_rfl)) (by decide) (fun K hK => ?_)
       refine goes_ Try.func31 (by kernel_rfl) rfl #[.agg #[.int .i64 p.f0, .int .i64 p.f1], .agg #[.int .i64 q.f0, .int .i64 q.f1], .agg #[.int .i64 r.f0, .int .i64 r.f1]] (by rfl) rfl rfl (by simp only [List.map_toArray, List.map_cons, List.map_nil]; rfl) ?_
       with_reducible refine (R1_Turn.calls _ _ _ _ _ _ _ _ HTN.out).mono ?_
       rintro e w5 ⟨rfl, hb5⟩
       refine ⟨_, rfl, ?_⟩
       have HRC5 := Aside0.mk (Kd.R_below HRC4.out hb5)
       have HB5 := Aside0.mk (below_step HB4.out hb5)
       clear hb5
       refine hK.out _ _ ?_
       clear hK K
       refine nm 79 ?_
       refine pu 26 81 (Bs 27 27) HT_ ?_
       refine done_ (done_of HT_.out (by kernel_rfl)) ?_
       clear hx0 hx1 hx2 hp0 hp1 hq0 hq1 hr0 hr1 HTN HRC4 HB4
       have HU1 : Aside0 (∀ j : Nat, j < i + 1 → okTri l0 way (tt ts j) = true) := ⟨fun j hj => by
        by_cases e : j = i
        ·subst e; rw [← HT.out, HW.out]; exact decide_eq_true htn
        ·exact HU.out j (by omega)⟩
       have HC0 : Aside0 (CntOk l0.length C (fun a b => cntI ts a b i + cnt1 t a b 0)) := ⟨by
        have e : (fun a b : Int => cntI ts a b i + cnt1 t a b 0) = fun a b => cntI ts a b i := by funext a b; show cntI ts a b i + 0 = _; omega
        rw [e]; exact HC.out⟩
       go_wp2
       go_loopw [10] (fun v10 wx => ∃ k : Nat, k ≤ 3 ∧ v10 = .int .i64 k ∧ (∃ C', Aside0 (CntOk l0.length C' (fun a b => cntI ts a b i + cnt1 t a b k)) ∧ Aside0 (Kd.R (Kd.int .i64) 3 wx w.heap.size (fun _ => True) (.slice (some ⟨g, 0, none⟩) (l0.length * l0.length) cap) C')) ∧ Aside0 (Below w.heap.size w wx)) (fun v10 _ => 3 - (intOf v10).toNat)
       case atStart => exact ⟨0, by omega, rfl, ⟨C, HC0, HRC5⟩, HB5⟩
       case round =>
        obtain ⟨k, hk, rfl, ⟨C', HC', HRC'⟩, HB'⟩ := hrel
        clear HC0 HRC5 HB5 HC
        by_cases hk3 : k < 3
        ·have hk3I : ((k : Nat) : Int) < 3 := by omega
         obtain ⟨ad', e', hx0, hx1, hx2⟩ := at_T58 (Kd.C_below HR1.out HB'.out) (i : Int) (by omega) (by omega)
         obtain rfl : ad = ad' := by injection e'
         have hrd : rd_T58 ts (i : Int) = t := by rw [HT.out]; unfold rd_T58 tt; rw [Int.toNat_natCast]
         rw [hrd, Int.toNat_natCast] at hx0 hx1 hx2
         clear e' hrd
         have HRC4 := Aside0.mk (Kd.R_drew HRC'.out)
         have HB4 := Aside0.mk (below_drew HB'.out)
         have HBD := Aside0.mk (cntI_bd ts (tk t k) (tk t ((k + 1) % 3)) i)
         have HBD2 := Aside0.mk (cnt1_bd t (tk t k) (tk t ((k + 1) % 3)) k)
         have HN : k = 0 ∨ k = 1 ∨ k = 2 := by omega
         clear HRC' HB'
         rcases HN with rfl | rfl | rfl
         ·have HNX : Aside0 (R1_next.f 0 3 = some 1) := ⟨by decide +kernel⟩
          have hsd := side_w HL.out.2 HK'.out.1 HK'.out.2.1
          have hsc := side_cnt HC'.out HK'.out.1 HK'.out.2.1
          have hsl := idx_lt (n := l0.length) (a := t.f0.toNat) (b := t.f1.toNat) (by have := HK'.out.1; omega) (by have := HK'.out.2.1; omega)
          have HPU := Aside0.mk (side_put HC'.out HK'.out.1 HK'.out.2.1)
          obtain ⟨ix, hix⟩ : ∃ ix, ix = t.f0.toNat * l0.length + t.f1.toNat := ⟨_, rfl⟩
          rw [← hix] at hsd hsc hsl
          have HPU' : Aside0 (CntOk l0.length (C'.set ix (cntI ts (tk t 0) (tk t ((0 + 1) % 3)) i + cnt1 t (tk t 0) (tk t ((0 + 1) % 3)) 0 + 1)) (fun a b => cntI ts a b i + cnt1 t a b (0 + 1))) := ⟨by rw [hix]; exact HPU.out⟩
          have hsc' : rd C' ((ix : Nat) : Int) = cntI ts (tk t 0) (tk t ((0 + 1) % 3)) i + cnt1 t (tk t 0) (tk t ((0 + 1) % 3)) 0 := hsc
          clear HPU hix hsc
          have hii : ((ix : Nat) : Int) < ((l0.length * l0.length : Nat) : Int) := by omega
          have hvw : Aside0 (wrap64 ((cntI ts (tk t 0) (tk t ((0 + 1) % 3)) i + cnt1 t (tk t 0) (tk t ((0 + 1) % 3)) 0) + 1) = cntI ts (tk t 0) (tk t ((0 + 1) % 3)) i + cnt1 t (tk t 0) (tk t ((0 + 1) % 3)) 0 + 1) := ⟨w64i (by have := HBD.out; have := HBD2.out; omega) (by have := HBD.out; have := HBD2.out; have := HLE.out; have := HL.out; omega)⟩
          clear HBD HBD2
          generalize cntI ts (tk t 0) (tk t ((0 + 1) % 3)) i + cnt1 t (tk t 0) (tk t ((0 + 1) % 3)) 0 = vv at *
          go_wp2
          refine start_ (n := 17) (S := fun w' => w'.cell? (ad.add (i * 3)) = some (.int .i64 t.f0) ∧ w'.cell? ⟨(ad.add (i * 3)).block, (ad.add (i * 3)).off + 1, none⟩ = some (.int .i64 t.f1) ∧ w'.cell? ⟨(ad.add (i * 3)).block, (ad.add (i * 3)).off + 2, none⟩ = some (.int .i64 t.f2)) (ds := []) (Bs 0 17) (by kernel_rfl) rfl rfl ⟨hx0, hx1, hx2⟩ (fun hHeld => ?_)
          generalize wr.drew = w4 at HRC4 HB4 hx0 hx1 hx2 hHeld ⊢
          refine with_tabW refcR.tab19 refcR.bits19 (fun HT_ HW_ => ?_)
          refine pu 0 86 (Bs 1 17) HT_ ?_
          refine pu 1 87 (Bs 2 17) HT_ ?_
          refine pu 2 88 (Bs 3 17) HT_ ?_
          refine pu 3 89 (Bs 4 17) HT_ ?_
          refine pu 4 90 (Bs 5 17) HT_ ?_
          refine pu 6 92 (Br [5,1,1,10]) HT_ ?_
          refine pu 8 94 (Br [5,1,1,1,1,8]) HT_ ?_
          refine pu 9 95 (Br [5,1,1,1,2,7]) HT_ ?_
          refine pu 10 96 (Br [5,1,1,1,3,6]) HT_ ?_
          refine pu 12 98 (Br [5,1,1,1,3,1,1,4]) HT_ ?_
          refine ta 5 91 (Br [7,1,3,1,1,4]) HT_ HW_ hHeld ?_
          refine pu 7 93 (Br [11,1,1,4]) HT_ ?_
          refine one_ (i := 11) (N := some 97) (Bs 13 17) rfl rfl (one_of HT_.out (by kernel_rfl)) (by decide) (fun K hK => ?_)
          refine goes_ Try.func54 (by kernel_rfl) rfl #[.int .i64 0, .int .i64 3] (by rfl) rfl rfl (by simp only [List.map_toArray, List.map_cons, List.map_nil]; rfl) ?_
          with_reducible refine (R1_next.calls _ _ _ _ HNX.out).mono ?_
          rintro e w5 ⟨rfl, ⟨nd5, rfl⟩⟩
          refine ⟨_, rfl, ?_⟩
          refine hK.out _ _ ⟨hHeld.1, hHeld.2.1, hHeld.2.2⟩ (fun hHeld => ?_)
          clear hK K
          refine nm 97 ?_
          refine pu 13 99 (Bs 14 17) HT_ ?_
          refine ta 14 100 (Bs 15 17) HT_ HW_ hHeld ?_
          refine pu 15 101 (Bs 16 17) HT_ ?_
          refine pu 16 11 (Bs 17 17) HT_ ?_
          refine done_ (done_of HT_.out (by kernel_rfl)) ?_
          clear hx0 hx1 hx2 hsd HNX
          have HRC6 := Aside0.mk (Kd.R_drewN HRC4.out nd5)
          have HB6 := Aside0.mk (lN HB4.out nd5)
          generalize w4.drewN nd5 = w6 at *
          obtain ⟨hcc, hcf⟩ := Kd.R_cell (0 : Int) (xs := C') (g := g) (cap := cap) (by rw [HC'.out.len]; exact HRC6.out) ((ix : Nat) : Int) (Int.natCast_nonneg _) (by rw [HC'.out.len]; exact hii)
          rw [Int.toNat_natCast, show rdOf (0 : Int) C' ((ix : Nat) : Int) = vv from hsc'] at hcc
          rw [Int.toNat_natCast] at hcf
          have hpu := Kd.R_putg HRC6.out ((ix : Nat) : Int) (wrap64 (vv + 1))
          rw [Int.toNat_natCast] at hpu
          have HRC7 := Aside0.mk hpu.1
          have HB7 := Aside0.mk (HB6.out.grown hpu.2 HB6.out.size (fun k e => by cases e; exact hgb))
          clear hpu hsc'
          go_wp2
          go_roundw
          case rel => exact ⟨1, by omega, by go_num, ⟨_, HPU', ⟨by have h := HRC7.out; rw [show C'.set ix (wrap64 (vv + 1)) = C'.set ix (vv + 1) by rw [hvw.out]] at h; exact h⟩⟩, HB7⟩
          case measure => simp [intOf]
         ·have HNX : Aside0 (R1_next.f 1 3 = some 2) := ⟨by decide +kernel⟩
          have hsd := side_w HL.out.2 HK'.out.2.1 HK'.out.2.2
          have hsc := side_cnt HC'.out HK'.out.2.1 HK'.out.2.2
          have hsl := idx_lt (n := l0.length) (a := t.f1.toNat) (b := t.f2.toNat) (by have := HK'.out.2.1; omega) (by have := HK'.out.2.2; omega)
          have HPU := Aside0.mk (side_put HC'.out HK'.out.2.1 HK'.out.2.2)
          obtain ⟨ix, hix⟩ : ∃ ix, ix = t.f1.toNat * l0.length + t.f2.toNat := ⟨_, rfl⟩
          rw [← hix] at hsd hsc hsl
          have HPU' : Aside0 (CntOk l0.length (C'.set ix (cntI ts (tk t 1) (tk t ((1 + 1) % 3)) i + cnt1 t (tk t 1) (tk t ((1 + 1) % 3)) 1 + 1)) (fun a b => cntI ts a b i + cnt1 t a b (1 + 1))) := ⟨by rw [hix]; exact HPU.out⟩
          have hsc' : rd C' ((ix : Nat) : Int) = cntI ts (tk t 1) (tk t ((1 + 1) % 3)) i + cnt1 t (tk t 1) (tk t ((1 + 1) % 3)) 1 := hsc
          clear HPU hix hsc
          have hii : ((ix : Nat) : Int) < ((l0.length * l0.length : Nat) : Int) := by omega
          have hvw : Aside0 (wrap64 ((cntI ts (tk t 1) (tk t ((1 + 1) % 3)) i + cnt1 t (tk t 1) (tk t ((1 + 1) % 3)) 1) + 1) = cntI ts (tk t 1) (tk t ((1 + 1) % 3)) i + cnt1 t (tk t 1) (tk t ((1 + 1) % 3)) 1 + 1) := ⟨w64i (by have := HBD.out; have := HBD2.out; omega) (by have := HBD.out; have := HBD2.out; have := HLE.out; have := HL.out; omega)⟩
          clear HBD HBD2
          generalize cntI ts (tk t 1) (tk t ((1 + 1) % 3)) i + cnt1 t (tk t 1) (tk t ((1 + 1) % 3)) 1 = vv at *
          go_wp2
          refine start_ (n := 17) (S := fun w' => w'.cell? (ad.add (i * 3)) = some (.int .i64 t.f0) ∧ w'.cell? ⟨(ad.add (i * 3)).block, (ad.add (i * 3)).off + 1, none⟩ = some (.int .i64 t.f1) ∧ w'.cell? ⟨(ad.add (i * 3)).block, (ad.add (i * 3)).off + 2, none⟩ = some (.int .i64 t.f2)) (ds := []) (Bs 0 17) (by kernel_rfl) rfl rfl ⟨hx0, hx1, hx2⟩ (fun hHeld => ?_)
          generalize wr.drew = w4 at HRC4 HB4 hx0 hx1 hx2 hHeld ⊢
          refine with_tabW refcR.tab19 refcR.bits19 (fun HT_ HW_ => ?_)
          refine pu 0 86 (Bs 1 17) HT_ ?_
          refine pu 1 87 (Bs 2 17) HT_ ?_
          refine pu 2 88 (Bs 3 17) HT_ ?_
          refine pu 3 89 (Bs 4 17) HT_ ?_
          refine pu 4 90 (Bs 5 17) HT_ ?_
          refine pu 6 92 (Br [5,1,1,10]) HT_ ?_
          refine pu 8 94 (Br [5,1,1,1,1,8]) HT_ ?_
          refine pu 9 95 (Br [5,1,1,1,2,7]) HT_ ?_
          refine pu 10 96 (Br [5,1,1,1,3,6]) HT_ ?_
          refine pu 12 98 (Br [5,1,1,1,3,1,1,4]) HT_ ?_
          refine ta 5 91 (Br [7,1,3,1,1,4]) HT_ HW_ hHeld ?_
          refine pu 7 93 (Br [11,1,1,4]) HT_ ?_
          refine one_ (i := 11) (N := some 97) (Bs 13 17) rfl rfl (one_of HT_.out (by kernel_rfl)) (by decide) (fun K hK => ?_)
          refine goes_ Try.func54 (by kernel_rfl) rfl #[.int .i64 1, .int .i64 3] (by rfl) rfl rfl (by simp only [List.map_toArray, List.map_cons, List.map_nil]; rfl) ?_
          with_reducible refine (R1_next.calls _ _ _ _ HNX.out).mono ?_
          rintro e w5 ⟨rfl, ⟨nd5, rfl⟩⟩
          refine ⟨_, rfl, ?_⟩
          refine hK.out _ _ ⟨hHeld.1, hHeld.2.1, hHeld.2.2⟩ (fun hHeld => ?_)
          clear hK K
          refine nm 97 ?_
          refine pu 13 99 (Bs 14 17) HT_ ?_
          refine ta 14 100 (Bs 15 17) HT_ HW_ hHeld ?_
          refine pu 15 101 (Bs 16 17) HT_ ?_
          refine pu 16 11 (Bs 17 17) HT_ ?_
          refine done_ (done_of HT_.out (by kernel_rfl)) ?_
          clear hx0 hx1 hx2 hsd HNX
          have HRC6 := Aside0.mk (Kd.R_drewN HRC4.out nd5)
          have HB6 := Aside0.mk (lN HB4.out nd5)
          generalize w4.drewN nd5 = w6 at *
          obtain ⟨hcc, hcf⟩ := Kd.R_cell (0 : Int) (xs := C') (g := g) (cap := cap) (by rw [HC'.out.len]; exact HRC6.out) ((ix : Nat) : Int) (Int.natCast_nonneg _) (by rw [HC'.out.len]; exact hii)
          rw [Int.toNat_natCast, show rdOf (0 : Int) C' ((ix : Nat) : Int) = vv from hsc'] at hcc
          rw [Int.toNat_natCast] at hcf
          have hpu := Kd.R_putg HRC6.out ((ix : Nat) : Int) (wrap64 (vv + 1))
          rw [Int.toNat_natCast] at hpu
          have HRC7 := Aside0.mk hpu.1
          have HB7 := Aside0.mk (HB6.out.grown hpu.2 HB6.out.size (fun k e => by cases e; exact hgb))
          clear hpu hsc'
          go_wp2
          go_roundw
          case rel => exact ⟨2, by omega, by go_num, ⟨_, HPU', ⟨by have h := HRC7.out; rw [show C'.set ix (wrap64 (vv + 1)) = C'.set ix (vv + 1) by rw [hvw.out]] at h; exact h⟩⟩, HB7⟩
          case measure => simp [intOf]
         ·have HNX : Aside0 (R1_next.f 2 3 = some 0) := ⟨by decide +kernel⟩
          have hsd := side_w HL.out.2 HK'.out.2.2 HK'.out.1
          have hsc := side_cnt HC'.out HK'.out.2.2 HK'.out.1
          have hsl := idx_lt (n := l0.length) (a := t.f2.toNat) (b := t.f0.toNat) (by have := HK'.out.2.2; omega) (by have := HK'.out.1; omega)
          have HPU := Aside0.mk (side_put HC'.out HK'.out.2.2 HK'.out.1)
          obtain ⟨ix, hix⟩ : ∃ ix, ix = t.f2.toNat * l0.length + t.f0.toNat := ⟨_, rfl⟩
          rw [← hix] at hsd hsc hsl
          have HPU' : Aside0 (CntOk l0.length (C'.set ix (cntI ts (tk t 2) (tk t ((2 + 1) % 3)) i + cnt1 t (tk t 2) (tk t ((2 + 1) % 3)) 2 + 1)) (fun a b => cntI ts a b i + cnt1 t a b (2 + 1))) := ⟨by rw [hix]; exact HPU.out⟩
          have hsc' : rd C' ((ix : Nat) : Int) = cntI ts (tk t 2) (tk t ((2 + 1) % 3)) i + cnt1 t (tk t 2) (tk t ((2 + 1) % 3)) 2 := hsc
          clear HPU hix hsc
          have hii : ((ix : Nat) : Int) < ((l0.length * l0.length : Nat) : Int) := by omega
          have hvw : Aside0 (wrap64 ((cntI ts (tk t 2) (tk t ((2 + 1) % 3)) i + cnt1 t (tk t 2) (tk t ((2 + 1) % 3)) 2) + 1) = cntI ts (tk t 2) (tk t ((2 + 1) % 3)) i + cnt1 t (tk t 2) (tk t ((2 + 1) % 3)) 2 + 1) := ⟨w64i (by have := HBD.out; have := HBD2.out; omega) (by have := HBD.out; have := HBD2.out; have := HLE.out; have := HL.out; omega)⟩
          clear HBD HBD2
          generalize cntI ts (tk t 2) (tk t ((2 + 1) % 3)) i + cnt1 t (tk t 2) (tk t ((2 + 1) % 3)) 2 = vv at *
          go_wp2
          refine start_ (n := 17) (S := fun w' => w'.cell? (ad.add (i * 3)) = some (.int .i64 t.f0) ∧ w'.cell? ⟨(ad.add (i * 3)).block, (ad.add (i * 3)).off + 1, none⟩ = some (.int .i64 t.f1) ∧ w'.cell? ⟨(ad.add (i * 3)).block, (ad.add (i * 3)).off + 2, none⟩ = some (.int .i64 t.f2)) (ds := []) (Bs 0 17) (by kernel_rfl) rfl rfl ⟨hx0, hx1, hx2⟩ (fun hHeld => ?_)
          generalize wr.drew = w4 at HRC4 HB4 hx0 hx1 hx2 hHeld ⊢
          refine with_tabW refcR.tab19 refcR.bits19 (fun HT_ HW_ => ?_)
          refine pu 0 86 (Bs 1 17) HT_ ?_
          refine pu 1 87 (Bs 2 17) HT_ ?_
          refine pu 2 88 (Bs 3 17) HT_ ?_
          refine pu 3 89 (Bs 4 17) HT_ ?_
          refine pu 4 90 (Bs 5 17) HT_ ?_
          refine pu 6 92 (Br [5,1,1,10]) HT_ ?_
          refine pu 8 94 (Br [5,1,1,1,1,8]) HT_ ?_
          refine pu 9 95 (Br [5,1,1,1,2,7]) HT_ ?_
          refine pu 10 96 (Br [5,1,1,1,3,6]) HT_ ?_
          refine pu 12 98 (Br [5,1,1,1,3,1,1,4]) HT_ ?_
          refine ta 5 91 (Br [7,1,3,1,1,4]) HT_ HW_ hHeld ?_
          refine pu 7 93 (Br [11,1,1,4]) HT_ ?_
          refine one_ (i := 11) (N := some 97) (Bs 13 17) rfl rfl (one_of HT_.out (by kernel_rfl)) (by decide) (fun K hK => ?_)
          refine goes_ Try.func54 (by kernel_rfl) rfl #[.int .i64 2, .int .i64 3] (by rfl) rfl rfl (by simp only [List.map_toArray, List.map_cons, List.map_nil]; rfl) ?_
          with_reducible refine (R1_next.calls _ _ _ _ HNX.out).mono ?_
          rintro e w5 ⟨rfl, ⟨nd5, rfl⟩⟩
          refine ⟨_, rfl, ?_⟩
          refine hK.out _ _ ⟨hHeld.1, hHeld.2.1, hHeld.2.2⟩ (fun hHeld => ?_)
          clear hK K
          refine nm 97 ?_
          refine pu 13 99 (Bs 14 17) HT_ ?_
          refine ta 14 100 (Bs 15 17) HT_ HW_ hHeld ?_
          refine pu 15 101 (Bs 16 17) HT_ ?_
          refine pu 16 11 (Bs 17 17) HT_ ?_
          refine done_ (done_of HT_.out (by kernel_rfl)) ?_
          clear hx0 hx1 hx2 hsd HNX
          have HRC6 := Aside0.mk (Kd.R_drewN HRC4.out nd5)
          have HB6 := Aside0.mk (lN HB4.out nd5)
          generalize w4.drewN nd5 = w6 at *
          obtain ⟨hcc, hcf⟩ := Kd.R_cell (0 : Int) (xs := C') (g := g) (cap := cap) (by rw [HC'.out.len]; exact HRC6.out) ((ix : Nat) : Int) (Int.natCast_nonneg _) (by rw [HC'.out.len]; exact hii)
          rw [Int.toNat_natCast, show rdOf (0 : Int) C' ((ix : Nat) : Int) = vv from hsc'] at hcc
          rw [Int.toNat_natCast] at hcf
          have hpu := Kd.R_putg HRC6.out ((ix : Nat) : Int) (wrap64 (vv + 1))
          rw [Int.toNat_natCast] at hpu
          have HRC7 := Aside0.mk hpu.1
          have HB7 := Aside0.mk (HB6.out.grown hpu.2 HB6.out.size (fun k e => by cases e; exact hgb))
          clear hpu hsc'
          go_wp2
          go_roundw
          case rel => exact ⟨3, by omega, by go_num, ⟨_, HPU', ⟨by have h := HRC7.out; rw [show C'.set ix (wrap64 (vv + 1)) = C'.set ix (vv + 1) by rw [hvw.out]] at h; exact h⟩⟩, HB7⟩
          case measure => simp [intOf]
        ·obtain rfl : k = 3 := by omega
         have HCn : Aside0 (CntOk l0.length C' (fun a b => cntI ts a b (i + 1))) := ⟨by
          have e : (fun a b : Int => cntI ts a b (i + 1)) = fun a b => cntI ts a b i + cnt1 t a b 3 := by funext a b; rw [HT.out]; rfl
          rw [e]; exact HC'.out⟩
         clear HC'
         have hbnd : ts.length ≤ 512 := by have := HLE.out; have := HL.out; omega
         go_wp2
         go_roundw
         case rel => exact ⟨i + 1, by omega, by go_num, HU1, ⟨C', HCn, HRC'⟩, HB'⟩
         case measure => simp [intOf]; omega
      ·have hb1 : (tn != way) = true := by rw [bne_iff_ne]; exact htn
       have HV : Aside0 (refCovB l0 way ts = false) := ⟨ref_bad hlt (by rw [← HT.out, HW.out]; exact decide_eq_false htn)⟩
       go_wp2
       refine start_ (n := 27) (S := fun w' => w'.cell? (ad.add (i * 3)) = some (.int .i64 t.f0) ∧ w'.cell? ⟨(ad.add (i * 3)).block, (ad.add (i * 3)).off + 1, none⟩ = some (.int .i64 t.f1) ∧ w'.cell? ⟨(ad.add (i * 3)).block, (ad.add (i * 3)).off + 2, none⟩ = some (.int .i64 t.f2) ∧ w'.cell? (ap.add (t.f0.toNat * 2)) = some (.int .i64 p.f0) ∧ w'.cell? ⟨(ap.add (t.f0.toNat * 2)).block, (ap.add (t.f0.toNat * 2)).off + 1, none⟩ = some (.int .i64 p.f1) ∧ w'.cell? (ap.add (t.f1.toNat * 2)) = some (.int .i64 q.f0) ∧ w'.cell? ⟨(ap.add (t.f1.toNat * 2)).block, (ap.add (t.f1.toNat * 2)).off + 1, none⟩ = some (.int .i64 q.f1) ∧ w'.cell? (ap.add (t.f2.toNat * 2)) = some (.int .i64 r.f0) ∧ w'.cell? ⟨(ap.add (t.f2.toNat * 2)).block, (ap.add (t.f2.toNat * 2)).off + 1, none⟩ = some (.int .i64 r.f1)) (ds := [24]) (Bs 0 27) (by kernel_rfl) rfl rfl ⟨hx0, hx1, hx2, hp0, hp1, hq0, hq1, hr0, hr1⟩ (fun hHeld => ?_)
       generalize wr.drew = w4 at HRC4 HB4 hx0 hx1 hx2 hp0 hp1 hq0 hq1 hr0 hr1 hHeld ⊢
       refine with_tabW refcR.tab14 refcR.bits14 (fun HT_ HW_ => ?_)
       refine pu 0 55 (Bs 1 27) HT_ ?_
       refine pu 1 56 (Bs 2 27) HT_ ?_
       refine pu 2 57 (Bs 3 27) HT_ ?_
       refine pu 3 58 (Bs 4 27) HT_ ?_
       refine pu 4 59 (Bs 5 27) HT_ ?_
       refine pu 8 63 (Br [5,3,1,18]) HT_ ?_
       refine pu 9 64 (Br [5,3,2,17]) HT_ ?_
       refine pu 10 65 (Br [5,3,3,16]) HT_ ?_
       refine pu 11 66 (Br [5,3,4,15]) HT_ ?_
       refine pu 12 67 (Br [5,3,5,14]) HT_ ?_
       refine pu 16 71 (Br [5,3,5,3,1,10]) HT_ ?_
       refine pu 17 72 (Br [5,3,5,3,2,9]) HT_ ?_
       refine pu 18 73 (Br [5,3,5,3,3,8]) HT_ ?_
       refine pu 19 74 (Br [5,3,5,3,4,7]) HT_ ?_
       refine pu 20 75 (Br [5,3,5,3,5,6]) HT_ ?_
       refine pu 25 80 (Br [5,3,5,3,5,4,1,1]) HT_ ?_
       refine ta 5 60 (Br [6,2,5,3,5,4,1,1]) HT_ HW_ hHeld ?_
       refine pu 6 61 (Br [7,1,5,3,5,4,1,1]) HT_ ?_
       refine ta 7 62 (Br [13,3,5,4,1,1]) HT_ HW_ hHeld ?_
       refine ta 13 68 (Br [14,2,5,4,1,1]) HT_ HW_ hHeld ?_
       refine pu 14 69 (Br [15,1,5,4,1,1]) HT_ ?_
       refine ta 15 70 (Br [21,4,1,1]) HT_ HW_ hHeld ?_
       refine ta 21 76 (Br [22,3,1,1]) HT_ HW_ hHeld ?_
       refine pu 22 77 (Br [23,2,1,1]) HT_ ?_
       refine ta 23 78 (Br [24,1,1,1]) HT_ HW_ hHeld ?_
       refine last_ (i := 24) (N := some 79) (Bs 26 27) rfl rfl (one_of HT_.out (by kernel_rfl)) (by decide) (fun K hK => ?_)
       refine goes_ Try.func31 (by kernel_rfl) rfl #[.agg #[.int .i64 p.f0, .int .i64 p.f1], .agg #[.int .i64 q.f0, .int .i64 q.f1], .agg #[.int .i64 r.f0, .int .i64 r.f1]] (by rfl) rfl rfl (by simp only [List.map_toArray, List.map_cons, List.map_nil]; rfl) ?_
       with_reducible refine (R1_Turn.calls _ _ _ _ _ _ _ _ HTN.out).mono ?_
       rintro e w5 ⟨rfl, hb5⟩
       refine ⟨_, rfl, ?_⟩
       have HRC5 := Aside0.mk (Kd.R_below HRC4.out hb5)
       have HB5 := Aside0.mk (below_step HB4.out hb5)
       clear hb5
       refine hK.out _ _ ?_
       clear hK K
       refine nm 79 ?_
       refine pu 26 81 (Bs 27 27) HT_ ?_
       refine done_ (done_of HT_.out (by kernel_rfl)) ?_
       go_wp2
       go_ret
       exact ⟨by rw [HV.out]; rfl, HB5.out⟩
   ·obtain rfl : i = ts.length := by omega
    have HQ0 : Aside0 (∀ a : Nat, a < 0 → ∀ b : Nat, b < l0.length → chkR l0.length ts a b = true) := ⟨fun a ha => absurd ha (by omega)⟩
    go_wp2
    go_loopw [12] (fun v12 wr => ∃ a : Nat, a ≤ l0.length ∧ v12 = .int .i64 a ∧ Aside0 (∀ a' : Nat, a' < a → ∀ b : Nat, b < l0.length → chkR l0.length ts a' b = true) ∧ Aside0 (Kd.R (Kd.int .i64) 3 wr w.heap.size (fun _ => True) (.slice (some ⟨g, 0, none⟩) (l0.length * l0.length) cap) C) ∧ Aside0 (Below w.heap.size w wr)) (fun v12 _ => l0.length - (intOf v12).toNat)
    case atStart => exact ⟨0, by omega, rfl, HQ0, HRC, HB⟩
    case round =>
     obtain ⟨a, ha, rfl, HQ, HRC1, HB1⟩ := hrel
     clear HQ0 HRC HB
     by_cases hal : a < l0.length
     ·have halI : ((a : Nat) : Int) < ((l0.length : Nat) : Int) := by omega
      have HQ1 : Aside0 (∀ b : Nat, b < 0 → chkR l0.length ts a b = true) := ⟨fun b hb => absurd hb (by omega)⟩
      go_wp2
      go_loopw [13] (fun v13 wx => ∃ b : Nat, b ≤ l0.length ∧ v13 = .int .i64 b ∧ Aside0 (∀ b' : Nat, b' < b → chkR l0.length ts a b' = true) ∧ Aside0 (Kd.R (Kd.int .i64) 3 wx w.heap.size (fun _ => True) (.slice (some ⟨g, 0, none⟩) (l0.length * l0.length) cap) C) ∧ Aside0 (Below w.heap.size w wx)) (fun v13 _ => l0.length - (intOf v13).toNat)
      case atStart => exact ⟨0, by omega, rfl, HQ1, HRC1, HB1⟩
      case round =>
       obtain ⟨b, hb, rfl, HQb, HRC2, HB2⟩ := hrel
       clear HQ1 HRC1 HB1
       by_cases hbl : b < l0.length
       ·have hblI : ((b : Nat) : Int) < ((l0.length : Nat) : Int) := by omega
        have HNA : Aside0 (R1_next.f ((a : Nat) : Int) ((l0.length : Nat) : Int) = some ((nxn l0.length a : Nat) : Int)) := ⟨nx_next l0 a hal (by have := HL.out; omega)⟩
        have HNB : Aside0 (R1_next.f ((b : Nat) : Int) ((l0.length : Nat) : Int) = some ((nxn l0.length b : Nat) : Int)) := ⟨nx_next l0 b hbl (by have := HL.out; omega)⟩
        obtain ⟨i1, hi1⟩ : ∃ i1, i1 = a * l0.length + b := ⟨_, rfl⟩
        obtain ⟨i2, hi2⟩ : ∃ i2, i2 = b * l0.length + a := ⟨_, rfl⟩
        have hx1 := idx_lt hal hbl
        have hx2 := idx_lt hbl hal
        have hv1 := HC.out.val hal hbl
        have hv2 := HC.out.val hbl hal
        rw [← hi1] at hx1 hv1
        rw [← hi2] at hx2 hv2
        have hx1I : ((i1 : Nat) : Int) < ((l0.length * l0.length : Nat) : Int) := Int.ofNat_lt.mpr hx1
        have hx2I : ((i2 : Nat) : Int) < ((l0.length * l0.length : Nat) : Int) := Int.ofNat_lt.mpr hx2
        obtain ⟨hc1, _⟩ := Kd.R_cell (0 : Int) (xs := C) (g := g) (cap := cap) (by rw [HC.out.len]; exact HRC2.out) ((i1 : Nat) : Int) (Int.natCast_nonneg _) (by rw [HC.out.len]; exact hx1I)
        obtain ⟨hc2, _⟩ := Kd.R_cell (0 : Int) (xs := C) (g := g) (cap := cap) (by rw [HC.out.len]; exact HRC2.out) ((i2 : Nat) : Int) (Int.natCast_nonneg _) (by rw [HC.out.len]; exact hx2I)
        rw [Int.toNat_natCast, show rdOf (0 : Int) C ((i1 : Nat) : Int) = cntI ts a b ts.length from hv1] at hc1
        rw [Int.toNat_natCast, show rdOf (0 : Int) C ((i2 : Nat) : Int) = cntI ts b a ts.length from hv2] at hc2
        have HQc := Aside0.mk (fun (h : chkR l0.length ts a b = true) => (fun b' hb' => by
         by_cases e : b' = b
         ·subst e; exact h
         ·exact HQb.out b' (by omega) : ∀ b' : Nat, b' < b + 1 → chkR l0.length ts a b' = true))
        have HCa := Aside0.mk (fun h : b = nxn l0.length a => chkR_a (ts := ts) h)
        have HCb := Aside0.mk (fun h : ¬ b = nxn l0.length a => chkR_b (ts := ts) h)
        have HBad := Aside0.mk (fun h : chkR l0.length ts a b = false => ref_bad2 (l := l0) (way := way) (ts := ts) hal hbl h)
        have HS12 := Aside0.mk (show wrap64 (wrap64 (((a : Nat) : Int) * ((l0.length : Nat) : Int)) + ((b : Nat) : Int)) = ((i1 : Nat) : Int) ∧ wrap64 (wrap64 (((b : Nat) : Int) * ((l0.length : Nat) : Int)) + ((a : Nat) : Int)) = ((i2 : Nat) : Int) from ⟨by rw [hi1]; exact side_n HL.out.2 hal hbl, by rw [hi2]; exact side_n HL.out.2 hbl hal⟩)
        clear hv1 hv2 hi1 hi2 HQb hx1 hx2
        generalize cntI ts a b ts.length = v1 at *
        generalize cntI ts b a ts.length = v2 at *
        generalize hna : nxn l0.length a = na at *
        generalize hnb : nxn l0.length b = nb at *
        by_cases hba : b = na
        ·have hbe : (((b : Nat) : Int) == ((na : Nat) : Int)) = true := by rw [beq_iff_eq]; omega
         have hck := HCa.out hba
         clear hba
         by_cases q1 : v1 = 1
         ·have q1b : (v1 != 1) = false := by rw [bne_eq_false_iff_eq]; exact q1
          by_cases q2 : v2 = 0
          ·have q2b : (v2 != 0) = false := by rw [bne_eq_false_iff_eq]; exact q2
           have HQ2 := Aside0.mk (HQc.out (by rw [hck, decide_eq_true q1, decide_eq_true q2]; rfl))
           clear q1 q2 hck
           have hs1 := HS12.out.1
           have hs2 := HS12.out.2
           have hnb1 := HNB.out
           go_upto_if 118 with (first | (go_at_call 54; go_must (refine (R1_next.calls _ _ _ _ HNA.out).mono ?_); rintro e w3 ⟨rfl, ⟨nd3, rfl⟩⟩; have HRC3 := Aside0.mk (Kd.R_drewN HRC2.out nd3); have HB3 := Aside0.mk (lN HB2.out nd3); have d1 : (wr.drewN nd3).cell? ⟨g, i1, none⟩ = some (.int .i64 v1) := hc1; have d2 : (wr.drewN nd3).cell? ⟨g, i2, none⟩ = some (.int .i64 v2) := hc2; clear hc1 hc2 HRC2 HB2; generalize wr.drewN nd3 = w3 at *))
           obtain ⟨aI, haI⟩ : ∃ z : Int, ((a : Nat) : Int) = z := ⟨_, rfl⟩
           obtain ⟨bI, hbI⟩ : ∃ z : Int, ((b : Nat) : Int) = z := ⟨_, rfl⟩
           obtain ⟨nI, hnI⟩ : ∃ z : Int, ((l0.length : Nat) : Int) = z := ⟨_, rfl⟩
           obtain ⟨mm, hmm⟩ : ∃ z : Nat, (l0.length * l0.length : Nat) = z := ⟨_, rfl⟩
           simp only [haI, hbI, hnI, hmm] at hs1 hs2 hx1I hx2I hbe hnb1 ⊢
           go_wp2
           clear hs1 hs2
           subst haI
           subst hbI
           subst hnI
           subst hmm
           have hb512 : l0.length ≤ 512 := HL.out.2
           go_roundw
           case rel => exact ⟨b + 1, by omega, by rw [succ_w hbl hb512], HQ2, HRC3, HB3⟩
           case measure => rw [succ_w hbl hb512]; simp [intOf]; omega
          ·have q2b : (v2 != 0) = true := by rw [bne_iff_ne]; exact q2
           have HV := Aside0.mk (HBad.out (by rw [hck, decide_eq_false q2, Bool.and_false]))
           clear q1 q2 hck
           have hs1 := HS12.out.1
           have hs2 := HS12.out.2
           have hnb1 := HNB.out
           go_upto_if 118 with (first | (go_at_call 54; go_must (refine (R1_next.calls _ _ _ _ HNA.out).mono ?_); rintro e w3 ⟨rfl, ⟨nd3, rfl⟩⟩; have HRC3 := Aside0.mk (Kd.R_drewN HRC2.out nd3); have HB3 := Aside0.mk (lN HB2.out nd3); have d1 : (wr.drewN nd3).cell? ⟨g, i1, none⟩ = some (.int .i64 v1) := hc1; have d2 : (wr.drewN nd3).cell? ⟨g, i2, none⟩ = some (.int .i64 v2) := hc2; clear hc1 hc2 HRC2 HB2; generalize wr.drewN nd3 = w3 at *))
           obtain ⟨aI, haI⟩ : ∃ z : Int, ((a : Nat) : Int) = z := ⟨_, rfl⟩
           obtain ⟨bI, hbI⟩ : ∃ z : Int, ((b : Nat) : Int) = z := ⟨_, rfl⟩
           obtain ⟨nI, hnI⟩ : ∃ z : Int, ((l0.length : Nat) : Int) = z := ⟨_, rfl⟩
           obtain ⟨mm, hmm⟩ : ∃ z : Nat, (l0.length * l0.length : Nat) = z := ⟨_, rfl⟩
           simp only [haI, hbI, hnI, hmm] at hs1 hs2 hx1I hx2I hbe hnb1 ⊢
           go_wp2
           go_ret
           exact ⟨by rw [HV.out]; rfl, HB3.out⟩
         ·have q1b : (v1 != 1) = true := by rw [bne_iff_ne]; exact q1
          have HV := Aside0.mk (HBad.out (by rw [hck, decide_eq_false q1, Bool.false_and]))
          clear q1 hck
          have hs1 := HS12.out.1
          have hs2 := HS12.out.2
          have hnb1 := HNB.out
          go_upto_if 118 with (first | (go_at_call 54; go_must (refine (R1_next.calls _ _ _ _ HNA.out).mono ?_); rintro e w3 ⟨rfl, ⟨nd3, rfl⟩⟩; have HRC3 := Aside0.mk (Kd.R_drewN HRC2.out nd3); have HB3 := Aside0.mk (lN HB2.out nd3); have d1 : (wr.drewN nd3).cell? ⟨g, i1, none⟩ = some (.int .i64 v1) := hc1; have d2 : (wr.drewN nd3).cell? ⟨g, i2, none⟩ = some (.int .i64 v2) := hc2; clear hc1 hc2 HRC2 HB2; generalize wr.drewN nd3 = w3 at *))
          obtain ⟨aI, haI⟩ : ∃ z : Int, ((a : Nat) : Int) = z := ⟨_, rfl⟩
          obtain ⟨bI, hbI⟩ : ∃ z : Int, ((b : Nat) : Int) = z := ⟨_, rfl⟩
          obtain ⟨nI, hnI⟩ : ∃ z : Int, ((l0.length : Nat) : Int) = z := ⟨_, rfl⟩
          obtain ⟨mm, hmm⟩ : ∃ z : Nat, (l0.length * l0.length : Nat) = z := ⟨_, rfl⟩
          simp only [haI, hbI, hnI, hmm] at hs1 hs2 hx1I hx2I hbe hnb1 ⊢
          go_wp2
          go_ret
          exact ⟨by rw [HV.out]; rfl, HB3.out⟩
        ·have hbe : (((b : Nat) : Int) == ((na : Nat) : Int)) = false := by rw [beq_eq_false_iff_ne]; omega
         have hck := HCb.out hba
         clear hba
         by_cases q3 : a = nb
         ·have q3b : (((a : Nat) : Int) != ((nb : Nat) : Int)) = false := by rw [bne_eq_false_iff_eq]; omega
          have HQ2 := Aside0.mk (HQc.out (by rw [hck, decide_eq_true q3]; rfl))
          clear q3 hck
          have hs1 := HS12.out.1
          have hs2 := HS12.out.2
          have hnb1 := HNB.out
          go_upto_if 118 with (first | (go_at_call 54; go_must (refine (R1_next.calls _ _ _ _ HNA.out).mono ?_); rintro e w3 ⟨rfl, ⟨nd3, rfl⟩⟩; have HRC3 := Aside0.mk (Kd.R_drewN HRC2.out nd3); have HB3 := Aside0.mk (lN HB2.out nd3); have d1 : (wr.drewN nd3).cell? ⟨g, i1, none⟩ = some (.int .i64 v1) := hc1; have d2 : (wr.drewN nd3).cell? ⟨g, i2, none⟩ = some (.int .i64 v2) := hc2; clear hc1 hc2 HRC2 HB2; generalize wr.drewN nd3 = w3 at *))
          obtain ⟨aI, haI⟩ : ∃ z : Int, ((a : Nat) : Int) = z := ⟨_, rfl⟩
          obtain ⟨bI, hbI⟩ : ∃ z : Int, ((b : Nat) : Int) = z := ⟨_, rfl⟩
          obtain ⟨nI, hnI⟩ : ∃ z : Int, ((l0.length : Nat) : Int) = z := ⟨_, rfl⟩
          obtain ⟨mm, hmm⟩ : ∃ z : Nat, (l0.length * l0.length : Nat) = z := ⟨_, rfl⟩
          simp only [haI, hbI, hnI, hmm] at hs1 hs2 hx1I hx2I hbe hnb1 q3b ⊢
          go_wp2
          have HRC4 := Aside0.mk (Kd.R_drew HRC3.out)
          have HB4 := Aside0.mk (below_drew HB3.out)
          refine start_ (n := 25) (S := fun w' => w'.cell? ⟨g, i1, none⟩ = some (.int .i64 v1) ∧ w'.cell? ⟨g, i2, none⟩ = some (.int .i64 v2)) (ds := []) (Bs 0 25) (by kernel_rfl) rfl rfl ⟨d1, d2⟩ (fun hHeld => ?_)
          generalize w3.drew = w4 at HRC4 HB4 d1 d2 hHeld ⊢
          refine with_tabW refcR.tab30 refcR.bits30 (fun HT_ HW_ => ?_)
          refine pu 0 145 (Bs 1 25) HT_ ?_
          refine pu 1 146 (Bs 2 25) HT_ ?_
          refine pu 2 147 (Bs 3 25) HT_ ?_
          refine one_ (i := 3) (N := some 148) (Bs 4 25) rfl rfl (one_of HT_.out (by kernel_rfl)) (by decide) (fun K hK => ?_)
          refine goes_ Try.func54 (by kernel_rfl) rfl #[.int .i64 bI, .int .i64 nI] (by rfl) rfl rfl (by simp only [List.map_toArray, List.map_cons, List.map_nil]; rfl) ?_
          with_reducible refine (R1_next.calls _ _ _ _ hnb1).mono ?_
          rintro e w5 ⟨rfl, ⟨nd5, rfl⟩⟩
          refine ⟨_, rfl, ?_⟩
          refine hK.out _ _ ⟨hHeld.1, hHeld.2⟩ (fun hHeld => ?_)
          clear hK K
          refine nm 148 ?_
          refine pu 4 149 (Bs 5 25) HT_ ?_
          refine pu 5 150 (Bs 6 25) HT_ ?_
          refine po 6 151 (Bs 7 25) HT_ ?_
          refine po 7 152 (Bs 8 25) HT_ ?_
          refine po 8 153 (Bs 9 25) HT_ ?_
          refine po 9 154 (Bs 10 25) HT_ ?_
          refine po 10 155 (Bs 11 25) HT_ ?_
          refine po 11 156 (Bs 12 25) HT_ ?_
          refine po 12 157 (Bs 13 25) HT_ ?_
          refine po 13 158 (Bs 14 25) HT_ ?_
          refine po 14 159 (Bs 15 25) HT_ ?_
          refine po 15 160 (Bs 16 25) HT_ ?_
          refine po 16 161 (Bs 17 25) HT_ ?_
          refine po 17 162 (Bs 18 25) HT_ ?_
          refine po 18 163 (Bs 19 25) HT_ ?_
          refine po 19 164 (Bs 20 25) HT_ ?_
          refine po 20 165 (Bs 21 25) HT_ ?_
          refine po 21 166 (Bs 22 25) HT_ ?_
          refine po 22 167 (Bs 23 25) HT_ ?_
          refine pu 23 168 (Bs 24 25) HT_ ?_
          refine pu 24 144 (Bs 25 25) HT_ ?_
          refine done_ (done_of HT_.out (by kernel_rfl)) ?_
          have HRC6 := Aside0.mk (Kd.R_drewN HRC4.out nd5)
          have HB6 := Aside0.mk (lN HB4.out nd5)
          generalize w4.drewN nd5 = w6 at *
          go_wp2
          clear hs1 hs2
          subst haI
          subst hbI
          subst hnI
          subst hmm
          have hb512 : l0.length ≤ 512 := HL.out.2
          go_roundw
          case rel => exact ⟨b + 1, by omega, by rw [succ_w hbl hb512], HQ2, HRC6, HB6⟩
          case measure => rw [succ_w hbl hb512]; simp [intOf]; omega
         ·have q3b : (((a : Nat) : Int) != ((nb : Nat) : Int)) = true := by rw [bne_iff_ne]; omega
          by_cases q4 : v1 = v2
          ·have q4b : (v1 != v2) = false := by rw [bne_eq_false_iff_eq]; exact q4
           have HQ2 := Aside0.mk (HQc.out (by rw [hck, decide_eq_true q4, Bool.or_true]))
           clear q3 q4 hck
           have hs1 := HS12.out.1
           have hs2 := HS12.out.2
           have hnb1 := HNB.out
           go_upto_if 118 with (first | (go_at_call 54; go_must (refine (R1_next.calls _ _ _ _ HNA.out).mono ?_); rintro e w3 ⟨rfl, ⟨nd3, rfl⟩⟩; have HRC3 := Aside0.mk (Kd.R_drewN HRC2.out nd3); have HB3 := Aside0.mk (lN HB2.out nd3); have d1 : (wr.drewN nd3).cell? ⟨g, i1, none⟩ = some (.int .i64 v1) := hc1; have d2 : (wr.drewN nd3).cell? ⟨g, i2, none⟩ = some (.int .i64 v2) := hc2; clear hc1 hc2 HRC2 HB2; generalize wr.drewN nd3 = w3 at *))
           obtain ⟨aI, haI⟩ : ∃ z : Int, ((a : Nat) : Int) = z := ⟨_, rfl⟩
           obtain ⟨bI, hbI⟩ : ∃ z : Int, ((b : Nat) : Int) = z := ⟨_, rfl⟩
           obtain ⟨nI, hnI⟩ : ∃ z : Int, ((l0.length : Nat) : Int) = z := ⟨_, rfl⟩
           obtain ⟨mm, hmm⟩ : ∃ z : Nat, (l0.length * l0.length : Nat) = z := ⟨_, rfl⟩
           simp only [haI, hbI, hnI, hmm] at hs1 hs2 hx1I hx2I hbe hnb1 q3b ⊢
           go_wp2
           have HRC4 := Aside0.mk (Kd.R_drew HRC3.out)
           have HB4 := Aside0.mk (below_drew HB3.out)
           refine start_ (n := 25) (S := fun w' => w'.cell? ⟨g, i1, none⟩ = some (.int .i64 v1) ∧ w'.cell? ⟨g, i2, none⟩ = some (.int .i64 v2)) (ds := []) (Bs 0 25) (by kernel_rfl) rfl rfl ⟨d1, d2⟩ (fun hHeld => ?_)
           generalize w3.drew = w4 at HRC4 HB4 d1 d2 hHeld ⊢
           refine with_tabW refcR.tab30 refcR.bits30 (fun HT_ HW_ => ?_)
           refine pu 0 145 (Bs 1 25) HT_ ?_
           refine pu 1 146 (Bs 2 25) HT_ ?_
           refine pu 2 147 (Bs 3 25) HT_ ?_
           refine one_ (i := 3) (N := some 148) (Bs 4 25) rfl rfl (one_of HT_.out (by kernel_rfl)) (by decide) (fun K hK => ?_)
           refine goes_ Try.func54 (by kernel_rfl) rfl #[.int .i64 bI, .int .i64 nI] (by rfl) rfl rfl (by simp only [List.map_toArray, List.map_cons, List.map_nil]; rfl) ?_
           with_reducible refine (R1_next.calls _ _ _ _ hnb1).mono ?_
           rintro e w5 ⟨rfl, ⟨nd5, rfl⟩⟩
           refine ⟨_, rfl, ?_⟩
           refine hK.out _ _ ⟨hHeld.1, hHeld.2⟩ (fun hHeld => ?_)
           clear hK K
           refine nm 148 ?_
           refine pu 4 149 (Bs 5 25) HT_ ?_
           refine pu 5 150 (Bs 6 25) HT_ ?_
           refine pu 6 151 (Bs 7 25) HT_ ?_
           refine pu 7 152 (Bs 8 25) HT_ ?_
           refine pu 8 153 (Bs 9 25) HT_ ?_
           refine pu 9 154 (Bs 10 25) HT_ ?_
           refine pu 10 155 (Bs 11 25) HT_ ?_
           refine pu 11 156 (Bs 12 25) HT_ ?_
           refine pu 12 157 (Bs 13 25) HT_ ?_
           refine pu 14 159 (Br [13,1,1,10]) HT_ ?_
           refine pu 15 160 (Br [13,1,2,9]) HT_ ?_
           refine pu 16 161 (Br [13,1,3,8]) HT_ ?_
           refine pu 17 162 (Br [13,1,4,7]) HT_ ?_
           refine pu 18 163 (Br [13,1,5,6]) HT_ ?_
           refine pu 19 164 (Br [13,1,6,5]) HT_ ?_
           refine pu 20 165 (Br [13,1,7,4]) HT_ ?_
           refine ta 13 158 (Bs 21 25) HT_ HW_ hHeld ?_
           refine ta 21 166 (Bs 22 25) HT_ HW_ hHeld ?_
           refine pu 22 167 (Bs 23 25) HT_ ?_
           refine pu 23 168 (Bs 24 25) HT_ ?_
           refine pu 24 144 (Bs 25 25) HT_ ?_
           refine done_ (done_of HT_.out (by kernel_rfl)) ?_
           have HRC6 := Aside0.mk (Kd.R_drewN HRC4.out nd5)
           have HB6 := Aside0.mk (lN HB4.out nd5)
           generalize w4.drewN nd5 = w6 at *
           go_wp2
           clear hs1 hs2
           subst haI
           subst hbI
           subst hnI
           subst hmm
           have hb512 : l0.length ≤ 512 := HL.out.2
           go_roundw
           case rel => exact ⟨b + 1, by omega, by rw [succ_w hbl hb512], HQ2, HRC6, HB6⟩
           case measure => rw [succ_w hbl hb512]; simp [intOf]; omega
          ·have q4b : (v1 != v2) = true := by rw [bne_iff_ne]; exact q4
           have HV := Aside0.mk (HBad.out (by rw [hck, decide_eq_false q3, decide_eq_false q4]; rfl))
           clear q3 q4 hck
           have hs1 := HS12.out.1
           have hs2 := HS12.out.2
           have hnb1 := HNB.out
           go_upto_if 118 with (first | (go_at_call 54; go_must (refine (R1_next.calls _ _ _ _ HNA.out).mono ?_); rintro e w3 ⟨rfl, ⟨nd3, rfl⟩⟩; have HRC3 := Aside0.mk (Kd.R_drewN HRC2.out nd3); have HB3 := Aside0.mk (lN HB2.out nd3); have d1 : (wr.drewN nd3).cell? ⟨g, i1, none⟩ = some (.int .i64 v1) := hc1; have d2 : (wr.drewN nd3).cell? ⟨g, i2, none⟩ = some (.int .i64 v2) := hc2; clear hc1 hc2 HRC2 HB2; generalize wr.drewN nd3 = w3 at *))
           obtain ⟨aI, haI⟩ : ∃ z : Int, ((a : Nat) : Int) = z := ⟨_, rfl⟩
           obtain ⟨bI, hbI⟩ : ∃ z : Int, ((b : Nat) : Int) = z := ⟨_, rfl⟩
           obtain ⟨nI, hnI⟩ : ∃ z : Int, ((l0.length : Nat) : Int) = z := ⟨_, rfl⟩
           obtain ⟨mm, hmm⟩ : ∃ z : Nat, (l0.length * l0.length : Nat) = z := ⟨_, rfl⟩
           simp only [haI, hbI, hnI, hmm] at hs1 hs2 hx1I hx2I hbe hnb1 q3b ⊢
           go_wp2
           have HRC4 := Aside0.mk (Kd.R_drew HRC3.out)
           have HB4 := Aside0.mk (below_drew HB3.out)
           refine start_ (n := 25) (S := fun w' => w'.cell? ⟨g, i1, none⟩ = some (.int .i64 v1) ∧ w'.cell? ⟨g, i2, none⟩ = some (.int .i64 v2)) (ds := []) (Bs 0 25) (by kernel_rfl) rfl rfl ⟨d1, d2⟩ (fun hHeld => ?_)
           generalize w3.drew = w4 at HRC4 HB4 d1 d2 hHeld ⊢
           refine with_tabW refcR.tab30 refcR.bits30 (fun HT_ HW_ => ?_)
           refine pu 0 145 (Bs 1 25) HT_ ?_
           refine pu 1 146 (Bs 2 25) HT_ ?_
           refine pu 2 147 (Bs 3 25) HT_ ?_
           refine one_ (i := 3) (N := some 148) (Bs 4 25) rfl rfl (one_of HT_.out (by kernel_rfl)) (by decide) (fun K hK => ?_)
           refine goes_ Try.func54 (by kernel_rfl) rfl #[.int .i64 bI, .int .i64 nI] (by rfl) rfl rfl (by simp only [List.map_toArray, List.map_cons, List.map_nil]; rfl) ?_
           with_reducible refine (R1_next.calls _ _ _ _ hnb1).mono ?_
           rintro e w5 ⟨rfl, ⟨nd5, rfl⟩⟩
           refine ⟨_, rfl, ?_⟩
           refine hK.out _ _ ⟨hHeld.1, hHeld.2⟩ (fun hHeld => ?_)
           clear hK K
           refine nm 148 ?_
           refine pu 4 149 (Bs 5 25) HT_ ?_
           refine pu 5 150 (Bs 6 25) HT_ ?_
           refine pu 6 151 (Bs 7 25) HT_ ?_
           refine pu 7 152 (Bs 8 25) HT_ ?_
           refine pu 8 153 (Bs 9 25) HT_ ?_
           refine pu 9 154 (Bs 10 25) HT_ ?_
           refine pu 10 155 (Bs 11 25) HT_ ?_
           refine pu 11 156 (Bs 12 25) HT_ ?_
           refine pu 12 157 (Bs 13 25) HT_ ?_
           refine pu 14 159 (Br [13,1,1,10]) HT_ ?_
           refine pu 15 160 (Br [13,1,2,9]) HT_ ?_
           refine pu 16 161 (Br [13,1,3,8]) HT_ ?_
           refine pu 17 162 (Br [13,1,4,7]) HT_ ?_
           refine pu 18 163 (Br [13,1,5,6]) HT_ ?_
           refine pu 19 164 (Br [13,1,6,5]) HT_ ?_
           refine pu 20 165 (Br [13,1,7,4]) HT_ ?_
           refine ta 13 158 (Bs 21 25) HT_ HW_ hHeld ?_
           refine ta 21 166 (Bs 22 25) HT_ HW_ hHeld ?_
           refine pu 22 167 (Bs 23 25) HT_ ?_
           refine pu 23 168 (Bs 24 25) HT_ ?_
           refine pu 24 144 (Bs 25 25) HT_ ?_
           refine done_ (done_of HT_.out (by kernel_rfl)) ?_
           have HRC6 := Aside0.mk (Kd.R_drewN HRC4.out nd5)
           have HB6 := Aside0.mk (lN HB4.out nd5)
           generalize w4.drewN nd5 = w6 at *
           go_wp2
           go_ret
           exact ⟨by rw [HV.out]; rfl, HB6.out⟩
       ·obtain rfl : b = l0.length := by omega
        have HQa : Aside0 (∀ a' : Nat, a' < a + 1 → ∀ b : Nat, b < l0.length → chkR l0.length ts a' b = true) := ⟨fun a' ha' => by
         by_cases e : a' = a
         ·subst e; exact HQb.out
         ·exact HQ.out a' (by omega)⟩
        have hb512 : l0.length ≤ 512 := HL.out.2
        go_wp2
        go_roundw
        case rel => exact ⟨a + 1, by omega, by go_num, HQa, HRC2, HB2⟩
        case measure => simp [intOf]; omega
     ·obtain rfl : a = l0.length := by omega
      have HV := Aside0.mk (ref_good (way := way) HLE.out HU.out HQ.out)
      go_wp2
      go_ret
      exact ⟨by rw [HV.out]; rfl, HB1.out⟩
 ·have hlenB : (((ts.length : Nat) : Int) != wrap64 (((l0.length : Nat) : Int) - 2)) = true := by rw [w64i (by omega) (by omega), bne_iff_ne]; exact hlen
  have HV := Aside0.mk (ref_len (l := l0) (way := way) hlen)
  clear hlen hl
  go_enter Try.func49, Try.ntmps49
  go_wp2
  go_ret
  exact ⟨by rw [HV.out]; rfl, HB.out⟩
theorem arR_from {l : List S31} (hok : allOk l = true) (hl : l.length ≤ 512) : ∀ (n i : Nat), l.length - i = n → i ≤ l.length →
  Ev (fun k => R1_Area.l0 k l (arN l i) (i : Int)) (arN l l.length)
 | 0, i, hn, hi => by
  obtain rfl : i = l.length := by omega
  refine Ev.step (f := fun _ => some (arN l l.length)) (fun k => ?_) (Ev.now _)
  unfold R1_Area.l0
  rw [if_neg (by omega)]
 | n + 1, i, hn, hi => by
  have hlt : i < l.length := by omega
  have hj : (i + 1) % l.length < l.length := Nat.mod_lt _ (by omega)
  have ih := arR_from hok hl n (i + 1) (by omega) (by omega)
  have hb := arN_bd hok (i + 1) (by omega)
  have hbi := arN_bd hok i (by omega)
  have oa := (okPt_iff _).1 (pt_ok hok hlt)
  have ob := (okPt_iff _).1 (pt_ok hok hj)
  have h1 := mul_bd (a := (pt l i).f0) (b := (pt l ((i + 1) % l.length)).f1) (m := 4096) (n := 4096) (by omega) (by omega)
  have h2 := mul_bd (a := (pt l ((i + 1) % l.length)).f0) (b := (pt l i).f1) (m := 4096) (n := 4096) (by omega) (by omega)
  have e : arN l (i + 1) = arN l i + cyA (pt l i) (pt l ((i + 1) % l.length)) := rfl
  have r0 : rd_T31 l (i : Int) = pt l i := by unfold rd_T31 pt; rw [Int.toNat_natCast]
  have r1 : rd_T31 l (((i + 1) % l.length : Nat) : Int) = pt l ((i + 1) % l.length) := by unfold rd_T31 pt; rw [Int.toNat_natCast]
  unfold cyA at e
  refine Ev.step (f := fun k => R1_Area.l0 k l (arN l (i + 1)) ((i + 1 : Nat) : Int)) (fun k => ?_) ih
  conv => lhs; unfold R1_Area.l0
  rw [if_pos (by omega), if_pos (by omega), refnext_is i l.length hlt (by omega), Option.bind_some, if_pos (by omega), if_pos (by omega), r0, r1, w64i (x := (i : Int) + 1) (by omega) (by omega),
   w64i (x := (pt l i).f0 * (pt l ((i + 1) % l.length)).f1) (by omega) (by omega), w64i (x := (pt l ((i + 1) % l.length)).f0 * (pt l i).f1) (by omega) (by omega)]
  rw [w64i (x := arN l i + (pt l i).f0 * (pt l ((i + 1) % l.length)).f1) (by omega) (by omega), w64i (by omega) (by omega), show arN l i + (pt l i).f0 * (pt l ((i + 1) % l.length)).f1 - (pt l ((i + 1) % l.length)).f0 * (pt l i).f1 = arN l (i + 1) by omega]
  rfl
theorem sense_sgn {l : List S31} (h : simpleS l = true) : R1_Sign.f (arN l l.length) = some (senseS l) := by
 have hG := (tri_fact h).1.good
 unfold R1_Sign.f senseS
 rcases sense_good hG with ⟨h1, _⟩ | ⟨h1, _⟩
 ·rw [if_pos h1, if_pos h1]
 ·rw [if_neg (by omega), if_pos h1, if_neg (by omega)]
theorem gp_at {l : List S31} (nd : (l.map gp).Nodup) {a b : Nat} (ha : a < l.length) (hb : b < l.length) (e : gp (pt l a) = gp (pt l b)) : a = b := by
 rw [List.nodup_iff_pairwise_ne, List.pairwise_iff_getElem] at nd
 have hx : ∀ i (hi : i < l.length), (l.map gp)[i]'(by rw [List.length_map]; exact hi) = gp (pt l i) := fun i hi => by rw [pt_eq l i hi]; simp
 have hlen : (l.map gp).length = l.length := List.length_map ..
 rcases Nat.lt_trichotomy a b with h | h | h
 ·have := nd a b (by omega) (by omega) h; rw [hx a ha, hx b hb] at this; exact absurd e this
 ·exact h
 ·have := nd b a (by omega) (by omega) h; rw [hx a ha, hx b hb] at this; exact absurd e.symm this
theorem sd_snoc (x y : Geo.Pt) : ∀ (A : List (Geo.Pt × Geo.Pt × Geo.Pt)) t, Geo.sd x y (A ++ [t]) = Geo.sd x y A + Geo.isd x y t
 | [], t => by simp [Geo.sd]
 | u :: A, t => by rw [List.cons_append, Geo.sd, Geo.sd, sd_snoc x y A t]; omega
theorem cnt_isd {l : List S31} (nd : (l.map gp).Nodup) {x y z a b : Nat} (hx : x < l.length) (hy : y < l.length) (hz : z < l.length) (ha : a < l.length) (hb : b < l.length) :
  cnt1 ⟨x, y, z⟩ a b 3 = Geo.isd (gp (pt l a)) (gp (pt l b)) (p3 l ⟨x, y, z⟩) := by
 have g : ∀ {i j : Nat}, i < l.length → j < l.length → (((i : Int) = (j : Int)) ↔ (gp (pt l j) = gp (pt l i))) := fun hi hj => ⟨fun e => by rw [Int.ofNat_inj.mp e], fun e => by rw [gp_at nd hj hi e]⟩
 show ((0 + (if ((x : Int) = a ∧ (y : Int) = b) then (1 : Int) else 0)) + (if ((y : Int) = a ∧ (z : Int) = b) then (1 : Int) else 0)) + (if ((z : Int) = a ∧ (x : Int) = b) then (1 : Int) else 0) = _
 unfold Geo.isd p3
 simp only [Int.toNat_natCast]
 simp only [g hx ha, g hy hb, g hy ha, g hz hb, g hz ha, g hx hb]
 omega
theorem cnt_sd {l : List S31} (nd : (l.map gp).Nodup) {ts : List S58} (hi : ∀ t ∈ ts, ∃ a b c : Nat, t = ⟨a, b, c⟩ ∧ a < l.length ∧ b < l.length ∧ c < l.length) {a b : Nat} (ha : a < l.length) (hb : b < l.length) :
  ∀ n, n ≤ ts.length → cntI ts a b n = Geo.sd (gp (pt l a)) (gp (pt l b)) ((ts.take n).map (p3 l))
 | 0, _ => by simp [cntI, Geo.sd]
 | n + 1, hn => by
  have h := hi _ (tt_mem (ts := ts) (i := n) (by omega))
  obtain ⟨x, y, z, e, hx, hy, hz⟩ := h
  have et : ts.take (n + 1) = ts.take n ++ [tt ts n] := by
   rw [List.take_succ_eq_append_getElem (by omega)]; unfold tt; rw [List.getD_eq_getElem?_getD, List.getElem?_eq_getElem (by omega), Option.getD_some]
  rw [et, List.map_append, List.map_cons, List.map_nil, sd_snoc, ← cnt_sd nd hi ha hb n (by omega), e, ← cnt_isd nd hx hy hz ha hb, ← e]
  rfl
theorem tri_refcov {l : List S31} (h : simpleS l = true) : refCovB l (senseS l) (triT l) = true := by
 obtain ⟨k1, _⟩ := tri_fact h
 obtain ⟨h3, _, _⟩ := simple_ok h
 have hs := k1.good.sgn
 have nd := k1.good.sim.nd
 have hlen : (l.map gp).length = l.length := List.length_map ..
 have hsd := k1.es.sides nd (by rw [hlen]; exact h3)
 have hc : ∀ {a b : Nat}, a < l.length → b < l.length → cntI (triT l) a b (triT l).length = Geo.sd (gp (pt l a)) (gp (pt l b)) ((triT l).map (p3 l)) := fun ha hb => by
  have := cnt_sd nd k1.idx ha hb (triT l).length (Nat.le_refl _)
  rwa [List.take_length] at this
 have cy : ∀ {a b : Nat}, a < l.length → b < l.length → ((gp (pt l a), gp (pt l b)) ∈ Geo.cyc (l.map gp) ↔ b = nxn l.length a) := fun {a b} ha hb => by
  rw [Geo.cyc_idx, hlen]
  constructor
  ·rintro ⟨i, hi, e⟩
   have n1 : (i + 1) % l.length < l.length := Nat.mod_lt _ (by omega)
   rw [ix_gp l i hi, ix_gp l _ n1] at e
   have e1 := gp_at nd ha hi (congrArg Prod.fst e)
   have e2 := gp_at nd hb n1 (congrArg Prod.snd e)
   rw [e1, e2]; rfl
  ·rintro rfl
   have n1 : (a + 1) % l.length < l.length := Nat.mod_lt _ (by omega)
   exact ⟨a, ha, by rw [ix_gp l a ha, ix_gp l _ n1]; rfl⟩
 refine ref_good ?_ ?_ ?_
 ·have := k1.es.len
  rw [hlen, List.length_map] at this
  omega
 ·intro i hi
  have hm := tt_mem hi
  obtain ⟨a, b, c, e, ha, hb, hc'⟩ := k1.idx _ hm
  have hp := k1.es.pos _ (List.mem_map.mpr ⟨_, hm, rfl⟩)
  unfold okTri
  have : turnT l (tt (triT l) i) = senseS l := (sgn_way hs).mpr hp
  rw [decide_eq_true this, Bool.and_true, e]
  unfold inT
  rw [decide_eq_true (show (0 : Int) ≤ (a : Int) ∧ (a : Int) < (l.length : Int) by omega), decide_eq_true (show (0 : Int) ≤ (b : Int) ∧ (b : Int) < (l.length : Int) by omega), decide_eq_true (show (0 : Int) ≤ (c : Int) ∧ (c : Int) < (l.length : Int) by omega)]; rfl
 ·intro a ha b hb
  by_cases e : b = nxn l.length a
  ·rw [chkR_a e, hc ha hb, hc hb ha]
   have := hsd.1 _ ((cy ha hb).mpr e)
   rw [decide_eq_true this.1, decide_eq_true this.2]; rfl
  ·rw [chkR_b e]
   by_cases e2 : a = nxn l.length b
   ·rw [decide_eq_true e2]; rfl
   ·have := hsd.2 _ _ (fun q => e ((cy ha hb).mp q)) (fun q => e2 ((cy hb ha).mp q))
    rw [hc ha hb, hc hb ha, decide_eq_true this, Bool.or_true]
def R1_Covers.f (l0 : List S31) (ts : List S58) : Option Bool := if simpleS l0 = true then some (refCovB l0 (senseS l0) ts) else none
theorem R1_Covers.calls (A0 : Option Addr) (c0 : Nat) (l0 : List S31) (A1 : Option Addr) (c1 : Nat) (l1 : List S58) (r : Bool) (w : World) (hr0 : Kd.C k31 w A0 l0.length l0) (hc0 : l0.length ≤ c0) (hr1 : Kd.C k58 w A1 l1.length l1) (hc1 : l1.length ≤ c1) (h : R1_Covers.f l0 l1 = some r) :
  Calls Try.prog 49 #[.slice A0 l0.length c0, .slice A1 l1.length c1] w fun e w' => e = .returned (.bool r) ∧ Below w.heap.size w w' := by
 unfold R1_Covers.f at h
 by_cases hs : simpleS l0 = true
 ·rw [if_pos hs] at h
  obtain rfl := Option.some.inj h
  obtain ⟨h3, h5, hok⟩ := simple_ok hs
  obtain ⟨k, hk⟩ := (arR_from hok h5 (l0.length - 0) 0 rfl (by omega)).rounds
  exact refcov_calls A0 c0 l0 A1 c1 l1 (senseS l0) w hr0 hc0 hr1 hc1 hok ⟨h3, h5⟩ k _ hk (sense_sgn hs)
 ·rw [if_neg hs] at h; cases h
end Go.Proofs.Ythaklbjcjoolcaa.P
