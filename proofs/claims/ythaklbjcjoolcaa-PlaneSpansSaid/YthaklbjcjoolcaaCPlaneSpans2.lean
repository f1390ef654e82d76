/- Proved here: what functions that the law reaches compute, and plain laws of that. No conditions but those that the theorems state. -/
import Derived.Test.YthaklbjcjoolcaaCPlaneSpans1
set_option linter.unusedVariables false
set_option linter.unusedSimpArgs false
namespace Go.Proofs.Ythaklbjcjoolcaa.Pure
open Go.RowKit Go.Proofs.Ythaklbjcjoolcaa.P Go.Proofs.YthaklbjcjoolcaaW.PrintWords Go.Proofs.YthaklbjcjoolcaaW.PrintLast Go.Proofs.YthaklbjcjoolcaaW.PrintMore
theorem sq_ok {a b : S31} (ha : okPt a = true) (hb : okPt b = true) : silversideref01_Square.f a.f0 a.f1 b.f0 b.f1 = some (sqd a b) := by
  rw [← square_is ha hb]; rfl
section
variable (l : List S31) (hok : allOk l = true) (hl : l.length ≤ 4096)
include hok hl
theorem rw_row (i : Nat) (hi : i < l.length) (m r : Int) (h : Ev (fun k => silversideref01_Widest.l0 k l (widR l i i m) ((i + 1 : Nat) : Int)) r) : ∀ (d j : Nat), i - j = d → j ≤ i → Ev (fun k => silversideref01_Widest.l1 k l (widR l i j m) (i : Int) (j : Int)) r
  | 0, j, hd, hj => by
    obtain rfl : j = i := by omega
    refine Ev.step (fun k => ?_) h
    conv => lhs; unfold silversideref01_Widest.l1
    rw [if_neg (by omega), w64i (x := (j : Int) + 1) (by omega) (by omega)]
    rfl
  | d + 1, j, hd, hj => by
    have hlt : j < i := by omega
    refine Ev.step (fun k => ?_) (rw_row i hi m r h d (j + 1) (by omega) (by omega))
    conv => lhs; unfold silversideref01_Widest.l1
    rw [if_pos (by omega), if_pos (by omega), if_pos (by omega), if_pos (by omega), if_pos (by omega), rd_pt, rd_pt, sq_ok (allOk_pt hok i hi) (allOk_pt hok j (by omega)), Option.bind_some, w64i (x := (j : Int) + 1) (by omega) (by omega)]
    rfl
theorem rw_all : ∀ (d i : Nat), l.length - i = d → i ≤ l.length → Ev (fun k => silversideref01_Widest.l0 k l (widA l i) (i : Int)) (widA l l.length)
  | 0, i, hd, hi => by
    obtain rfl : i = l.length := by omega
    refine Ev.step (f := fun _ => some (widA l l.length)) (fun k => ?_) (Ev.now _)
    unfold silversideref01_Widest.l0
    rw [if_neg (by omega)]
  | d + 1, i, hd, hi => by
    have hlt : i < l.length := by omega
    have h := rw_row l hok hl i hlt (widA l i) _ (rw_all d (i + 1) (by omega) (by omega)) i 0 (by omega) (by omega)
    refine Ev.step (fun k => ?_) h
    conv => lhs; unfold silversideref01_Widest.l0
    rw [if_pos (by omega)]
    rfl
theorem refwidest_ev : Ev (fun k => silversideref01_Widest.f k l) (widA l l.length) := rw_all l hok hl l.length 0 (by omega) (by omega)
theorem rn_row (i : Nat) (hi : i < l.length) (m r : Int) (h : Ev (fun k => silversideref01_Nearest.l0 k l (mnR l i i m) ((i + 1 : Nat) : Int)) r) : ∀ (d j : Nat), i - j = d → j ≤ i → Ev (fun k => silversideref01_Nearest.l1 k l (mnR l i j m) (i : Int) (j : Int)) r
  | 0, j, hd, hj => by
    obtain rfl : j = i := by omega
    refine Ev.step (fun k => ?_) h
    conv => lhs; unfold silversideref01_Nearest.l1
    rw [if_neg (by omega), w64i (x := (j : Int) + 1) (by omega) (by omega)]
    rfl
  | d + 1, j, hd, hj => by
    have hlt : j < i := by omega
    refine Ev.step (fun k => ?_) (rn_row i hi m r h d (j + 1) (by omega) (by omega))
    conv => lhs; unfold silversideref01_Nearest.l1
    rw [if_pos (by omega), if_pos (by omega), if_pos (by omega), if_pos (by omega), if_pos (by omega), rd_pt, rd_pt, sq_ok (allOk_pt hok i hi) (allOk_pt hok j (by omega)), Option.bind_some, w64i (x := (j : Int) + 1) (by omega) (by omega)]
    rfl
theorem rn_all (m : Int) : ∀ (d i : Nat), l.length - i = d → i ≤ l.length → Ev (fun k => silversideref01_Nearest.l0 k l (rnA l i m) (i : Int)) (rnA l l.length m)
  | 0, i, hd, hi => by
    obtain rfl : i = l.length := by omega
    refine Ev.step (f := fun _ => some (rnA l l.length m)) (fun k => ?_) (Ev.now _)
    unfold silversideref01_Nearest.l0
    rw [if_neg (by omega)]
  | d + 1, i, hd, hi => by
    have hlt : i < l.length := by omega
    have h := rn_row l hok hl i hlt (rnA l i m) _ (rn_all m d (i + 1) (by omega) (by omega)) i 0 (by omega) (by omega)
    refine Ev.step (fun k => ?_) h
    conv => lhs; unfold silversideref01_Nearest.l0
    rw [if_pos (by omega)]
    rfl
theorem refnearest_ev (h2 : 2 ≤ l.length) : Ev (fun k => silversideref01_Nearest.f k l) (rnA l l.length (sqd (pt l 0) (pt l 1))) := by
  unfold silversideref01_Nearest.f
  refine ev_pos (by omega) (ev_pos (by omega) ?_)
  rw [show rd_T31 l 0 = pt l 0 from rfl, show rd_T31 l 1 = pt l 1 from rfl]
  exact Ev.bind (ev_is (sq_ok (allOk_pt hok 0 (by omega)) (allOk_pt hok 1 (by omega)))) (rn_all l hok hl _ l.length 0 (by omega) (by omega))
end
theorem PlaneSpans (l : List S31) (_ : ∀ q ∈ l, (Lit.int .i64 q.f0).wf = true ∧ (Lit.int .i64 q.f1).wf = true) : ∃ k, silversidelaw01_PlaneSpans.f k l = some true := by
  refine Ev.rounds ?_
  unfold silversidelaw01_PlaneSpans.f
  obtain ⟨t, ht, hl, _⟩ := some_is l 120 (by decide)
  refine Ev.bind (ev_is ht) ?_
  by_cases hs : isSetB t = true
  · obtain ⟨⟨s1, s2⟩, hok⟩ := (isSetB_iff t).1 hs
    have hw : plane_Widest.f t = some (widA t t.length, 0) := by unfold plane_Widest.f; rw [if_pos hs, wide_corners s1]
    have hset := set_ev t (by omega)
    rw [hs] at hset
    by_cases h1 : t.length = 1
    · have hn : plane_Nearest.f t = some (0, 2) := by unfold plane_Nearest.f; rw [if_neg (fun h => h.2 h1)]
      refine Ev.bind (ev_is hw) (Ev.bind (ev_is hn) (Ev.bind hset (ev_pos rfl (Ev.bind (refwidest_ev t hok (by omega)) (ev_pos rfl ?_)))))
      refine Ev.step (f := fun k => (silversidelaw01_awake.f k).bind fun t => some t) (fun k => ?_) awake_bind
      show silversidelaw01_PlaneSpans.j0 (k + 1) t 0 2 false = _
      rw [silversidelaw01_PlaneSpans.j0, if_neg (by decide), if_pos (by omega), if_pos rfl, if_pos rfl]
    · have hn : plane_Nearest.f t = some (nearV t, 0) := by unfold plane_Nearest.f; rw [if_pos ⟨hs, h1⟩]
      refine Ev.bind (ev_is hw) (Ev.bind (ev_is hn) (Ev.bind hset (ev_pos rfl (Ev.bind (refwidest_ev t hok (by omega)) (ev_pos rfl ?_)))))
      refine Ev.step (f := fun k => ((silversideref01_Nearest.f k t).bind fun t597 => (if nearV t = t597 then (if (0 : Int) = 0 then ((silversidelaw01_awake.f k).bind fun t598 => (some t598)) else (some false)) else (some false)))) (fun k => ?_) ?_
      · show silversidelaw01_PlaneSpans.j0 (k + 1) t (nearV t) 0 false = _
        rw [silversidelaw01_PlaneSpans.j0, if_neg (by decide), if_neg (by omega)]
      · exact Ev.bind (refnearest_ev t hok (by omega) (by omega)) (ev_pos (near_same (by omega)) (ev_pos rfl awake_bind))
  · rw [Bool.not_eq_true] at hs
    have hw : plane_Widest.f t = some (0, 2) := by unfold plane_Widest.f; rw [hs]; rfl
    have hn : plane_Nearest.f t = some (0, 2) := by unfold plane_Nearest.f; rw [hs]; rfl
    have hset := set_ev t (by omega)
    rw [hs] at hset
    exact Ev.bind (ev_is hw) (Ev.bind (ev_is hn) (Ev.bind hset (ev_neg (by decide) (ev_pos rfl (ev_pos rfl (ev_pos rfl (ev_pos rfl awake_bind)))))))
end Go.Proofs.Ythaklbjcjoolcaa.Pure
