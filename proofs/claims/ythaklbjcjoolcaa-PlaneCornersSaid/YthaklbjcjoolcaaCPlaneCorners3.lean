/- Proved here: what functions that the law reaches compute, and plain laws of that. No conditions but those that the theorems state. -/
import Derived.Test.YthaklbjcjoolcaaCPlaneCorners2
set_option linter.unusedVariables false
set_option linter.unusedSimpArgs false
namespace Go.Proofs.Ythaklbjcjoolcaa.Pure
open Go.RowKit Go.Proofs.Ythaklbjcjoolcaa.P Go.Proofs.YthaklbjcjoolcaaW.PrintWords Go.Proofs.YthaklbjcjoolcaaW.PrintLast
theorem law_turn {a b c : S31} (ha : okPt a = true) (hb : okPt b = true) (hc : okPt c = true) : silversidelaw01_turn.f a.f0 a.f1 b.f0 b.f1 c.f0 c.f1 = some (sgn (crs a b c)) := by
  have hi : ∀ {p : S31}, okPt p = true → plane_invalid.f p.f0 p.f1 = some false := by
    intro p hp
    rw [okPt_iff] at hp
    unfold plane_invalid.f plane_valid.f
    simp only [within_is, Option.bind_some]
    rw [decide_eq_true (show -4096 ≤ p.f0 ∧ p.f0 ≤ 4096 from hp.1), decide_eq_true (show -4096 ≤ p.f1 ∧ p.f1 ≤ 4096 from hp.2)]
    rfl
  unfold silversidelaw01_turn.f plane_Turn.f
  simp only [hi ha, hi hb, hi hc, Option.bind_some, turn_is ha hb hc]
  rfl
theorem tmod_i (i c n : Nat) (h : i < n) (hn : n ≤ 100000) (hc : c ≤ 2) : Int.tmod (wrap64 ((i : Int) + (c : Int))) (n : Int) = (((i + c) % n : Nat) : Int) := by
  rw [w64i (by omega) (by omega), show ((i : Int) + (c : Int)) = ((i + c : Nat) : Int) by omega]
  rfl
theorem nxt_two {i n : Nat} (h : i < n) : nxt (nxt i n) n = (i + 2) % n := by
  rw [nxt_mod (nxt_lt (by omega)), nxt_mod h, Nat.mod_add_mod]
/-- every point of the set is to the left of an edge, or on it -/
theorem row_ev (t H : List S31) (n i : Nat) (a b : S31) (hok : allOk t = true) (ha : okPt a = true) (hb : okPt b = true) (hl : t.length < 9223372036854775807) (hall : ∀ r ∈ t, 0 ≤ crs a b r)
    (h : Ev (fun k => silversidelaw01_PlaneCorners.l0 k t H (n : Int) (wrap64 ((i : Int) + 1))) true) : ∀ (m j : Nat), t.length - j = m → j ≤ t.length →
    Ev (fun k => silversidelaw01_PlaneCorners.l1 k t H (n : Int) (i : Int) (j : Int) a.f0 a.f1 b.f0 b.f1) true
  | 0, j, hm, hj => by
    refine Ev.step (fun k => ?_) h
    conv => lhs; unfold silversidelaw01_PlaneCorners.l1
    rw [if_neg (by omega)]
  | m + 1, j, hm, hj => by
    have hlt : j < t.length := by omega
    have ih := row_ev t H n i a b hok ha hb hl hall h m (j + 1) (by omega) (by omega)
    have hc := hall _ (List.getElem_mem hlt)
    refine Ev.step (fun k => ?_) ih
    conv => lhs; unfold silversidelaw01_PlaneCorners.l1
    rw [if_pos (by omega), if_pos (by omega), rd_at t j hlt, law_turn ha hb (List.all_eq_true.1 hok _ (List.getElem_mem hlt)), Option.bind_some, w64i (x := (j : Int) + 1) (by omega) (by omega)]
    rcases Int.lt_or_eq_of_le hc with h1 | h1
    · have h2 := sgn_pos.2 h1
      have h3 := sgn_bd (crs a b t[j])
      rw [if_neg (by omega), if_pos (by omega)]; rfl
    · rw [if_pos (sgn_zero.2 h1.symm)]; rfl
theorem ring_ev (t H : List S31) (hH : IsHull t H) (hok : allOk t = true) (hl : t.length < 9223372036854775807) (hn : H.length ≤ 100000)
    (h : Ev (fun k => silversidelaw01_PlaneCorners.l2 k t H [] (wrap64 ((t.length : Int) - 1))) true) : ∀ (m i : Nat), H.length - i = m → i ≤ H.length →
    Ev (fun k => silversidelaw01_PlaneCorners.l0 k t H (H.length : Int) (i : Int)) true := by
  have fin : ∀ i : Nat, Ev (fun k => silversidelaw01_PlaneCorners.j2 k t H (H.length : Int) (i : Int) false) true := by
    intro i
    refine Ev.step (fun k => ?_) h
    conv => lhs; unfold silversidelaw01_PlaneCorners.j2
    rw [if_neg (by decide)]
  have okH : ∀ i, i < H.length → okPt (pt H i) = true := fun i hi => List.all_eq_true.1 hok _ (hH.mem i hi)
  intro m
  induction m with
  | zero =>
    intro i hm hi
    refine Ev.step (fun k => ?_) (fin i)
    conv => lhs; unfold silversidelaw01_PlaneCorners.l0
    rw [if_neg (by omega)]
  | succ m ih =>
    intro i hm hi
    have hlt : i < H.length := by omega
    by_cases h1 : H.length = 1
    · refine Ev.step (fun k => ?_) (fin i)
      conv => lhs; unfold silversidelaw01_PlaneCorners.l0
      rw [if_pos (by omega), decide_eq_false (by omega)]
    · have nb := nxt_lt (i := i) hH.pos
      have nc := nxt_lt (i := nxt i H.length) hH.pos
      have ih' := ih (i + 1) (by omega) (by omega)
      have hrow := row_ev t H H.length i (pt H i) (pt H (nxt i H.length)) hok (okH _ hlt) (okH _ nb) hl (fun r hr => (hH.ed i hlt r hr).nn) (by rw [w64i (x := (i : Int) + 1) (by omega) (by omega)]; exact ih') t.length 0 (by omega) (by omega)
      have hj3 : Ev (fun k => silversidelaw01_PlaneCorners.j3 k t H (H.length : Int) (i : Int) false (pt H i).f0 (pt H i).f1 (pt H (nxt i H.length)).f0 (pt H (nxt i H.length)).f1) true := by
        refine Ev.step (fun k => ?_) hrow
        conv => lhs; unfold silversidelaw01_PlaneCorners.j3
        rw [if_neg (by decide)]; rfl
      have hj2 : Ev (fun k => silversidelaw01_PlaneCorners.j2 k t H (H.length : Int) (i : Int) true) true := by
        refine Ev.step (fun k => ?_) hj3
        have e1 : Int.tmod (wrap64 ((i : Int) + 1)) (H.length : Int) = ((nxt i H.length : Nat) : Int) := by rw [nxt_mod hlt]; exact tmod_i i 1 H.length hlt hn (by omega)
        have e2 : Int.tmod (wrap64 ((i : Int) + 2)) (H.length : Int) = ((nxt (nxt i H.length) H.length : Nat) : Int) := by rw [nxt_two hlt]; exact tmod_i i 2 H.length hlt hn (by omega)
        conv => lhs; unfold silversidelaw01_PlaneCorners.j2
        rw [if_pos rfl, if_pos (by omega), if_pos (by omega), if_neg (by omega), e1, e2, if_pos (by omega), if_pos (by omega), rd_pt, rd_pt, rd_pt]
        by_cases h3 : 2 < H.length
        · have hs := sgn_pos.2 (hull_left hH h3 i hlt)
          have hb := sgn_bd (crs (pt H i) (pt H (nxt i H.length)) (pt H (nxt (nxt i H.length) H.length)))
          rw [if_pos (by omega), if_pos (by omega), if_pos (by omega), law_turn (okH _ hlt) (okH _ nb) (okH _ nc), Option.bind_some]
          generalize sgn (crs (pt H i) (pt H (nxt i H.length)) (pt H (nxt (nxt i H.length) H.length))) = s at *
          obtain rfl : s = 1 := by omega
          rfl
        · rw [if_neg (by omega)]
      refine Ev.step (fun k => ?_) hj2
      conv => lhs; unfold silversidelaw01_PlaneCorners.l0
      rw [if_pos (by omega), decide_eq_true (by omega)]
theorem back_ev (t H : List S31) (hl : t.length ≤ 60) (ht : 1 ≤ t.length) (hok : allOk t = true) (hH : H = cornersS t) : ∀ j : Nat, j ≤ t.length → Ev (fun k => silversidelaw01_PlaneCorners.l2 k t H (t.drop j).reverse ((j : Int) - 1)) true
  | 0, _ => by
    have hr : cornersS t.reverse = H := by rw [hH]; exact corners_same (by omega) (by rw [List.length_reverse]; omega) (fun p => List.mem_reverse)
    have ha : cornersS H = H := by rw [hH]; exact corners_again (by omega)
    have hlen := cornersS_len t
    rw [← hH] at hlen
    have h1 : plane_Hull.f H = some (H, 0) := by
      have := hull_is (t := H) (by rw [hH]; exact corners_set ht (by omega) hok)
      rw [ha] at this; exact this
    have h2 : plane_Hull.f t.reverse = some (H, 0) := by
      have := hull_is (t := t.reverse) (set_of (by rw [List.length_reverse]; omega) (by rw [List.length_reverse]; omega) (by unfold allOk at *; rw [List.all_reverse]; exact hok))
      rw [hr] at this; exact this
    refine Ev.step (f := fun k => (silversidelaw01_same.f k H H).bind fun t477 => (if t477 = true then ((silversidelaw01_same.f k H H).bind fun t478 => (if t478 = true then ((silversidelaw01_awake.f k).bind fun t479 => (some t479)) else (some false))) else (some false))) (fun k => ?_) ?_
    · conv => lhs; unfold silversidelaw01_PlaneCorners.l2
      rw [if_neg (by omega), List.drop_zero, h1, h2, Option.bind_some, Option.bind_some, if_pos rfl, if_pos rfl]
    · exact Ev.bind (same_ev H (by omega)) (ev_pos rfl (Ev.bind (same_ev H (by omega)) (ev_pos rfl awake_bind)))
  | j + 1, hj => by
    have hlt : j < t.length := by omega
    have ih := back_ev t H hl ht hok hH j (by omega)
    rw [List.drop_eq_getElem_cons hlt, List.reverse_cons] at ih
    refine Ev.step (fun k => ?_) ih
    conv => lhs; unfold silversidelaw01_PlaneCorners.l2
    rw [show ((j + 1 : Nat) : Int) - 1 = (j : Int) by omega, if_pos (by omega), if_pos (by omega), if_pos (by omega), if_pos (by rw [List.length_reverse, List.length_drop]; omega), rd_at t j hlt, w64i (x := (j : Int) - 1) (by omega) (by omega)]
theorem PlaneCorners (l : List S31) (_ : ∀ q ∈ l, (Lit.int .i64 q.f0).wf = true ∧ (Lit.int .i64 q.f1).wf = true) : ∃ k, silversidelaw01_PlaneCorners.f k l = some true := by
  refine Ev.rounds ?_
  unfold silversidelaw01_PlaneCorners.f
  obtain ⟨t, ht, h1, h2, hok⟩ := gset_ev l 60 (by omega) (by omega)
  refine Ev.bind ht ?_
  have hH := corners_hull t h1
  have hlen := cornersS_len t
  refine Ev.bind (ev_is (hull_is (set_of h1 (by omega) hok))) (ev_pos rfl ?_)
  have hback := back_ev t (cornersS t) h2 h1 hok rfl t.length (by omega)
  rw [List.drop_length, List.reverse_nil] at hback
  have hring := ring_ev t (cornersS t) hH hok (by omega) (by omega) (by rw [w64i (by omega) (by omega)]; exact hback) (cornersS t).length 0 (by omega) (by omega)
  have hp := hH.pos
  refine Ev.step (fun k => ?_) hring
  show (if ((((cornersS t).length : Int) == 0) = true) then some false else silversidelaw01_PlaneCorners.l0 k t (cornersS t) ((cornersS t).length : Int) 0) = _
  rw [if_neg (by rw [beq_iff_eq]; omega)]
  rfl
end Go.Proofs.Ythaklbjcjoolcaa.Pure
