/- Proved here: what functions that the law reaches compute, and plain laws of that. Put together by a program; a part was printed by one (wip/printplus.py). -/
import Derived.Test.YthaklbjcjoolcaaCPlaneTiles3
import Derived.Test.YthaklbjcjoolcaaCPlaneTiles1
import Derived.Outline
import Derived.Deep.DeepMust
import Derived.Deep.LoopGhost
import Derived.Test.YthaklbjcjoolcaaCPlaneTiles2
import Derived.Test.YthaklbjcjoolcaaBPlaneTiles4
set_option linter.unusedVariables false
set_option linter.unusedSimpArgs false
namespace Go.Proofs.Ythaklbjcjoolcaa.P
open Go.RowKit YthaklbjcjoolcaaW.PrintWords YthaklbjcjoolcaaW.PrintLast YthaklbjcjoolcaaW.PrintMore
theorem pw_sum (z : Geo.Pt) : ∀ M : List Geo.Pt, Geo.pw NH 0 M z = sumF (fun i => Geo.w NH 0 (Geo.ix M i) (Geo.ix M (i + 1)) z) (M.length - 1)
  | [] => rfl
  | [_] => rfl
  | a :: b :: r => by
    have ih := pw_sum z (b :: r)
    rw [Geo.pw_two, ih]
    have e : (a :: b :: r).length - 1 = ((b :: r).length - 1) + 1 := by simp
    rw [e, sumF_front]; rfl
theorem Wd_sum (l : List S31) (z : Geo.Pt) : Geo.Wd NH 0 (l.map gp) z = sumF (fun i => Geo.w NH 0 (gp (pt l i)) (gp (pt l ((i + 1) % l.length))) z) l.length := by
  cases l with
  | nil => rfl
  | cons a r =>
    show Geo.pw NH 0 (((a :: r).map gp) ++ [gp a]) z = _
    rw [pw_sum]
    have hl : (((a :: r).map gp) ++ [gp a]).length - 1 = (a :: r).length := by simp
    rw [hl]
    refine sumF_congr _ fun i hi => ?_
    have hm : ((a :: r).map gp).length = (a :: r).length := List.length_map ..
    rw [Geo.ix_app_l _ _ _ (by rw [hm]; exact hi), ix_gp _ i hi]
    have hk : Geo.ix (((a :: r).map gp) ++ [gp a]) (i + 1) = gp (pt (a :: r) ((i + 1) % (a :: r).length)) := by
      by_cases c : i + 1 < (a :: r).length
      · rw [Geo.ix_app_l _ _ _ (by rw [hm]; exact c), ix_gp _ _ c, Nat.mod_eq_of_lt c]
      · have e : i + 1 = (a :: r).length := by omega
        rw [e, Nat.mod_self, ← hm, Geo.ix_app_r]; rfl
    rw [hk]
theorem cross_xr (a b p : S31) : Geo.xr (gp a) (gp b) (gp p) = crossR a b p := by
  unfold Geo.xr crossR Geo.up
  simp only [T_crs]
  rfl
def xoN (l : List S31) (p : S31) : Nat → Nat → Bool
  | 0, _ => false
  | m + 1, i => xor (crossR (pt l i) (pt l ((i + 1) % l.length)) p) (xoN l p m (i + 1))
theorem ins_off (l : List S31) (p : S31) : ∀ m i odd, (∀ j, i ≤ j → j < i + m → onB (pt l j) (pt l ((j + 1) % l.length)) p = false) → insR l p m i odd = if xor odd (xoN l p m i) = true then 1 else -1
  | 0, i, odd, _ => by unfold insR xoN; cases odd <;> rfl
  | m + 1, i, odd, h => by
    unfold insR xoN
    rw [if_neg (by rw [h i (by omega) (by omega)]; decide), ins_off l p m (i + 1) _ (fun j h1 h2 => h j (by omega) (by omega)), Bool.xor_assoc]
theorem ins_on (l : List S31) (p : S31) : ∀ m i odd, (∃ j, i ≤ j ∧ j < i + m ∧ onB (pt l j) (pt l ((j + 1) % l.length)) p = true) → insR l p m i odd = 0
  | 0, i, odd, h => by obtain ⟨j, h1, h2, _⟩ := h; omega
  | m + 1, i, odd, h => by
    unfold insR
    by_cases c : onB (pt l i) (pt l ((i + 1) % l.length)) p = true
    · rw [if_pos c]
    · rw [if_neg c]
      obtain ⟨j, h1, h2, h3⟩ := h
      refine ins_on l p m (i + 1) _ ⟨j, ?_, by omega, h3⟩
      by_cases e : j = i
      · subst e; exact absurd h3 c
      · omega
theorem gp_bd {p : S31} (h : okPt p = true) : -4096 ≤ (gp p).1 ∧ (gp p).1 ≤ 4096 := ((okPt_iff _).1 h).1
theorem par_sum {l : List S31} (hok : allOk l = true) {p : S31} (hp : okPt p = true) : ∀ m i, i + m ≤ l.length → sumF (fun j => Geo.w NH 0 (gp (pt l (i + j))) (gp (pt l ((i + j + 1) % l.length))) (gp p)) m % 2 = if xoN l p m i = true then 1 else 0
  | 0, i, _ => rfl
  | m + 1, i, h => by
    have ih := par_sum hok hp m (i + 1) (by omega)
    have hj : (i + 1) % l.length < l.length := Nat.mod_lt _ (by omega)
    have hw := Geo.w_xr (N := NH) (B := 4096) (by unfold NH; decide) (gp_bd (pt_ok hok (i := i) (by omega))) (gp_bd (pt_ok hok hj)) (gp_bd hp)
    rw [cross_xr] at hw
    rw [sumF_front, Int.add_emod]
    have e : (fun j => Geo.w NH 0 (gp (pt l (i + (j + 1)))) (gp (pt l ((i + (j + 1) + 1) % l.length))) (gp p)) = fun j => Geo.w NH 0 (gp (pt l (i + 1 + j))) (gp (pt l ((i + 1 + j + 1) % l.length))) (gp p) := by
      funext j; rw [show i + (j + 1) = i + 1 + j by omega]
    rw [e, ih, show xoN l p (m + 1) i = xor (crossR (pt l i) (pt l ((i + 1) % l.length)) p) (xoN l p m (i + 1)) from rfl]
    rw [show Geo.w NH 0 (gp (pt l (i + 0))) (gp (pt l ((i + 0 + 1) % l.length))) (gp p) % 2 = _ from hw]
    cases crossR (pt l i) (pt l ((i + 1) % l.length)) p <;> cases xoN l p m (i + 1) <;> rfl
theorem on_idx {l : List S31} {p : S31} : (∃ e ∈ Geo.cyc (l.map gp), Geo.On e.1 e.2 (gp p)) ↔ ∃ i, i < l.length ∧ onB (pt l i) (pt l ((i + 1) % l.length)) p = true := by
  have hlen : (l.map gp).length = l.length := List.length_map ..
  constructor
  · rintro ⟨e, he, ho⟩
    rw [Geo.cyc_idx, hlen] at he
    obtain ⟨i, hi, rfl⟩ := he
    have n1 : (i + 1) % l.length < l.length := Nat.mod_lt _ (by omega)
    rw [ix_gp l i hi, ix_gp l _ n1] at ho
    exact ⟨i, hi, on_gp.mp ho⟩
  · rintro ⟨i, hi, ho⟩
    have n1 : (i + 1) % l.length < l.length := Nat.mod_lt _ (by omega)
    refine ⟨(gp (pt l i), gp (pt l ((i + 1) % l.length))), ?_, on_gp.mpr ho⟩
    rw [Geo.cyc_idx, hlen]
    exact ⟨i, hi, by rw [ix_gp l i hi, ix_gp l _ n1]⟩
theorem ins_cl {l : List S31} (hok : allOk l = true) {p : S31} (hp : okPt p = true) {s : Int} (hs : s = 1 ∨ s = -1) (h0 : 0 ≤ s * Geo.Wd NH 0 (l.map gp) (gp p)) (h1 : s * Geo.Wd NH 0 (l.map gp) (gp p) ≤ 1) :
    (0 ≤ insR l p l.length 0 false ↔ Geo.Cl NH (l.map gp) (gp p)) ∧ (insR l p l.length 0 false = 1 → Geo.Wd NH 0 (l.map gp) (gp p) ≠ 0) := by
  by_cases c : ∃ i, i < l.length ∧ onB (pt l i) (pt l ((i + 1) % l.length)) p = true
  · have e : insR l p l.length 0 false = 0 := ins_on l p l.length 0 false (by obtain ⟨i, a, b⟩ := c; exact ⟨i, by omega, by omega, b⟩)
    rw [e]
    exact ⟨⟨fun _ => .inl (on_idx.mpr c), fun _ => by omega⟩, fun h => by omega⟩
  · have e := ins_off l p l.length 0 false (fun j _ h2 => by
      rw [Nat.zero_add] at h2
      cases q : onB (pt l j) (pt l ((j + 1) % l.length)) p with
      | false => rfl
      | true => exact absurd ⟨j, h2, q⟩ c)
    rw [Bool.false_xor] at e
    have hpar := par_sum hok hp l.length 0 (by omega)
    simp only [Nat.zero_add] at hpar
    rw [← Wd_sum] at hpar
    have hno : ¬ ∃ e ∈ Geo.cyc (l.map gp), Geo.On e.1 e.2 (gp p) := fun q => c (on_idx.mp q)
    have hcl : Geo.Cl NH (l.map gp) (gp p) ↔ Geo.Wd NH 0 (l.map gp) (gp p) ≠ 0 := ⟨fun q => q.resolve_left hno, .inr⟩
    rw [hcl, e]
    generalize Geo.Wd NH 0 (l.map gp) (gp p) = W at *
    cases hx : xoN l p l.length 0 with
    | true =>
      rw [hx, if_pos rfl] at hpar
      rw [if_pos rfl]
      have : W ≠ 0 := by omega
      exact ⟨⟨fun _ => this, fun _ => by omega⟩, fun _ => this⟩
    | false =>
      rw [hx, if_neg (by decide)] at hpar
      rw [if_neg (by decide)]
      have : W = 0 := by rcases hs with rfl | rfl <;> omega
      exact ⟨⟨fun q => by omega, fun q => absurd this q⟩, fun q => by omega⟩
def tri1 (a b c : S31) : List S31 := [a, b, c]
theorem on_no {a b c : S31} (h : crs a b c ≠ 0) : onB a b c = false := by
  unfold onB; rw [decide_eq_false h]; rfl
theorem crs_rot3 (a b c : S31) : crs b c a = crs a b c := by unfold crs; grind
theorem tri_simple {a b c : S31} (ha : okPt a = true) (hb : okPt b = true) (hc : okPt c = true) (h : crs a b c ≠ 0) : simpleS (tri1 a b c) = true := by
  have h1 : crs b c a ≠ 0 := by rw [crs_rot3]; exact h
  have h2 : crs c a b ≠ 0 := by rw [crs_rot3, crs_rot3]; exact h
  have ne : ∀ {x y z : S31}, crs x y z ≠ 0 → (x.f0 == y.f0 && (x.f1 == y.f1)) = false := fun {x y z} k => by
    rw [Bool.and_eq_false_iff]
    by_cases e : x.f0 = y.f0
    · right
      rw [beq_eq_false_iff_ne]
      intro e2
      apply k
      unfold crs; rw [e, e2]; grind
    · left; rw [beq_eq_false_iff_ne]; exact e
  have hok : allOk (tri1 a b c) = true := by unfold allOk tri1; simp [ha, hb, hc]
  have sim : simB (tri1 a b c) 3 0 = true := by
    show ((!eqE (tri1 a b c) 0 && (!xB (tri1 a b c) 0 && rowB (tri1 a b c) 0 1 2)) && ((!eqE (tri1 a b c) 1 && (!xB (tri1 a b c) 1 && rowB (tri1 a b c) 1 0 3)) && ((!eqE (tri1 a b c) 2 && (!xB (tri1 a b c) 2 && rowB (tri1 a b c) 2 0 4)) && true))) = true
    have m0 : nx (tri1 a b c) 0 = 1 := rfl
    have m1 : nx (tri1 a b c) 1 = 2 := rfl
    have m2 : nx (tri1 a b c) 2 = 0 := by unfold nx; exact Nat.mod_self 3
    have e0 : eqE (tri1 a b c) 0 = false := ne h
    have e1 : eqE (tri1 a b c) 1 = false := ne h1
    have e2 : eqE (tri1 a b c) 2 = false := by unfold eqE; rw [m2]; exact ne h2
    have x0 : xB (tri1 a b c) 0 = false := by
      unfold xB; rw [m0, m1]
      show (onB b c a || onB a b c) = false
      rw [on_no h1, on_no h]; rfl
    have x1 : xB (tri1 a b c) 1 = false := by
      unfold xB; rw [m1, m2]
      show (onB c a b || onB b c a) = false
      rw [on_no h2, on_no h1]; rfl
    have x2 : xB (tri1 a b c) 2 = false := by
      unfold xB; rw [m2, m0]
      show (onB a b c || onB c a b) = false
      rw [on_no h, on_no h2]; rfl
    have r0 : rowB (tri1 a b c) 0 1 2 = true := by
      unfold rowB rowB; rw [m2]; rfl
    have r1 : rowB (tri1 a b c) 1 0 3 = true := rfl
    have r2 : rowB (tri1 a b c) 2 0 4 = true := rfl
    rw [e0, e1, e2, x0, x1, x2, r0, r1, r2]; rfl
  unfold simpleS
  rw [hok, show (tri1 a b c).length = 3 from rfl, sim]; rfl
theorem tri_area (a b c : S31) : arN (tri1 a b c) 3 = crs a b c := by
  simp only [arN]
  rw [show (2 + 1) % (tri1 a b c).length = 0 from Nat.mod_self 3]
  show ((0 + cyA a b) + cyA b c) + cyA c a = crs a b c
  unfold cyA crs; grind
def ptT (l : List S31) (t : S58) : List S31 := tri1 (pt l t.f0.toNat) (pt l t.f1.toNat) (pt l t.f2.toNat)
def arT (l : List S31) (t : S58) : Int := crs (pt l t.f0.toNat) (pt l t.f1.toNat) (pt l t.f2.toNat)
def inT3 (l : List S31) (p : S31) (t : S58) : Int := insR (ptT l t) p 3 0 false
theorem tt_cons (t : S58) (ts : List S58) (j : Nat) : tt (t :: ts) (j + 1) = tt ts j := by unfold tt; simp
theorem sumT_idx (l : List S31) : ∀ ts : List S58, Geo.sumT (ts.map (p3 l)) = sumF (fun j => arT l (tt ts j)) ts.length
  | [] => rfl
  | t :: ts => by
    have ih := sumT_idx l ts
    rw [List.map_cons, Geo.sumT, ih, List.length_cons, sumF_front]
    have e : (fun i => arT l (tt (t :: ts) (i + 1))) = fun j => arT l (tt ts j) := by funext j; rw [tt_cons]
    rw [e]; rfl
theorem cntW_idx (l : List S31) (z : Geo.Pt) : ∀ ts : List S58, Geo.cntW NH z (ts.map (p3 l)) = sumF (fun j => if Geo.Wd NH 0 ((ptT l (tt ts j)).map gp) z ≠ 0 then 1 else 0) ts.length
  | [] => rfl
  | t :: ts => by
    have ih := cntW_idx l z ts
    rw [List.map_cons, Geo.cntW, ih, List.length_cons, sumF_front]
    have e : (fun i => if Geo.Wd NH 0 ((ptT l (tt (t :: ts) (i + 1))).map gp) z ≠ 0 then (1 : Int) else 0) = fun j => if Geo.Wd NH 0 ((ptT l (tt ts j)).map gp) z ≠ 0 then 1 else 0 := by funext j; rw [tt_cons]
    rw [e]; rfl
theorem sumF_le {f g : Nat → Int} : ∀ n, (∀ i, i < n → f i ≤ g i) → sumF f n ≤ sumF g n
  | 0, _ => Int.le_refl _
  | n + 1, h => by
    have := sumF_le n (fun i hi => h i (by omega))
    have := h n (by omega)
    unfold sumF; omega
def anyF (f : Nat → Bool) : Nat → Bool
  | 0 => false
  | n + 1 => anyF f n || f n
theorem anyF_iff (f : Nat → Bool) : ∀ n, anyF f n = true ↔ ∃ i, i < n ∧ f i = true
  | 0 => ⟨fun h => (by cases h), fun ⟨i, h, _⟩ => (by omega)⟩
  | n + 1 => by
    unfold anyF
    rw [Bool.or_eq_true, anyF_iff f n]
    constructor
    · rintro (⟨i, h, k⟩ | h)
      · exact ⟨i, by omega, k⟩
      · exact ⟨n, by omega, h⟩
    · rintro ⟨i, h, k⟩
      by_cases e : i = n
      · subst e; exact .inr k
      · exact .inl ⟨i, by omega, k⟩
theorem tiles_ok {l : List S31} (h : simpleS l = true) {p : S31} (hp : okPt p = true) :
    sumF (fun j => arT l (tt (triT l) j)) (triT l).length = arN l l.length ∧ anyF (fun j => decide (0 ≤ inT3 l p (tt (triT l) j))) (triT l).length = decide (0 ≤ insR l p l.length 0 false) ∧ sumF (fun j => if inT3 l p (tt (triT l) j) = 1 then 1 else 0) (triT l).length ≤ 1 := by
  obtain ⟨k1, _⟩ := tri_fact h
  obtain ⟨h3, h5, hok⟩ := simple_ok h
  have hs := k1.good.sgn
  have hz : Geo.Inj NH (gp p :: l.map gp) := by
    have : Geo.Inj NH ((p :: l).map gp) := inj_gp (by unfold allOk; rw [List.all_cons, hp]; exact hok)
    exact this
  have hcnt := Geo.cntW_le hs (N := NH) (z := gp p) ((triT l).map (p3 l)) k1.es.pos
  have hone := Geo.tiles_one k1.good k1.es (gp p)
  have hge := (Geo.sumW_ge (N := NH) (.inl rfl) hs (z := gp p) ((triT l).map (p3 l)) k1.es.pos).1
  rw [hcnt] at hone
  rw [k1.es.wd] at hone hge
  have hpol := ins_cl hok hp hs hge hone
  have each : ∀ j, j < (triT l).length → (0 ≤ inT3 l p (tt (triT l) j) ↔ Geo.Cl NH ((ptT l (tt (triT l) j)).map gp) (gp p)) ∧ (inT3 l p (tt (triT l) j) = 1 → Geo.Wd NH 0 ((ptT l (tt (triT l) j)).map gp) (gp p) ≠ 0) := fun j hj => by
    have hm := tt_mem hj
    obtain ⟨a, b, c, e, ha, hb, hc⟩ := k1.idx _ hm
    have hpos := k1.es.pos _ (List.mem_map.mpr ⟨_, hm, rfl⟩)
    have hw := Geo.triW (N := NH) (.inl rfl) hs hpos (gp p)
    refine ins_cl (l := ptT l (tt (triT l) j)) (s := senseS l) ?_ hp hs hw.1 hw.2
    rw [e]; unfold ptT tri1 allOk
    simp [pt_ok hok ha, pt_ok hok hb, pt_ok hok hc]
  have htl := Geo.tiles_cl k1.good k1.es hz
  refine ⟨?_, ?_, ?_⟩
  · rw [← sumT_idx, k1.es.area, Ar_arN]
  · rw [Bool.eq_iff_iff, anyF_iff, decide_eq_true_eq, hpol.1, ← htl]
    constructor
    · rintro ⟨j, hj, hd⟩
      rw [decide_eq_true_eq] at hd
      exact ⟨_, List.mem_map.mpr ⟨_, tt_mem hj, rfl⟩, ((each j hj).1.mp hd)⟩
    · rintro ⟨q, hq, hc⟩
      obtain ⟨t, ht, rfl⟩ := List.mem_map.mp hq
      obtain ⟨j, hj, e⟩ := List.getElem_of_mem ht
      have ett : tt (triT l) j = t := by unfold tt; rw [List.getD_eq_getElem?_getD, List.getElem?_eq_getElem hj, Option.getD_some, e]
      refine ⟨j, hj, ?_⟩
      rw [decide_eq_true_eq]
      refine (each j hj).1.mpr ?_
      rw [ett]; exact hc
  · have h1 := sumF_le (f := fun j => if inT3 l p (tt (triT l) j) = 1 then (1 : Int) else 0) (g := fun j => if Geo.Wd NH 0 ((ptT l (tt (triT l) j)).map gp) (gp p) ≠ 0 then 1 else 0) (triT l).length (fun j hj => by
      have := (each j hj).2
      by_cases c : inT3 l p (tt (triT l) j) = 1
      · rw [if_pos c, if_pos (this c)]; exact Int.le_refl _
      · rw [if_neg c]; split <;> omega)
    rw [← cntW_idx, hcnt, k1.es.wd] at h1
    omega
end Go.Proofs.Ythaklbjcjoolcaa.P
namespace Go.Proofs.Ythaklbjcjoolcaa.P
open Go.RowKit Go.Shelf Go.Sort Go.Proofs.Ythaklbjcjoolcaa.Pure YthaklbjcjoolcaaW.PrintWords YthaklbjcjoolcaaW.PrintLast YthaklbjcjoolcaaW.PrintMore
theorem area_f {l : List S31} (hok : allOk l = true) (hl : l.length ≤ 512) : plane_Area.f l = some (arN l l.length, 0) := by
  have h := area_is hok hl
  unfold plane_Area.f
  rw [if_neg (by omega), if_pos hok, h]; rfl
theorem ptT_take (l : List S31) (t : S58) {k : Nat} (hk : k < 3) : (ptT l t).take (k + 1) = (ptT l t).take k ++ [pt l (tk t k).toNat] := by
  match k, hk with
  | 0, _ => rfl
  | 1, _ => rfl
  | 2, _ => rfl
theorem wr_grown {W W1 : World} {g : Nat} {x y : Int} (h : Wr W W1 g x y) : W.grownBy W1 (some g) := ⟨h.os, h.tape, h.output, by rw [h.size]; exact Nat.le_refl _, fun k _ hne => h.far k (fun e => hne (by rw [e]))⟩
theorem own_wr {W W1 : World} {g b : Nat} {x y : Int} {v : Value} {o : List S31} (hr : Kd.R k31 31 W b (fun _ => True) v o) (hg : g < b) (h : Wr W W1 g x y) : Kd.R k31 31 W1 b (fun _ => True) v o :=
  Kd.R_mono (Kd.R_grown (Kd.R_bound hr) (wr_grown h) (fun k hk e => by have := Option.some.inj e; have := hk.2.1; omega)) (fun _ _ => trivial)
theorem sumF_bd {f : Nat → Int} {B : Int} : ∀ n : Nat, (∀ i, i < n → -B ≤ f i ∧ f i ≤ B) → -(B * n) ≤ sumF f n ∧ sumF f n ≤ B * n
  | 0, _ => by simp [sumF]
  | n + 1, h => by
    have h1 := sumF_bd n (fun i hi => h i (by omega))
    have h2 := h n (by omega)
    have e : B * ((n + 1 : Nat) : Int) = B * n + B := by push_cast; rw [Int.mul_add, Int.mul_one]
    unfold sumF; omega
set_option maxHeartbeats 8000000 in
set_option maxRecDepth 100000 in
theorem tiles_calls (A0 : Option Addr) (c0 : Nat) (l0 : List S31) (px py : Int) (w : World) (hr0 : Kd.C k31 w A0 l0.length l0) (hc0 : l0.length ≤ c0) :
    Calls Try.prog 17 #[.slice A0 l0.length c0, .agg #[.int .i64 px, .int .i64 py]] w fun e w' => e = .returned (.bool true) ∧ Below w.heap.size w w' := by
  obtain ⟨o, ho, o1, o2, hok⟩ := gset_ev l0 30 (by omega) (by omega)
  obtain ⟨kset, hset⟩ := ho.rounds
  obtain ⟨q, hq, hqo, _⟩ := grid_is ⟨px, py⟩
  have HSET := Aside0.mk (fun W (hb : Below w.heap.size w W) => L1_set.calls kset A0 c0 l0 30 o W (Kd.C_below hr0 hb) hc0 hset)
  have HGRID := Aside0.mk (fun W => L1_grid.calls px py q.f0 q.f1 W hq)
  have HAW := Aside0.mk (fun W => L1_awake.calls 20 true W awake_is)
  have HO := Aside0.mk (show 1 ≤ o.length ∧ o.length ≤ 30 ∧ allOk o = true ∧ okPt q = true from ⟨o1, o2, hok, hqo⟩)
  have HB := Aside0.mk (Below.refl w.heap.size w)
  have hu31 := Try.underlying31
  have hu58 := Try.underlying58
  have hu3 := Try.underlying3
  clear hr0 ho o1 o2 hok hqo hset hq
  by_cases hs : simpleS o = true
  · obtain ⟨k1, hk1⟩ := (prog_simple o).rounds
    rw [hs] at hk1
    obtain ⟨k3, hk3⟩ := (inside_ev o q).rounds
    rw [if_pos ⟨hs, HO.out.2.2.2⟩] at hk3
    have hT : plane_Triangulate.f o = some (triT o, 0) := by unfold plane_Triangulate.f; rw [if_pos hs]
    have hA := area_f HO.out.2.2.1 (show o.length ≤ 512 by have := HO.out; omega)
    have HOK := Aside0.mk (tiles_ok hs HO.out.2.2.2)
    have HTF := Aside0.mk (tri_fact hs).1
    have HLN : Aside0 ((triT o).length ≤ 30) := ⟨by have := HTF.out.es.len; rw [List.length_map, List.length_map] at this; have := HO.out; omega⟩
    have HP := Aside0.mk (fun A c W (hr : Kd.C k31 W A o.length o) (hc : o.length ≤ c) => plane_Simple.calls k1 A c o _ W hr hc hk1)
    have HTR := Aside0.mk (fun A c W (hr : Kd.C k31 W A o.length o) (hc : o.length ≤ c) => plane_Triangulate.calls A c o _ _ W hr hc hT)
    have HAR := Aside0.mk (fun A c W (hr : Kd.C k31 W A o.length o) (hc : o.length ≤ c) => plane_Area.calls A c o _ _ W hr hc hA)
    have HIN := Aside0.mk (fun A c W (hr : Kd.C k31 W A o.length o) (hc : o.length ≤ c) => plane_Inside.calls k3 A c o q.f0 q.f1 _ _ W hr hc hk3)
    clear hk1 hk3 hT hA hs
    generalize triT o = ts at *
    go_enter Try.func17, Try.ntmps17
    go_wp2_with (first
      | ((with_reducible refine gate_dst (N := 3) rfl ?_); refine bxe 3 #[.int .i64 px, .int .i64 py] 31 ?_; intro g hg w1 hbox hb1; have HX := Aside0.mk hbox; have HGg := Aside0.mk (lG (w := w) hg); have HGl := Aside0.mk (blk_lt hbox); have HB := Aside0.mk (below_step HB.out hb1); obtain ⟨c1, c2⟩ := Bx.cells hbox; clear hg hbox hb1)
      | (go_at_call 36; go_must (refine (HSET.out _ HB.out).mono ?_); rintro e w2 ⟨v, rfl, hr2, hb2⟩; obtain ⟨Ao, co, rfl⟩ := Kd.R_slice hr2; have HX := Aside0.mk (blk_below HX.out hb2); have HR := Aside0.mk hr2; have HB := Aside0.mk (below_step HB.out hb2); obtain ⟨c1, c2⟩ := Bx.cells HX.out; clear hr2 hb2)
      | (go_at_call 43; go_must (refine (HGRID.out _).mono ?_); rintro e w3 ⟨rfl, hb3⟩; have HX := Aside0.mk (blk_below HX.out hb3); have HR := Aside0.mk (Kd.R_below HR.out hb3); have HB := Aside0.mk (below_step HB.out hb3); clear hb3)
      | ((with_reducible refine gate_store (t := 31) (p := 3) rfl ?_); refine st_list HX.out rfl rfl rfl rfl rfl ?_; intro w4 h4; have HR := Aside0.mk (own_wr HR.out HGl.out h4); have HX := Aside0.mk h4.box; have HB := Aside0.mk (h4.below HB.out HGg.out); clear h4)
      | (go_at_call 25; go_must (refine (HP.out _ _ _ (Kd.R_reads' HR.out).2.2 (Kd.R_reads' HR.out).2.1).mono ?_); rintro e w5 ⟨rfl, hb5⟩; have HX := Aside0.mk (blk_below HX.out hb5); have HR := Aside0.mk (Kd.R_below HR.out hb5); have HB := Aside0.mk (below_step HB.out hb5); clear hb5)
      | (go_at_call 50; go_must (refine (HTR.out _ _ _ (Kd.R_reads' HR.out).2.2 (Kd.R_reads' HR.out).2.1).mono ?_); rintro e w6 ⟨v6, rfl, hr6, hb6⟩; obtain ⟨At, ct, rfl⟩ := Kd.R_slice hr6; have HX := Aside0.mk (blk_below HX.out hb6); have HR := Aside0.mk (Kd.R_below HR.out hb6); have HT := Aside0.mk hr6; have HB := Aside0.mk (below_step HB.out hb6); clear hr6 hb6)
      | (go_at_call 21; go_must (refine (HAR.out _ _ _ (Kd.R_reads' HR.out).2.2 (Kd.R_reads' HR.out).2.1).mono ?_); rintro e w7 ⟨rfl, hb7⟩; have HX := Aside0.mk (blk_below HX.out hb7); have HR := Aside0.mk (Kd.R_below HR.out hb7); have HT := Aside0.mk (Kd.R_below HT.out hb7); have HB := Aside0.mk (below_step HB.out hb7); obtain ⟨c1, c2⟩ := Bx.cells HX.out; clear hb7)
      | (go_at_call 27; go_must (refine (HIN.out _ _ _ (Kd.R_reads' HR.out).2.2 (Kd.R_reads' HR.out).2.1).mono ?_); rintro e w8 ⟨rfl, hb8⟩; have HX8 := Aside0.mk (blk_below HX.out hb8); have HC8 := Aside0.mk (Kd.R_reads' (Kd.R_below HR.out hb8)); have HT8 := Aside0.mk (Kd.R_reads' (Kd.R_below HT.out hb8)); have HB8 := Aside0.mk (below_step HB.out hb8); clear hb8))
    obtain ⟨fA, hfA⟩ : ∃ f : Nat → Int, f = fun j => arT o (tt ts j) := ⟨_, rfl⟩
    obtain ⟨fT, hfT⟩ : ∃ f : Nat → Bool, f = fun j => decide (0 ≤ inT3 o q (tt ts j)) := ⟨_, rfl⟩
    obtain ⟨fC, hfC⟩ : ∃ f : Nat → Int, f = fun j => if inT3 o q (tt ts j) = 1 then 1 else 0 := ⟨_, rfl⟩
    have HK : Aside0 (sumF fA ts.length = arN o o.length ∧ anyF fT ts.length = decide (0 ≤ insR o q o.length 0 false) ∧ sumF fC ts.length ≤ 1) := ⟨by rw [hfA, hfT, hfC]; exact HOK.out⟩
    have HFF := Aside0.mk (show fA = (fun j => arT o (tt ts j)) ∧ fT = (fun j => decide (0 ≤ inT3 o q (tt ts j))) ∧ fC = (fun j => if inT3 o q (tt ts j) = 1 then 1 else 0) from ⟨hfA, hfT, hfC⟩)
    have HPT := Aside0.mk (fun j (hj : j < ts.length) => by
      obtain ⟨a, b, c, e, ha, hb, hc⟩ := HTF.out.idx _ (tt_mem hj)
      have hpos := HTF.out.es.pos _ (List.mem_map.mpr ⟨_, tt_mem hj, rfl⟩)
      have hok := HO.out.2.2.1
      have oa := pt_ok hok ha; have ob := pt_ok hok hb; have oc := pt_ok hok hc
      have hne : crs (pt o a) (pt o b) (pt o c) ≠ 0 := fun z => by
        have e1 : Geo.T (p3 o (tt ts j)).1 (p3 o (tt ts j)).2.1 (p3 o (tt ts j)).2.2 = crs (pt o a) (pt o b) (pt o c) := by rw [e]; rfl
        rw [e1, z, Int.mul_zero] at hpos; omega
      have hsm := tri_simple oa ob oc hne
      have hbd := crs_bd oa ob oc
      obtain ⟨k, hk⟩ := (inside_ev (tri1 (pt o a) (pt o b) (pt o c)) q).rounds
      rw [if_pos ⟨hsm, HO.out.2.2.2⟩] at hk
      have hA := area_f (l := tri1 (pt o a) (pt o b) (pt o c)) (simple_ok hsm).2.2 (simple_ok hsm).2.1
      rw [show (tri1 (pt o a) (pt o b) (pt o c)).length = 3 from rfl, tri_area] at hA
      exact (show ∃ a b c k : Nat, tt ts j = ⟨a, b, c⟩ ∧ (a < o.length ∧ b < o.length ∧ c < o.length) ∧ plane_Area.f (ptT o (tt ts j)) = some (arT o (tt ts j), 0) ∧ plane_Inside.f k (ptT o (tt ts j)) q.f0 q.f1 = some (inT3 o q (tt ts j), 0) ∧ (-134217728 ≤ arT o (tt ts j) ∧ arT o (tt ts j) ≤ 134217728) from
        ⟨a, b, c, k, e, ⟨ha, hb, hc⟩, by rw [e]; exact hA, by rw [e]; exact hk, by rw [e]; exact ⟨hbd.1, hbd.2.1⟩⟩))
    clear hfA hfT hfC
    have HB0 := Aside0.mk (Below.refl w8.heap.size w8)
    go_loopg [12, 13, 14, 15] ts.length (fun q' v12 v13 v14 v15 wr => ∃ i : Nat, i + q' = ts.length ∧ v12 = .int .i64 (sumF fA i) ∧ v13 = .bool (anyF fT i) ∧ v14 = .int .i64 (sumF fC i) ∧ v15 = .int .i64 i ∧ Aside0 (Below w8.heap.size w8 wr))
    case atStart => exact ⟨0, Nat.zero_add _, rfl, rfl, rfl, rfl, HB0⟩
    case round =>
      obtain ⟨i, hi, rfl, rfl, rfl, rfl, HB⟩ := hrel
      clear HB0
      by_cases hlt : i < ts.length
      · obtain ⟨gq, rfl⟩ : ∃ q, gk = q + 1 := ⟨gk - 1, by omega⟩
        have HQ := Aside0.mk (show i + 1 + gq = ts.length by omega)
        have hltI : ((i : Nat) : Int) < ((ts.length : Nat) : Int) := by omega
        obtain ⟨y0, y1, y2, kI, hte, ⟨l0', l1', l2'⟩, hA3, hI3, _⟩ := HPT.out i hlt
        have h1 := sumF_bd (f := fA) (B := 134217728) i (fun j hj => by rw [HFF.out.1]; exact (HPT.out j (by omega)).choose_spec.choose_spec.choose_spec.choose_spec.2.2.2.2)
        have h2 := sumF_bd (f := fC) (B := 1) i (fun j hj => by rw [HFF.out.2.2]; show -1 ≤ (if inT3 o q (tt ts j) = 1 then (1 : Int) else 0) ∧ (if inT3 o q (tt ts j) = 1 then (1 : Int) else 0) ≤ 1; split <;> omega)
        have h3 := (HPT.out i hlt).choose_spec.choose_spec.choose_spec.choose_spec.2.2.2.2
        have h4 := HLN.out
        have hsum : wrap64 (sumF fA i + arT o (tt ts i)) = sumF fA (i + 1) := by
          rw [w64i (by omega) (by omega)]; show _ = sumF fA i + fA i; rw [HFF.out.1]
        have hcnt : wrap64 (sumF fC i + 1) = sumF fC i + 1 := w64i (by omega) (by omega)
        have hsi := succ_n hlt (by omega)
        have HSM := Aside0.mk (show wrap64 (sumF fA i + arT o (tt ts i)) = sumF fA (i + 1) ∧ wrap64 (sumF fC i + 1) = sumF fC i + 1 ∧ wrap64 (((i : Nat) : Int) + 1) = ((i + 1 : Nat) : Int) from ⟨hsum, hcnt, hsi⟩)
        have HA3 := Aside0.mk (fun A c W (hr : Kd.C k31 W A (ptT o (tt ts i)).length (ptT o (tt ts i))) (hc : (ptT o (tt ts i)).length ≤ c) => plane_Area.calls A c _ _ _ W hr hc hA3)
        have HI3 := Aside0.mk (fun A c W (hr : Kd.C k31 W A (ptT o (tt ts i)).length (ptT o (tt ts i))) (hc : (ptT o (tt ts i)).length ≤ c) => plane_Inside.calls kI A c _ q.f0 q.f1 _ _ W hr hc hI3)
        have HFN : Aside0 (fT i = decide (0 ≤ inT3 o q (tt ts i)) ∧ fC i = if inT3 o q (tt ts i) = 1 then 1 else 0) := ⟨by rw [HFF.out.2.1, HFF.out.2.2]; exact ⟨rfl, rfl⟩⟩
        clear h1 h2 h3 h4 hsum hcnt hsi hA3 hI3
        obtain ⟨ad, rfl, _⟩ := at_T58 HT8.out.2.2 (i : Int) (by omega) (by omega)
        obtain ⟨ap, rfl, _⟩ := at_T31 HC8.out.2.2 ((y0 : Nat) : Int) (Int.natCast_nonneg _) (lt_N l0' rfl)
        have HIX := Aside0.mk (show ∀ k, k < 3 → ∃ y : Nat, tk (tt ts i) k = ((y : Nat) : Int) ∧ y < o.length from fun k hk => by
          rw [hte]
          match k, hk with
          | 0, _ => exact ⟨y0, rfl, l0'⟩
          | 1, _ => exact ⟨y1, rfl, l1'⟩
          | 2, _ => exact ⟨y2, rfl, l2'⟩)
        have HCT := Aside0.mk (show ∀ W, Below w8.heap.size w8 W → ∀ k, k < 3 → W.cell? ((ad.add (i * 3)).add k) = some (.int .i64 (tk (tt ts i) k)) from fun W hb k hk => by
          obtain ⟨ad', e', hx0, hx1, hx2⟩ := at_T58 (Kd.C_below HT8.out.2.2 hb) (i : Int) (by omega) (by omega)
          obtain rfl : ad = ad' := by injection e'
          have hrd : rd_T58 ts (i : Int) = tt ts i := by unfold rd_T58 tt; rw [Int.toNat_natCast]
          rw [hrd, Int.toNat_natCast] at hx0 hx1 hx2
          match k, hk with
          | 0, _ => exact (show W.cell? ((ad.add (i * 3)).add 0) = W.cell? (ad.add (i * 3)) from rfl).trans hx0
          | 1, _ => exact (show W.cell? ((ad.add (i * 3)).add 1) = W.cell? ⟨(ad.add (i * 3)).block, (ad.add (i * 3)).off + 1, none⟩ from rfl).trans hx1
          | 2, _ => exact (show W.cell? ((ad.add (i * 3)).add 2) = W.cell? ⟨(ad.add (i * 3)).block, (ad.add (i * 3)).off + 2, none⟩ from rfl).trans hx2)
        have HPP := Aside0.mk (show ∀ W, Below w8.heap.size w8 W → ∀ y, y < o.length → W.cell? (ap.add (y * 2)) = some (.int .i64 (pt o y).f0) ∧ W.cell? ⟨(ap.add (y * 2)).block, (ap.add (y * 2)).off + 1, none⟩ = some (.int .i64 (pt o y).f1) from fun W hb y hy => by
          obtain ⟨ap2, e2, hx, hy⟩ := at_T31 (Kd.C_below HC8.out.2.2 hb) ((y : Nat) : Int) (Int.natCast_nonneg _) (lt_N hy rfl)
          obtain rfl : ap = ap2 := by injection e2
          rw [rd31, Int.toNat_natCast] at hx hy
          exact ⟨hx, hy⟩)
        have HLT := Aside0.mk hlt
        have HR0 : Aside0 (Kd.R k31 31 wr w8.heap.size (fun _ => True) (.slice none 0 0) ((ptT o (tt ts i)).take 0)) := ⟨Kd.R_nil _ _ _ _ _⟩
        clear hte l0' l1' l2' hi hlt
        go_wp2
        go_loopg [16, 17] 3 (fun q' v16 v17 wx => ∃ k : Nat, k + q' = 3 ∧ v17 = .int .i64 k ∧ Aside0 (Kd.R k31 31 wx w8.heap.size (fun _ => True) v16 ((ptT o (tt ts i)).take k)) ∧ Aside0 (Below w8.heap.size w8 wx))
        case atStart => exact ⟨0, rfl, rfl, HR0, HB⟩
        case round =>
          obtain ⟨k, hk, rfl, HR, HB⟩ := hrel
          clear HR0
          by_cases hk3 : k < 3
          · obtain ⟨gr, rfl⟩ : ∃ q, gk = q + 1 := ⟨gk - 1, by omega⟩
            have HKQ := Aside0.mk (show k + 1 + gr = 3 by omega)
            have hk3I : ((k : Nat) : Int) < 3 := by omega
            obtain ⟨y, hy, hyl⟩ := HIX.out k hk3
            have x0 := HCT.out _ HB.out k hk3
            obtain ⟨x1, x2⟩ := HPP.out _ HB.out y hyl
            have HTK : Aside0 ((ptT o (tt ts i)).take (k + 1) = (ptT o (tt ts i)).take k ++ [pt o y]) := ⟨by rw [ptT_take o (tt ts i) hk3, hy, Int.toNat_natCast]⟩
            have hsk := Aside0.mk (succ_n hk3 (by decide))
            have HYY := Aside0.mk hy
            rw [hy] at x0
            have b1 : decide (((y : Nat) : Int) < 0) = false := decide_eq_false (by omega)
            have b2 : decide (((o.length : Nat) : Int) ≤ ((y : Nat) : Int)) = false := decide_eq_false (by omega)
            have b3 : ((y : Nat) : Int) < ((o.length : Nat) : Int) := by omega
            have HLL : Aside0 (((ptT o (tt ts i)).take k).length ≤ 3) := ⟨by rw [List.length_take]; have : (ptT o (tt ts i)).length = 3 := rfl; omega⟩
            clear hy hyl hk
            generalize pt o y = pp at *
            go_wp2_with (first | ((with_reducible refine gate_builtin (b := .append) (xs := #[.tmp 89, .tmp 99]) rfl ?_); at_builtin; refine Kd.R_append k31 (w0 := w8) w8.heap.size rfl (.tmp 89) (.tmp 99) 22 31 (.agg #[(.int .i64 0), (.int .i64 0)]) 16 rfl Try.underlying22 info31 rfl (by decide) (by omega) u16 ((ptT o (tt ts i)).take k) pp [.int .i64 pp.f0, .int .i64 pp.f1] (fun _ => True) (fun _ => False) rfl rfl ?aP (fun _ hk => hk.elim) ?aF ?aO ?aB ?aS ?aL ?_; (case aP => exact k31_mkM _ _ _ pp); (case aB => exact HB.out); (case aF => exact (fun _ _ => trivial)); (case aO => exact HR.out); (case aS => exact HB.out.size); (case aL => have := HLL.out; omega); intro v5 w5 ho5 hb5 hg5 hat5; have HR5 := Aside0.mk ho5; have HB5 := Aside0.mk hb5; clear ho5 hb5 hg5 hat5))
            have HR6 : Aside0 (Kd.R k31 31 w5 w8.heap.size (fun _ => True) v5 ((ptT o (tt ts i)).take (k + 1))) := ⟨by rw [HTK.out]; exact HR5.out⟩
            clear HR5 HR HB x0 x1 x2 b1 b2 b3 hk3I
            go_roundg gr
            case measure => exact Nat.lt_succ_self _
            case rel => exact ⟨k + 1, HKQ.out, by first | go_num | rw [hsk.out], HR6, HB5⟩
          · obtain rfl : k = 3 := by omega
            clear hk3 hk
            have HR3 : Aside0 (Kd.R k31 31 wr w8.heap.size (fun _ => True) u16 (ptT o (tt ts i))) := ⟨HR.out⟩
            obtain ⟨A3, c3, rfl⟩ := Kd.R_slice HR3.out
            have HX := Aside0.mk (blk_below HX8.out HB.out)
            obtain ⟨c1, c2⟩ := Bx.cells HX.out
            have hsum := HSM.out.1
            have hcnt := HSM.out.2.1
            obtain ⟨v, hv⟩ : ∃ v, v = inT3 o q (tt ts i) := ⟨_, rfl⟩
            rw [← hv] at HI3
            have hfn := HFN.out
            rw [← hv] at hfn
            obtain ⟨x0, hx0⟩ : ∃ x, anyF fT i = x := ⟨_, rfl⟩
            obtain ⟨x1, hx1⟩ : ∃ x, decide (0 ≤ v) = x := ⟨_, rfl⟩
            obtain ⟨x2, hx2⟩ : ∃ x, (v == 1) = x := ⟨_, rfl⟩
            have HT1 : Aside0 (anyF fT (i + 1) = (x0 || x1)) := ⟨by show (anyF fT i || fT i) = _; rw [hx0, hfn.1, hx1]⟩
            have HC1 : Aside0 (sumF fC (i + 1) = if x2 = true then sumF fC i + 1 else sumF fC i) := ⟨by
              show sumF fC i + fC i = _
              rw [hfn.2, ← hx2]
              by_cases c : v = 1
              · rw [if_pos c, if_pos (by simp [c])]
              · rw [if_neg c, if_neg (by simp [c])]; exact Int.add_zero _⟩
            clear hfn hv HFN
            rw [hx0]
            clear hx0
            generalize arT o (tt ts i) = n at *
            rcases x0 with _ | _ <;> rcases x1 with _ | _ <;> rcases x2 with _ | _
            all_goals go_wp2_with (first
              | (go_at_call 21; go_must (refine (HA3.out _ _ _ (Kd.R_reads' HR3.out).2.2 (Kd.R_reads' HR3.out).2.1).mono ?_); rintro e w6 ⟨rfl, hb6⟩; have HX := Aside0.mk (blk_below HX.out hb6); have HR3 := Aside0.mk (Kd.R_below HR3.out hb6); have HB := Aside0.mk (below_step HB.out hb6); obtain ⟨c1, c2⟩ := Bx.cells HX.out; clear hb6)
              | (go_at_call 27; go_must (refine (HI3.out _ _ _ (Kd.R_reads' HR3.out).2.2 (Kd.R_reads' HR3.out).2.1).mono ?_); rintro e w7 ⟨rfl, hb7⟩; have HBN := Aside0.mk (below_step HB.out hb7); clear hb7))
            all_goals
              go_roundg gq
              case measure => exact Nat.lt_succ_self _
              case rel => exact ⟨i + 1, HQ.out, by rw [HSM.out.1], by rw [HT1.out]; rfl, by first | (rw [HC1.out]; rfl) | (rw [HC1.out, HSM.out.2.1]; rfl), by first | go_num | rw [HSM.out.2.2], HBN⟩
      · obtain rfl : i = ts.length := by omega
        clear hlt hi
        have hle : decide (sumF fC ts.length ≤ 1) = true := decide_eq_true HK.out.2.2
        obtain ⟨x, hx⟩ : ∃ x, decide (0 ≤ insR o q o.length 0 false) = x := ⟨_, rfl⟩
        rw [HK.out.1, HK.out.2.1, hx]
        have HBL := Aside0.mk (below_step HB8.out HB.out)
        rcases x with _ | _
        all_goals go_wp2_with (first
          | (go_at_call 23; go_must (refine (HAW.out _).mono ?_); rintro e w7 ⟨rfl, hb7⟩; have HBE := Aside0.mk (below_step HBL.out hb7); clear hb7))
        all_goals
          go_ret
          exact ⟨rfl, HBE.out⟩
  · obtain ⟨k1, hk1⟩ := (prog_simple o).rounds
    obtain ⟨k2, hk2⟩ := (ref_simple o (by have := HO.out; omega)).rounds
    rw [Bool.not_eq_true] at hs
    rw [hs] at hk1 hk2
    have HP := Aside0.mk (fun A c W (hr : Kd.C k31 W A o.length o) (hc : o.length ≤ c) => plane_Simple.calls k1 A c o _ W hr hc hk1)
    have HRf := Aside0.mk (fun A c W (hr : Kd.C k31 W A o.length o) (hc : o.length ≤ c) => R1_Simple.calls k2 A c o _ W hr hc hk2)
    clear hk1 hk2 hs
    go_enter Try.func17, Try.ntmps17
    go_wp2_with (first
      | ((with_reducible refine gate_dst (N := 3) rfl ?_); refine bxe 3 #[.int .i64 px, .int .i64 py] 31 ?_; intro g hg w1 hbox hb1; have HX := Aside0.mk hbox; have HGg := Aside0.mk (lG (w := w) hg); have HGl := Aside0.mk (blk_lt hbox); have HB := Aside0.mk (below_step HB.out hb1); obtain ⟨c1, c2⟩ := Bx.cells hbox; clear hg hbox hb1)
      | (go_at_call 36; go_must (refine (HSET.out _ HB.out).mono ?_); rintro e w2 ⟨v, rfl, hr2, hb2⟩; obtain ⟨Ao, co, rfl⟩ := Kd.R_slice hr2; have HX := Aside0.mk (blk_below HX.out hb2); have HR := Aside0.mk hr2; have HB := Aside0.mk (below_step HB.out hb2); obtain ⟨c1, c2⟩ := Bx.cells HX.out; clear hr2 hb2)
      | (go_at_call 43; go_must (refine (HGRID.out _).mono ?_); rintro e w3 ⟨rfl, hb3⟩; have HX := Aside0.mk (blk_below HX.out hb3); have HR := Aside0.mk (Kd.R_below HR.out hb3); have HB := Aside0.mk (below_step HB.out hb3); clear hb3)
      | ((with_reducible refine gate_store (t := 31) (p := 3) rfl ?_); refine st_list HX.out rfl rfl rfl rfl rfl ?_; intro w4 h4; have HR := Aside0.mk (own_wr HR.out HGl.out h4); have HX := Aside0.mk h4.box; have HB := Aside0.mk (h4.below HB.out HGg.out); clear h4)
      | (go_at_call 25; go_must (refine (HP.out _ _ _ (Kd.R_reads' HR.out).2.2 (Kd.R_reads' HR.out).2.1).mono ?_); rintro e w5 ⟨rfl, hb5⟩; have HX := Aside0.mk (blk_below HX.out hb5); have HR := Aside0.mk (Kd.R_below HR.out hb5); have HB := Aside0.mk (below_step HB.out hb5); clear hb5)
      | (go_at_call 26; go_must (refine (HRf.out _ _ _ (Kd.R_reads' HR.out).2.2 (Kd.R_reads' HR.out).2.1).mono ?_); rintro e w6 ⟨rfl, hb6⟩; have HB := Aside0.mk (below_step HB.out hb6); clear hb6)
      | (go_at_call 23; go_must (refine (HAW.out _).mono ?_); rintro e w7 ⟨rfl, hb7⟩; have HBE := Aside0.mk (below_step HB.out hb7); clear hb7))
    go_ret
    exact ⟨rfl, HBE.out⟩
end Go.Proofs.Ythaklbjcjoolcaa.P
namespace Go.Proofs.Ythaklbjcjoolcaa.P
open Go.RowKit YthaklbjcjoolcaaW.PrintWords YthaklbjcjoolcaaW.PrintLast YthaklbjcjoolcaaW.PrintMore
def L1_PlaneTiles.f (k : Nat) (l : List S31) (x y : Int) : Option Bool := some true
theorem L1_PlaneTiles.calls (k : Nat) (A0 : Option Addr) (c0 : Nat) (l0 : List S31) (x y : Int) (r : Bool) (w : World) (hr0 : Kd.C k31 w A0 l0.length l0) (hc0 : l0.length ≤ c0) (h : L1_PlaneTiles.f k l0 x y = some r) :
    Calls Try.prog 17 #[.slice A0 l0.length c0, .agg #[.int .i64 x, .int .i64 y]] w fun e w' => e = .returned (.bool r) ∧ Below w.heap.size w w' := by
  obtain rfl := Option.some.inj h
  exact tiles_calls A0 c0 l0 x y w hr0 hc0
end Go.Proofs.Ythaklbjcjoolcaa.P
namespace Go.Proofs.Ythaklbjcjoolcaa.Pure
open Go.Proofs.Ythaklbjcjoolcaa.P
theorem PlaneTiles (l : List S31) (x y : Int) (_ : ∀ q ∈ l, (Lit.int .i64 q.f0).wf = true ∧ (Lit.int .i64 q.f1).wf = true) (_ : (Lit.int .i64 x).wf = true) (_ : (Lit.int .i64 y).wf = true) : ∃ k, L1_PlaneTiles.f k l x y = some true := ⟨0, rfl⟩
end Go.Proofs.Ythaklbjcjoolcaa.Pure
