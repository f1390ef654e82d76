/- Proved here: what functions that the law reaches compute, and plain laws of that. -/
import Derived.Shelf.Sort.Plain
import Derived.Test.YtmnhcbaocoofoaaDoorBQ11
import Derived.Maps.RangeWalk
import Derived.Maps.Views
import Derived.Maps.OwnSet
import Derived.WideKeyArr2
import Derived.WideKeyEntry
import Derived.DeepKeys2
import Derived.DeepKeys4
import Derived.KernelRfl
import Derived.Test.YtmnhcbaocoofoaaDoorProg
import Derived.Deep.OwnRows
import Derived.Test.YtmnhcbaocoofoaaDoorVQ11
import Derived.Deep.DeepMust
import Derived.IntWalk
import Derived.Deep.LoopGhost
import Derived.Outline
set_option linter.unusedVariables false
set_option linter.unusedSimpArgs false
namespace Go.Proofs.YtmnhcbaocoofoaaDoor.Ben

def sumN (f : Nat → Int) : Nat → Int
  | 0 => 0
  | n + 1 => sumN f n + f n

theorem sumN_zero (f : Nat → Int) : sumN f 0 = 0 := rfl
theorem sumN_succ (f : Nat → Int) (n : Nat) : sumN f (n + 1) = sumN f n + f n := rfl
theorem sumN_congr {f g : Nat → Int} : ∀ {n : Nat}, (∀ i, i < n → f i = g i) → sumN f n = sumN g n
  | 0, _ => rfl
  | n + 1, h => by rw [sumN_succ, sumN_succ, sumN_congr fun i hi => h i (Nat.lt_succ_of_lt hi), h n (Nat.lt_succ_self n)]
theorem sumN_le {f g : Nat → Int} : ∀ {n : Nat}, (∀ i, i < n → f i ≤ g i) → sumN f n ≤ sumN g n
  | 0, _ => Int.le_refl _
  | n + 1, h => by
    have h1 := sumN_le (n := n) fun i hi => h i (Nat.lt_succ_of_lt hi)
    have h2 := h n (Nat.lt_succ_self n)
    rw [sumN_succ, sumN_succ]; omega
theorem sumN_nonneg {f : Nat → Int} {n : Nat} (h : ∀ i, i < n → 0 ≤ f i) : 0 ≤ sumN f n := by
  have h0 : sumN (fun _ => 0) n = 0 := by
    clear h
    induction n with
    | zero => rfl
    | succ n ih => rw [sumN_succ, ih]; rfl
  have := sumN_le (f := fun _ => 0) (g := f) h
  omega
theorem sumN_const (c : Int) : ∀ n : Nat, sumN (fun _ => c) n = n * c
  | 0 => by simp [sumN]
  | n + 1 => by rw [sumN_succ, sumN_const c n]; push_cast; rw [Int.add_mul]; omega
theorem sumN_add (f g : Nat → Int) : ∀ n : Nat, sumN (fun i => f i + g i) n = sumN f n + sumN g n
  | 0 => rfl
  | n + 1 => by simp only [sumN_succ]; rw [sumN_add f g n]; omega
theorem sumN_sub (f g : Nat → Int) : ∀ n : Nat, sumN (fun i => f i - g i) n = sumN f n - sumN g n
  | 0 => rfl
  | n + 1 => by simp only [sumN_succ]; rw [sumN_sub f g n]; omega
theorem sumN_mul (c : Int) (f : Nat → Int) : ∀ n : Nat, sumN (fun i => c * f i) n = c * sumN f n
  | 0 => by simp [sumN]
  | n + 1 => by simp only [sumN_succ]; rw [sumN_mul c f n, Int.mul_add]
theorem sumN_swap (f : Nat → Nat → Int) (n m : Nat) : sumN (fun i => sumN (f i) m) n = sumN (fun k => sumN (fun i => f i k) n) m := by
  induction n with
  | zero => simp only [sumN_zero]; rw [sumN_const]; simp
  | succ n ih => simp only [sumN_succ]; rw [ih, sumN_add]
theorem sumN_append (f : Nat → Int) (n : Nat) : ∀ m : Nat, sumN f (n + m) = sumN f n + sumN (fun i => f (n + i)) m
  | 0 => by simp [sumN]
  | m + 1 => by rw [← Nat.add_assoc, sumN_succ, sumN_succ, sumN_append f n m]; omega
theorem sumN_ext_zero {f : Nat → Int} {n m : Nat} (hnm : n ≤ m) (h : ∀ i, n ≤ i → i < m → f i = 0) : sumN f m = sumN f n := by
  obtain ⟨d, rfl⟩ := Nat.le.dest hnm
  have h0 : sumN (fun i => f (n + i)) d = 0 := by
    rw [sumN_congr (g := fun _ => 0) (fun i hi => h _ (by omega) (by omega)), sumN_const]; simp
  rw [sumN_append, h0]; omega
theorem sumN_one {f : Nat → Int} {n : Nat} (k : Nat) (hk : k < n) (h : ∀ i, i < n → i ≠ k → f i = 0) : sumN f n = f k := by
  induction n with
  | zero => omega
  | succ n ih =>
    rw [sumN_succ]
    by_cases e : k = n
    · subst e
      rw [sumN_congr (g := fun _ => 0) (fun i hi => h i (by omega) (by omega)), sumN_const]; simp
    · rw [ih (by omega) (fun i hi hne => h i (by omega) hne), h n (by omega) (fun h' => e h'.symm)]; omega
theorem le_sumN {f : Nat → Int} {n : Nat} (h : ∀ i, i < n → 0 ≤ f i) (k : Nat) (hk : k < n) : f k ≤ sumN f n := by
  induction n with
  | zero => omega
  | succ n ih =>
    rw [sumN_succ]
    have hn := h n (by omega)
    have hs := sumN_nonneg (f := f) (n := n) fun i hi => h i (by omega)
    by_cases e : k = n
    · subst e; omega
    · have := ih (fun i hi => h i (by omega)) (by omega); omega
theorem sumN_rev (f : Nat → Int) (n : Nat) : sumN (fun i => f (n - 1 - i)) n = sumN f n := by
  induction n generalizing f with
  | zero => rfl
  | succ n ih =>
    have h1 := sumN_append (fun i => f (n - i)) 1 n
    have h2 : sumN (fun i => (fun i => f (n - i)) (1 + i)) n = sumN f n := by
      rw [← ih f]
      apply sumN_congr
      intro i hi
      show f (n - (1 + i)) = _
      congr 1; omega
    rw [Nat.add_comm n 1]
    have h3 : sumN (fun i => f (1 + n - 1 - i)) (1 + n) = sumN (fun i => f (n - i)) (1 + n) := sumN_congr fun i _ => by congr 1; omega
    rw [h3, h1, h2, Nat.add_comm 1 n, sumN_succ]
    simp [sumN]; omega

def one (b : Bool) : Int := if b then 1 else 0
theorem one_nonneg (b : Bool) : 0 ≤ one b := by cases b <;> simp [one]
theorem sum_span (a b : Int) (ha : 0 ≤ a) (hab : a ≤ b) (M : Nat) (hb : b ≤ M) : sumN (fun t => one (decide (a ≤ (t : Int)) && decide ((t : Int) < b))) M = b - a := by
  induction M generalizing b with
  | zero => have : a = b := by omega
            simp [sumN]; omega
  | succ M ih =>
    rw [sumN_succ]
    by_cases e : b ≤ M
    · rw [ih b hab e]
      have : ¬ ((M : Int) < b) := by omega
      simp [one, this]
    · have hb' : b = M + 1 := by omega
      subst hb'
      by_cases e2 : a ≤ M
      · have := ih M e2 (Int.le_refl _)
        have h2 : sumN (fun t => one (decide (a ≤ (t : Int)) && decide ((t : Int) < (M : Int) + 1))) M = sumN (fun t => one (decide (a ≤ (t : Int)) && decide ((t : Int) < (M : Int)))) M := by
          apply sumN_congr
          intro t ht
          have h3 : (t : Int) < (M : Int) := by omega
          have h4 : (t : Int) < (M : Int) + 1 := by omega
          simp [h3, h4]
        rw [h2, this]
        have h5 : (M : Int) < (M : Int) + 1 := by omega
        simp [one, e2, h5]; omega
      · have : a = M + 1 := by omega
        subst this
        rw [sumN_congr (g := fun _ => 0), sumN_const]
        · simp [one, e2]
        · intro t ht
          have : ¬ ((M : Int) + 1 ≤ t) := by omega
          simp [one, this]

structure J where
  ready : Int
  due : Int
  work : Int

def J.at (j : J) (t : Nat) : Bool := decide (j.ready ≤ (t : Int)) && decide ((t : Int) < j.due)
def cov (m : Nat) (g : Nat → J) (S : Nat → Bool) (t : Nat) : Int := sumN (fun i => one (S i && (g i).at t)) m
def workOf (m : Nat) (g : Nat → J) (S : Nat → Bool) : Int := sumN (fun i => if S i then (g i).work else 0) m
def room (n : Int) (m : Nat) (g : Nat → J) (S : Nat → Bool) (M : Nat) : Int := sumN (fun t => min n (cov m g S t)) M
def Refused (n : Int) (m : Nat) (g : Nat → J) (M : Nat) : Prop := ∃ S, room n m g S M < workOf m g S

structure Sl where
  job : Nat
  bench : Nat
  fr : Int
  til : Int

structure Sched (n : Nat) (m : Nat) (g : Nat → J) (c : Nat) (s : Nat → Sl) : Prop where
  job : ∀ i, i < c → (s i).job < m
  bench : ∀ i, i < c → (s i).bench < n
  pos : ∀ i, i < c → (s i).fr ≤ (s i).til
  ready : ∀ i, i < c → (g (s i).job).ready ≤ (s i).fr
  due : ∀ i, i < c → (s i).til ≤ (g (s i).job).due
  apart : ∀ i k, i < c → k < c → i ≠ k → ((s i).job = (s k).job ∨ (s i).bench = (s k).bench) → (s i).til ≤ (s k).fr ∨ (s k).til ≤ (s i).fr
  work : ∀ i, i < m → sumN (fun k => if (s k).job = i then (s k).til - (s k).fr else 0) c = (g i).work


abbrev Rm := Nat → Nat → Int
abbrev Way := Nat → Option Nat

def setW (w : Way) (u v : Nat) : Way := fun x => if x = u then some v else w x
theorem setW_same (w : Way) (u v : Nat) : setW w u v u = some v := by simp [setW]
theorem setW_other (w : Way) {u v x : Nat} (h : x ≠ u) : setW w u v x = w x := by simp [setW, h]

def visit (R : Rm) (v : Nat) : List Nat → List Nat → Way → List Nat × Way
  | [], q, w => (q, w)
  | u :: us, q, w => if w u = none ∧ 0 < R v u then visit R v us (q ++ [u]) (setW w u v) else visit R v us q w

def bfs (R : Rm) (next : Nat → List Nat) : Nat → List Nat → Way → Way
  | 0, _, w => w
  | _ + 1, [], w => w
  | f + 1, v :: q, w => bfs R next f (visit R v (next v) q w).1 (visit R v (next v) q w).2

def waysF (N : Nat) (R : Rm) (next : Nat → List Nat) (s : Nat) : Way := bfs R next N [s] (setW (fun _ => none) s s)

def reach (w : Way) : Nat → Nat
  | 0 => 0
  | n + 1 => reach w n + if (w n).isSome then 1 else 0

theorem reach_le (w : Way) : ∀ n, reach w n ≤ n
  | 0 => Nat.le_refl 0
  | n + 1 => by have := reach_le w n; unfold reach; split <;> omega
theorem reach_set (w : Way) {u v : Nat} (h : w u = none) : ∀ n, reach (setW w u v) n = reach w n + if u < n then 1 else 0
  | 0 => rfl
  | n + 1 => by
    unfold reach
    rw [reach_set w h n]
    by_cases e : n = u
    · subst e
      simp [setW_same, h]
    · rw [setW_other w e]
      have c : (u < n + 1) ↔ (u < n) := by omega
      simp only [c]; omega

structure Inv (R : Rm) (next : Nat → List Nat) (N s : Nat) (x : Nat) (us q : List Nat) (w : Way) : Prop where
  start : w s = some s
  par : ∀ u v, u ≠ s → w u = some v → 0 < R v u ∧ (w v).isSome
  lt : ∀ u, (w u).isSome → u < N
  rank : ∃ rk : Nat → Nat, (∀ u, (w u).isSome → rk u < reach w N) ∧ ∀ u v, u ≠ s → w u = some v → rk v < rk u
  qin : ∀ u, u ∈ q → (w u).isSome
  xin : us ≠ [] → (w x).isSome
  usin : ∀ u, u ∈ us → u < N
  closed : ∀ v u, (w v).isSome → u ∈ next v → 0 < R v u → (w u).isSome ∨ v ∈ q ∨ (v = x ∧ u ∈ us)

theorem Inv.first (R : Rm) (next : Nat → List Nat) {N s : Nat} (hs : s < N) (x : Nat) : Inv R next N s x [] [s] (setW (fun _ => none) s s) := by
  have hr := reach_set (fun _ => none) (u := s) (v := s) rfl N
  have h0 : ∀ n, reach (fun _ => none) n = 0 := by intro n; induction n with
    | zero => rfl
    | succ n ih => unfold reach; rw [ih]; rfl
  rw [h0, if_pos hs] at hr
  refine ⟨setW_same _ _ _, ?_, ?_, ⟨fun _ => 0, ?_, ?_⟩, ?_, ?_, ?_, ?_⟩
  · intro u v hu hw; rw [setW_other _ hu] at hw; cases hw
  · intro u hu
    by_cases e : u = s
    · omega
    · rw [setW_other _ e] at hu; cases hu
  · intro u _; show 0 < _; omega
  · intro u v hu hw; rw [setW_other _ hu] at hw; cases hw
  · intro u hu; simp at hu; subst hu; rw [setW_same]; rfl
  · intro h; exact absurd rfl h
  · intro u hu; cases hu
  · intro v u hv _ _
    by_cases e : v = s
    · right; left; simp [e]
    · rw [setW_other _ e] at hv; cases hv

theorem Inv.pop {R : Rm} {next : Nat → List Nat} {N s x v : Nat} {q : List Nat} {w : Way} (h : Inv R next N s x [] (v :: q) w) (hn : ∀ u, u ∈ next v → u < N) : Inv R next N s v (next v) q w := by
  refine ⟨h.start, h.par, h.lt, h.rank, fun u hu => h.qin u (List.mem_cons_of_mem _ hu), fun _ => h.qin v (by simp), hn, ?_⟩
  intro v' u hv hu hr
  rcases h.closed v' u hv hu hr with h1 | h1 | h1
  · exact Or.inl h1
  · rcases List.mem_cons.1 h1 with e | e
    · subst e; exact Or.inr (Or.inr ⟨rfl, hu⟩)
    · exact Or.inr (Or.inl e)
  · simp at h1

theorem Inv.skip {R : Rm} {next : Nat → List Nat} {N s x u : Nat} {us q : List Nat} {w : Way} (h : Inv R next N s x (u :: us) q w) (hc : ¬ (w u = none ∧ 0 < R x u)) : Inv R next N s x us q w := by
  refine ⟨h.start, h.par, h.lt, h.rank, h.qin, fun _ => h.xin (by simp), fun y hy => h.usin y (List.mem_cons_of_mem _ hy), ?_⟩
  intro v y hv hy hr
  rcases h.closed v y hv hy hr with h1 | h1 | ⟨rfl, h1⟩
  · exact Or.inl h1
  · exact Or.inr (Or.inl h1)
  · rcases List.mem_cons.1 h1 with e | e
    · subst e
      left
      cases e : w y with
      | none => exact absurd ⟨e, hr⟩ hc
      | some z => rfl
    · exact Or.inr (Or.inr ⟨rfl, e⟩)

theorem Inv.take {R : Rm} {next : Nat → List Nat} {N s x u : Nat} {us q : List Nat} {w : Way} (h : Inv R next N s x (u :: us) q w) (hc : w u = none ∧ 0 < R x u) : Inv R next N s x us (q ++ [u]) (setW w u x) := by
  have hu : u < N := h.usin u (by simp)
  have hx : (w x).isSome := h.xin (by simp)
  have hxu : x ≠ u := fun e => by rw [e, hc.1] at hx; cases hx
  have hsu : s ≠ u := fun e => by have := h.start; rw [e, hc.1] at this; cases this
  have mono : ∀ y, (w y).isSome → (setW w u x y).isSome := by
    intro y hy
    by_cases e : y = u
    · subst e; rw [setW_same]; rfl
    · rw [setW_other _ e]; exact hy
  refine ⟨by rw [setW_other _ hsu]; exact h.start, ?_, ?_, ?_, ?_, fun _ => mono _ hx, fun y hy => h.usin y (List.mem_cons_of_mem _ hy), ?_⟩
  · intro y v hy hw
    by_cases e : y = u
    · subst e
      rw [setW_same] at hw
      obtain rfl := Option.some.inj hw
      exact ⟨hc.2, mono _ hx⟩
    · rw [setW_other _ e] at hw
      obtain ⟨h1, h2⟩ := h.par y v hy hw
      exact ⟨h1, mono _ h2⟩
  · intro y hy
    by_cases e : y = u
    · subst e; exact hu
    · rw [setW_other _ e] at hy; exact h.lt y hy
  · obtain ⟨rk, h1, h2⟩ := h.rank
    have hr := reach_set w (u := u) (v := x) hc.1 N
    rw [if_pos hu] at hr
    refine ⟨fun y => if y = u then reach w N else rk y, ?_, ?_⟩
    · intro y hy
      by_cases e : y = u
      · simp only [if_pos e]; omega
      · simp only [if_neg e]; rw [setW_other _ e] at hy; have := h1 y hy; omega
    · intro y v hy hw
      by_cases e : y = u
      · subst e
        rw [setW_same] at hw
        obtain rfl := Option.some.inj hw
        simp only [if_true, if_neg hxu]
        exact h1 _ hx
      · rw [setW_other _ e] at hw
        have hv := (h.par y v hy hw).2
        have : v ≠ u := fun e => by rw [e, hc.1] at hv; cases hv
        simp only [if_neg e, if_neg this]
        exact h2 y v hy hw
  · intro y hy
    rcases List.mem_append.1 hy with h1 | h1
    · exact mono _ (h.qin y h1)
    · simp at h1; subst h1; rw [setW_same]; rfl
  · intro v y hv hy hr
    by_cases e : v = u
    · right; left; simp [e]
    · rw [setW_other _ e] at hv
      rcases h.closed v y hv hy hr with h1 | h1 | ⟨rfl, h1⟩
      · exact Or.inl (mono _ h1)
      · exact Or.inr (Or.inl (List.mem_append_left _ h1))
      · rcases List.mem_cons.1 h1 with e | e
        · subst e; left; rw [setW_same]; rfl
        · exact Or.inr (Or.inr ⟨rfl, e⟩)

theorem visit_inv {R : Rm} {next : Nat → List Nat} {N s x : Nat} : ∀ (us q : List Nat) (w : Way), Inv R next N s x us q w →
    Inv R next N s x [] (visit R x us q w).1 (visit R x us q w).2 ∧ (visit R x us q w).1.length + reach w N = q.length + reach (visit R x us q w).2 N
  | [], q, w, h => ⟨h, rfl⟩
  | u :: us, q, w, h => by
    unfold visit
    by_cases hc : w u = none ∧ 0 < R x u
    · rw [if_pos hc]
      obtain ⟨h1, h2⟩ := visit_inv us _ _ (h.take hc)
      refine ⟨h1, ?_⟩
      have hu : u < N := h.usin u (by simp)
      have hr := reach_set w (u := u) (v := x) hc.1 N
      rw [if_pos hu] at hr
      rw [List.length_append, List.length_singleton] at h2
      omega
    · rw [if_neg hc]
      exact visit_inv us _ _ (h.skip hc)

theorem bfs_inv {R : Rm} {next : Nat → List Nat} {N s : Nat} (hn : ∀ v u, v < N → u ∈ next v → u < N) : ∀ (f : Nat) (q : List Nat) (w : Way) (x : Nat), Inv R next N s x [] q w → q.length + N ≤ f + reach w N →
    Inv R next N s x [] [] (bfs R next f q w)
  | 0, q, w, x, h, hf => by
    have := reach_le w N
    have : q.length = 0 := by omega
    obtain rfl := List.length_eq_zero_iff.1 this
    exact h
  | f + 1, [], w, x, h, _ => h
  | f + 1, v :: q, w, x, h, hf => by
    show Inv R next N s x [] [] (bfs R next f _ _)
    obtain ⟨h1, h2⟩ := visit_inv _ _ _ (h.pop (hn v · (h.lt v (h.qin v (by simp)))))
    rw [List.length_cons] at hf
    have h3 := bfs_inv hn f _ _ v h1 (by omega)
    refine ⟨h3.start, h3.par, h3.lt, h3.rank, h3.qin, fun h => absurd rfl h, fun _ h => absurd h (by simp), ?_⟩
    intro a b c d e
    rcases h3.closed a b c d e with k | k | k
    · exact Or.inl k
    · cases k
    · cases k.2

theorem ways_inv {R : Rm} {next : Nat → List Nat} {N s : Nat} (hn : ∀ v u, v < N → u ∈ next v → u < N) (hs : s < N) : Inv R next N s 0 [] [] (waysF N R next s) := by
  apply bfs_inv hn
  · exact Inv.first R next hs 0
  · have hr := reach_set (fun _ => none) (u := s) (v := s) rfl N
    rw [if_pos hs] at hr
    simp only [List.length_singleton]; omega

def par (w : Way) (v : Nat) : Nat := (w v).getD 0

def path (w : Way) (s : Nat) : Nat → Nat → List (Nat × Nat)
  | 0, _ => []
  | f + 1, v => if v = s then [] else (par w v, v) :: path w s f (par w v)

structure Tree (R : Rm) (N s : Nat) (w : Way) (rk : Nat → Nat) : Prop where
  start : w s = some s
  par : ∀ u v, u ≠ s → w u = some v → 0 < R v u ∧ (w v).isSome ∧ rk v < rk u
  lt : ∀ u, (w u).isSome → u < N ∧ rk u < N

theorem ways_tree {R : Rm} {next : Nat → List Nat} {N s x : Nat} {w : Way} (h : Inv R next N s x [] [] w) : ∃ rk, Tree R N s w rk := by
  obtain ⟨rk, h1, h2⟩ := h.rank
  refine ⟨rk, h.start, fun u v hu hw => ⟨(h.par u v hu hw).1, (h.par u v hu hw).2, h2 u v hu hw⟩, fun u hu => ⟨h.lt u hu, ?_⟩⟩
  have := h1 u hu
  have := reach_le w N
  omega

theorem Tree.step {R : Rm} {N s : Nat} {w : Way} {rk : Nat → Nat} (h : Tree R N s w rk) {v : Nat} (hv : (w v).isSome) (hs : v ≠ s) : w v = some (Ben.par w v) ∧ 0 < R (Ben.par w v) v ∧ (w (Ben.par w v)).isSome ∧ rk (Ben.par w v) < rk v := by
  unfold Ben.par
  cases e : w v with
  | none => rw [e] at hv; cases hv
  | some p => exact ⟨rfl, h.par v p hs e⟩

theorem path_mem {R : Rm} {N s : Nat} {w : Way} {rk : Nat → Nat} (h : Tree R N s w rk) : ∀ (f v : Nat), (w v).isSome → ∀ a, a ∈ path w s f v → 0 < R a.1 a.2 ∧ a.1 < N ∧ a.2 < N ∧ rk a.1 < rk a.2 ∧ rk a.2 ≤ rk v ∧ a.2 ≠ s
  | 0, _, _, a, ha => by cases ha
  | f + 1, v, hv, a, ha => by
    unfold path at ha
    by_cases e : v = s
    · rw [if_pos e] at ha; cases ha
    · rw [if_neg e] at ha
      obtain ⟨h1, h2, h3, h4⟩ := h.step hv e
      rcases List.mem_cons.1 ha with k | k
      · subst k; exact ⟨h2, (h.lt _ h3).1, (h.lt _ hv).1, h4, Nat.le_refl _, e⟩
      · have := path_mem h f _ h3 a k
        exact ⟨this.1, this.2.1, this.2.2.1, this.2.2.2.1, by omega, this.2.2.2.2.2⟩

def least (R : Rm) (l : List (Nat × Nat)) (m : Int) : Int := l.foldl (fun m a => min m (R a.1 a.2)) m

theorem least_le (R : Rm) : ∀ (l : List (Nat × Nat)) (m : Int), least R l m ≤ m ∧ ∀ a, a ∈ l → least R l m ≤ R a.1 a.2
  | [], m => ⟨Int.le_refl _, fun a h => by cases h⟩
  | b :: l, m => by
    obtain ⟨h1, h2⟩ := least_le R l (min m (R b.1 b.2))
    refine ⟨Int.le_trans h1 (Int.min_le_left _ _), fun a ha => ?_⟩
    rcases List.mem_cons.1 ha with e | e
    · subst e; exact Int.le_trans h1 (Int.min_le_right _ _)
    · exact h2 a e
theorem least_pos (R : Rm) : ∀ (l : List (Nat × Nat)) (m : Int), 0 < m → (∀ a, a ∈ l → 0 < R a.1 a.2) → 0 < least R l m
  | [], m, h, _ => h
  | b :: l, m, h, h' => least_pos R l _ (by have := h' b (by simp); show 0 < min m _; omega) fun a ha => h' a (List.mem_cons_of_mem _ ha)

def putR (R : Rm) (x y : Nat) (v : Int) : Rm := fun a b => if a = x ∧ b = y then v else R a b
def arcStep (d : Int) (R : Rm) (a : Nat × Nat) : Rm := putR (putR R a.1 a.2 (R a.1 a.2 - d)) a.2 a.1 (putR R a.1 a.2 (R a.1 a.2 - d) a.2 a.1 + d)
def along (d : Int) (R : Rm) (l : List (Nat × Nat)) : Rm := l.foldl (arcStep d) R

theorem arcStep_is {d : Int} {R : Rm} {a : Nat × Nat} (hne : a.1 ≠ a.2) (x y : Nat) : arcStep d R a x y = R x y - (if x = a.1 ∧ y = a.2 then d else 0) + (if x = a.2 ∧ y = a.1 then d else 0) := by
  unfold arcStep putR
  by_cases e1 : x = a.2 ∧ y = a.1
  · obtain ⟨rfl, rfl⟩ := e1
    have e3 : ¬ (a.2 = a.1 ∧ a.1 = a.2) := fun h => hne h.2
    simp only [if_neg e3, and_self, if_true]; omega
  · by_cases e2 : x = a.1 ∧ y = a.2
    · simp only [if_neg e1, if_pos e2]; rw [e2.1, e2.2]; omega
    · simp only [if_neg e1, if_neg e2]; omega

def pushF (N : Nat) (R : Rm) (next : Nat → List Nat) (s t : Nat) : Option (Int × Rm) :=
  let w := waysF N R next s
  match w t with
  | none => none
  | some v => let p := path w s N t; some (least R p (R v t), along (least R p (R v t)) R p)

def fillF (N : Nat) (next : Nat → List Nat) (s t : Nat) : Nat → Rm → Int → Int × Rm
  | 0, R, sum => (sum, R)
  | f + 1, R, sum => match pushF N R next s t with
    | none => (sum, R)
    | some (d, R') => fillF N next s t f R' (sum + d)

structure Flow (cap : Rm) (next : Nat → List Nat) (N s t : Nat) (R : Rm) (sum : Int) : Prop where
  nonneg : ∀ u v, 0 ≤ R u v
  skew : ∀ u v, R u v + R v u = cap u v + cap v u
  cons : ∀ v, v < N → v ≠ s → v ≠ t → sumN (fun u => cap v u - R v u) N = 0
  src : sumN (fun u => cap s u - R s u) N = sum

theorem row_step {cap : Rm} {N : Nat} {d : Int} {R : Rm} {a : Nat × Nat} (hne : a.1 ≠ a.2) (h1 : a.1 < N) (h2 : a.2 < N) (x : Nat) :
    sumN (fun u => cap x u - arcStep d R a x u) N = sumN (fun u => cap x u - R x u) N + (if x = a.1 then d else 0) - (if x = a.2 then d else 0) := by
  have e : sumN (fun u => cap x u - arcStep d R a x u) N = sumN (fun u => (cap x u - R x u) + ((if x = a.1 ∧ u = a.2 then d else 0) - (if x = a.2 ∧ u = a.1 then d else 0))) N := by
    apply sumN_congr; intro u _; rw [arcStep_is hne]; omega
  rw [e, sumN_add, sumN_sub (fun u => if x = a.1 ∧ u = a.2 then d else 0)]
  have g : ∀ (p q : Nat), q < N → sumN (fun u => if x = p ∧ u = q then d else 0) N = if x = p then d else 0 := by
    intro p q hq
    rw [sumN_one q hq]
    · by_cases e : x = p <;> simp [e]
    · intro i _ hi; rw [if_neg (fun h => hi h.2)]
  rw [g _ _ h2, g _ _ h1]; omega

theorem along_row {cap : Rm} {N s : Nat} {R0 : Rm} {w : Way} {rk : Nat → Nat} (h : Tree R0 N s w rk) (d : Int) (x : Nat) : ∀ (f v : Nat) (R : Rm), (w v).isSome → rk v ≤ f →
    sumN (fun u => cap x u - along d R (path w s f v) x u) N = sumN (fun u => cap x u - R x u) N + (if x = s then d else 0) - (if x = v then d else 0)
  | 0, v, R, hv, hf => by
    have e : v = s := Classical.byContradiction fun e => by
      obtain ⟨h1, h2, h3, h4⟩ := h.step hv e; omega
    subst e
    simp only [path, along, List.foldl_nil]; omega
  | f + 1, v, R, hv, hf => by
    unfold path
    by_cases e : v = s
    · rw [if_pos e]; subst e; simp only [along, List.foldl_nil]; omega
    · rw [if_neg e]
      obtain ⟨h1, h2, h3, h4⟩ := h.step hv e
      have := along_row (cap := cap) h d x f (par w v) (arcStep d R (par w v, v)) h3 (by omega)
      show sumN (fun u => cap x u - along d (arcStep d R (par w v, v)) (path w s f (par w v)) x u) N = _
      rw [this, row_step (show (par w v, v).1 ≠ (par w v, v).2 from fun e => by simp at e; rw [e] at h4; omega) (h.lt _ h3).1 (h.lt _ hv).1]
      simp only
      omega

theorem along_skew {d : Int} {cap : Rm} : ∀ (l : List (Nat × Nat)) (R : Rm), (∀ a, a ∈ l → a.1 ≠ a.2) → (∀ u v, R u v + R v u = cap u v + cap v u) → ∀ u v, along d R l u v + along d R l v u = cap u v + cap v u
  | [], R, _, h => h
  | a :: l, R, ha, h => by
    apply along_skew l (arcStep d R a) fun b hb => ha b (List.mem_cons_of_mem _ hb)
    intro u v
    have hne := ha a (by simp)
    rw [arcStep_is hne, arcStep_is hne]
    have c1 : (v = a.1 ∧ u = a.2) ↔ (u = a.2 ∧ v = a.1) := And.comm
    have c2 : (v = a.2 ∧ u = a.1) ↔ (u = a.1 ∧ v = a.2) := And.comm
    simp only [c1, c2]
    have := h u v
    omega

theorem along_nonneg {N s : Nat} {R0 : Rm} {w : Way} {rk : Nat → Nat} (h : Tree R0 N s w rk) {d : Int} (hd : 0 ≤ d) : ∀ (f v : Nat) (R : Rm), (w v).isSome → (∀ u v, 0 ≤ R u v) → (∀ a, a ∈ path w s f v → d ≤ R a.1 a.2) → ∀ x y, 0 ≤ along d R (path w s f v) x y
  | 0, v, R, _, hR, _ => hR
  | f + 1, v, R, hv, hR, hl => by
    unfold path at hl ⊢
    by_cases e : v = s
    · rw [if_pos e]; exact hR
    · rw [if_neg e] at hl ⊢
      obtain ⟨h1, h2, h3, h4⟩ := h.step hv e
      have hne : (par w v, v).1 ≠ (par w v, v).2 := fun e => by simp at e; rw [e] at h4; omega
      have hup : ∀ x y, ¬ (x = par w v ∧ y = v) → R x y ≤ arcStep d R (par w v, v) x y := by
        intro x y hxy
        rw [arcStep_is hne]
        simp only [if_neg hxy]
        split <;> omega
      show ∀ x y, 0 ≤ along d (arcStep d R (par w v, v)) (path w s f (par w v)) x y
      apply along_nonneg h hd f _ _ h3
      · intro x y
        by_cases hxy : x = par w v ∧ y = v
        · rw [arcStep_is hne]
          have := hl (par w v, v) (by simp)
          simp only at this
          rw [if_pos hxy, hxy.1, hxy.2]
          split <;> omega
        · have := hup x y hxy; have := hR x y; omega
      · intro a ha
        have h5 := path_mem h f _ h3 a ha
        have h6 := hl a (List.mem_cons_of_mem _ ha)
        have := hup a.1 a.2 (fun e => by rw [e.2] at h5; omega)
        omega

theorem Flow.push {cap : Rm} {next : Nat → List Nat} {N s t : Nat} {R : Rm} {sum : Int} (h : Flow cap next N s t R sum) (hn : ∀ v u, v < N → u ∈ next v → u < N) (hs : s < N) (hst : s ≠ t) {d : Int} {R' : Rm} (hp : pushF N R next s t = some (d, R')) :
    0 < d ∧ Flow cap next N s t R' (sum + d) := by
  unfold pushF at hp
  obtain ⟨rk, ht⟩ := ways_tree (ways_inv (R := R) hn hs)
  generalize waysF N R next s = w at *
  simp only at hp
  cases e : w t with
  | none => rw [e] at hp; cases hp
  | some v =>
    rw [e] at hp
    have hv : (w t).isSome := by rw [e]; rfl
    simp only [Option.some.injEq, Prod.mk.injEq] at hp
    obtain ⟨hd, rfl⟩ := hp
    rw [hd]
    have hpos : 0 < d := by
      rw [← hd]
      exact least_pos _ _ _ (ht.par t v (Ne.symm hst) e).1 fun a ha => (path_mem ht _ _ hv a ha).1
    have hrow := fun x => along_row (cap := cap) ht d x N t R hv (by have := (ht.lt _ hv).2; omega)
    refine ⟨hpos, ?_, ?_, ?_, ?_⟩
    · apply along_nonneg ht (by omega) _ _ _ hv h.nonneg
      intro a ha
      rw [← hd]
      exact (least_le R _ _).2 a ha
    · apply along_skew _ _ _ h.skew
      intro a ha e
      have := (path_mem ht _ _ hv a ha).2.2.2.1
      rw [e] at this; omega
    · intro x hx hxs hxt
      rw [hrow, h.cons x hx hxs hxt, if_neg hxs, if_neg hxt]; omega
    · rw [hrow, h.src, if_pos rfl, if_neg hst]; omega

theorem Flow.sum_le {cap : Rm} {next : Nat → List Nat} {N s t : Nat} {R : Rm} {sum : Int} (h : Flow cap next N s t R sum) : sum ≤ sumN (fun u => cap s u) N := by
  rw [← h.src]
  apply sumN_le
  intro u _
  have := h.nonneg s u
  omega

theorem Flow.cut {cap : Rm} {next : Nat → List Nat} {N s t : Nat} {R : Rm} {sum : Int} (h : Flow cap next N s t R sum) (hn : ∀ v u, v < N → u ∈ next v → u < N) (hs : s < N)
    (hadj : ∀ v u, 0 < cap v u + cap u v → u ∈ next v) (hp : pushF N R next s t = none) :
    (waysF N R next s s).isSome ∧ waysF N R next s t = none ∧ sum = sumN (fun v => sumN (fun u => if (waysF N R next s v).isSome ∧ waysF N R next s u = none then cap v u else 0) N) N := by
  have hi := ways_inv (R := R) hn hs
  unfold pushF at hp
  generalize waysF N R next s = w at *
  simp only at hp
  have hwt : w t = none := by
    cases e : w t with
    | none => rfl
    | some v => rw [e] at hp; cases hp
  refine ⟨by rw [hi.start]; rfl, hwt, ?_⟩
  have hin : ∀ v u, (w v).isSome → w u = none → R v u = 0 := by
    intro v u hv hu
    by_cases e : 0 < R v u
    · exfalso
      have h1 : 0 < cap v u + cap u v := by have := h.skew v u; have := h.nonneg u v; omega
      rcases hi.closed v u hv (hadj v u h1) e with k | k | k
      · rw [hu] at k; cases k
      · cases k
      · cases k.2
    · have := h.nonneg v u; omega
  let F : Nat → Nat → Int := fun v u => cap v u - R v u
  have hF : ∀ v u, F v u = - F u v := by intro v u; have := h.skew v u; simp only [F]; omega
  let S : Nat → Int := fun v => one (w v).isSome
  have e1 : sum = sumN (fun v => S v * sumN (fun u => F v u) N) N := by
    rw [sumN_one s hs]
    · simp only [S, hi.start, Option.isSome_some, one, if_true, F]; rw [h.src]; omega
    · intro v hv hvs
      by_cases e : v = t
      · simp [S, e, hwt, one]
      · have : sumN (fun u => F v u) N = 0 := h.cons v hv hvs e
        rw [this]; simp
  have e2 : sumN (fun v => S v * sumN (fun u => F v u) N) N = sumN (fun v => sumN (fun u => S v * (1 - S u) * F v u) N) N + sumN (fun v => sumN (fun u => S v * S u * F v u) N) N := by
    rw [← sumN_add]
    apply sumN_congr; intro v _
    rw [← sumN_mul, ← sumN_add]
    apply sumN_congr; intro u _
    have : S u * F v u + (1 - S u) * F v u = F v u := by rw [← Int.add_mul]; have : S u + (1 - S u) = 1 := by omega
                                                         rw [this, Int.one_mul]
    rw [Int.mul_assoc, Int.mul_assoc, ← Int.mul_add, Int.add_comm, this]
  have e3 : sumN (fun v => sumN (fun u => S v * S u * F v u) N) N = 0 := by
    have k1 := sumN_swap (fun v u => S v * S u * F v u) N N
    have k2 : sumN (fun u => sumN (fun v => S v * S u * F v u) N) N = sumN (fun u => sumN (fun v => - (S u * S v * F u v)) N) N := by
      apply sumN_congr; intro u _
      apply sumN_congr; intro v _
      rw [hF v u, Int.mul_comm (S v) (S u), Int.mul_neg]
    have k3 : sumN (fun u => sumN (fun v => - (S u * S v * F u v)) N) N = - sumN (fun u => sumN (fun v => S u * S v * F u v) N) N := by
      have g : ∀ f : Nat → Int, ∀ n, sumN (fun i => - f i) n = - sumN f n := by
        intro f n
        have := sumN_mul (-1) f n
        rw [show (fun i => -1 * f i) = fun i => - f i from by funext i; omega] at this
        omega
      rw [← g]
      apply sumN_congr; intro u _
      rw [g]
    omega
  rw [e1, e2, e3, Int.add_zero]
  apply sumN_congr; intro v _
  apply sumN_congr; intro u _
  cases hv : w v with
  | none => simp [S, hv, one]
  | some a =>
    cases hu : w u with
    | none =>
      have := hin v u (by rw [hv]; rfl) hu
      simp [S, hv, hu, one, F, this]
    | some b => simp [S, hv, hu, one]

theorem fill_end {cap : Rm} {next : Nat → List Nat} {N s t : Nat} (hn : ∀ v u, v < N → u ∈ next v → u < N) (hs : s < N) (hst : s ≠ t) : ∀ (f : Nat) (R : Rm) (sum : Int), Flow cap next N s t R sum → sumN (fun u => cap s u) N - sum < f →
    Flow cap next N s t (fillF N next s t f R sum).2 (fillF N next s t f R sum).1 ∧ pushF N (fillF N next s t f R sum).2 next s t = none
  | 0, R, sum, h, hf => by have := h.sum_le; omega
  | f + 1, R, sum, h, hf => by
    unfold fillF
    cases e : pushF N R next s t with
    | none => exact ⟨h, e⟩
    | some p =>
      obtain ⟨d, R'⟩ := p
      obtain ⟨h1, h2⟩ := h.push hn hs hst e
      exact fill_end hn hs hst f R' (sum + d) h2 (by omega)


theorem cov_nonneg (m : Nat) (g : Nat → J) (S : Nat → Bool) (t : Nat) : 0 ≤ cov m g S t := sumN_nonneg fun i _ => one_nonneg _

theorem sum_spans (f : Nat → Int) (at_ : Nat → Nat) : ∀ (K : Nat), (∀ k, k < K → at_ k ≤ at_ (k + 1)) →
    sumN f (at_ K) = sumN f (at_ 0) + sumN (fun k => sumN (fun j => f (at_ k + j)) (at_ (k + 1) - at_ k)) K
  | 0, _ => by simp [sumN]
  | K + 1, h => by
    rw [sumN_succ, ← Int.add_assoc, ← sum_spans f at_ K fun k hk => h k (by omega), ← sumN_append]
    congr 1
    have := h K (by omega)
    omega

theorem flow_not_refused {n : Int} {m : Nat} {g : Nat → J} {M K : Nat} (at_ : Nat → Nat) (x : Nat → Nat → Int) (hn : 0 ≤ n) (hat : ∀ k, k < K → at_ k ≤ at_ (k + 1)) (hM : at_ K ≤ M)
    (h0 : ∀ i k, i < m → k < K → 0 ≤ x i k) (hl : ∀ i k, i < m → k < K → x i k ≤ at_ (k + 1) - at_ k)
    (hw : ∀ i k, i < m → k < K → x i k ≠ 0 → (g i).ready ≤ at_ k ∧ (at_ (k + 1) : Int) ≤ (g i).due)
    (hs : ∀ k, k < K → sumN (fun i => x i k) m ≤ n * (at_ (k + 1) - at_ k))
    (hwork : ∀ i, i < m → sumN (fun k => x i k) K = (g i).work) : ¬ Refused n m g M := by
  rintro ⟨S, hS⟩
  let f : Nat → Int := fun t => min n (cov m g S t)
  have hf : ∀ t, 0 ≤ f t := fun t => Int.le_min.2 ⟨hn, cov_nonneg _ _ _ _⟩
  have h1 : workOf m g S = sumN (fun k => sumN (fun i => if S i then x i k else 0) m) K := by
    rw [← sumN_swap]
    apply sumN_congr
    intro i hi
    by_cases hSi : S i = true
    · simp only [hSi, if_true]; exact (hwork i hi).symm
    · simp only [hSi, Bool.false_eq_true, if_false]; rw [sumN_const]; simp
  have h2 : sumN f (at_ K) ≤ room n m g S M := by
    obtain ⟨d, rfl⟩ := Nat.le.dest hM
    show _ ≤ sumN f (at_ K + d)
    rw [sumN_append]
    have := sumN_nonneg (f := fun i => f (at_ K + i)) (n := d) fun i _ => hf _
    omega
  have h3 : sumN (fun k => sumN (fun i => if S i then x i k else 0) m) K ≤ sumN (fun k => sumN (fun j => f (at_ k + j)) (at_ (k + 1) - at_ k)) K := by
    apply sumN_le
    intro k hk
    let c : Int := sumN (fun i => one (S i && (decide ((g i).ready ≤ at_ k) && decide ((at_ (k + 1) : Int) ≤ (g i).due)))) m
    have ha := hat k hk
    have hcast : ((at_ (k + 1) - at_ k : Nat) : Int) = (at_ (k + 1) : Int) - at_ k := by omega
    have hlow : ∀ j, j < at_ (k + 1) - at_ k → min n c ≤ f (at_ k + j) := by
      intro j hj
      refine Int.le_min.2 ⟨Int.min_le_left _ _, Int.le_trans (Int.min_le_right _ _) ?_⟩
      apply sumN_le
      intro i _
      by_cases hp : (S i && (decide ((g i).ready ≤ at_ k) && decide ((at_ (k + 1) : Int) ≤ (g i).due))) = true
      · have hq : (S i && (g i).at (at_ k + j)) = true := by
          simp only [Bool.and_eq_true, decide_eq_true_eq, J.at] at hp ⊢
          exact ⟨hp.1, by omega, by omega⟩
        rw [hp, hq]; exact Int.le_refl _
      · simp only [Bool.not_eq_true] at hp
        rw [hp]; simp only [one, Bool.false_eq_true, if_false]; split <;> omega
    have hsum : (at_ (k + 1) - at_ k : Nat) * min n c ≤ sumN (fun j => f (at_ k + j)) (at_ (k + 1) - at_ k) := by
      rw [← sumN_const]
      exact sumN_le hlow
    refine Int.le_trans ?_ hsum
    have hL : (0 : Int) ≤ ((at_ (k + 1) - at_ k : Nat) : Int) := by omega
    have hA : sumN (fun i => if S i then x i k else 0) m ≤ ((at_ (k + 1) - at_ k : Nat) : Int) * n := by
      rw [hcast, Int.mul_comm]
      refine Int.le_trans (sumN_le ?_) (hs k hk)
      intro i hi
      have := h0 i k hi hk
      by_cases hSi : S i = true <;> simp [hSi] <;> omega
    have hB : sumN (fun i => if S i then x i k else 0) m ≤ ((at_ (k + 1) - at_ k : Nat) : Int) * c := by
      rw [← sumN_mul]
      apply sumN_le
      intro i hi
      by_cases hSi : S i = true
      · by_cases hx : x i k = 0
        · simp only [hSi, if_true, hx]
          exact Int.mul_nonneg hL (one_nonneg _)
        · have := hw i k hi hk hx
          have h4 := hl i k hi hk
          simp only [hSi, if_true, Bool.true_and, this.1, this.2, decide_true, one]
          simp; omega
      · simp only [hSi, Bool.false_eq_true, if_false]
        exact Int.mul_nonneg hL (one_nonneg _)
    by_cases hc : n ≤ c
    · rw [Int.min_eq_left hc]; exact hA
    · rw [Int.min_eq_right (by omega)]; exact hB
  have h4 : 0 ≤ sumN f (at_ 0) := sumN_nonneg fun t _ => hf t
  have h5 := sum_spans f at_ K hat
  omega

theorem refused_benches {n n' : Int} {m : Nat} {g : Nat → J} {M : Nat} (hn : n ≤ n') (h : Refused n' m g M) : Refused n m g M := by
  obtain ⟨S, hS⟩ := h
  refine ⟨S, Int.lt_of_le_of_lt (sumN_le fun t _ => ?_) hS⟩
  exact Int.le_min.2 ⟨Int.le_trans (Int.min_le_left _ _) hn, Int.min_le_right _ _⟩

theorem refused_easier {n : Int} {m : Nat} {g g' : Nat → J} {M : Nat} (hr : ∀ i, i < m → (g' i).ready ≤ (g i).ready) (hd : ∀ i, i < m → (g i).due ≤ (g' i).due) (hw : ∀ i, i < m → (g' i).work ≤ (g i).work)
    (h : Refused n m g' M) : Refused n m g M := by
  obtain ⟨S, hS⟩ := h
  refine ⟨S, Int.lt_of_le_of_lt (sumN_le fun t _ => ?_) (Int.lt_of_lt_of_le hS (sumN_le fun i hi => ?_))⟩
  · refine Int.le_min.2 ⟨Int.min_le_left _ _, Int.le_trans (Int.min_le_right _ _) (sumN_le fun i hi => ?_)⟩
    by_cases hp : (S i && (g i).at t) = true
    · have hq : (S i && (g' i).at t) = true := by
        simp only [Bool.and_eq_true, decide_eq_true_eq, J.at] at hp ⊢
        have := hr i hi; have := hd i hi
        exact ⟨hp.1, by omega, by omega⟩
      rw [hp, hq]; exact Int.le_refl _
    · simp only [Bool.not_eq_true] at hp
      rw [hp]; exact one_nonneg _
  · have := hw i hi
    by_cases hSi : S i = true <;> simp [hSi] <;> omega

theorem refused_back {n : Int} {m : Nat} {g : Nat → J} {M : Nat} (h : Refused n m (fun i => g (m - 1 - i)) M) : Refused n m g M := by
  obtain ⟨S, hS⟩ := h
  refine ⟨fun i => S (m - 1 - i), ?_⟩
  have hrev : ∀ i, i < m → m - 1 - (m - 1 - i) = i := by intro i hi; omega
  have e1 : workOf m g (fun i => S (m - 1 - i)) = workOf m (fun i => g (m - 1 - i)) S := by
    unfold workOf
    rw [← sumN_rev (fun i => if S (m - 1 - i) = true then (g i).work else 0) m]
    apply sumN_congr
    intro i hi
    rw [hrev i hi]
  have e2 : ∀ t, cov m g (fun i => S (m - 1 - i)) t = cov m (fun i => g (m - 1 - i)) S t := by
    intro t
    unfold cov
    rw [← sumN_rev (fun i => one (S (m - 1 - i) && (g i).at t)) m]
    apply sumN_congr
    intro i hi
    rw [hrev i hi]
  rw [e1]
  unfold room at hS ⊢
  simp only [e2]
  exact hS

def J.moved (d : Int) (j : J) : J := ⟨j.ready + d, j.due + d, j.work⟩
def J.times (k : Int) (j : J) : J := ⟨k * j.ready, k * j.due, k * j.work⟩
def J.back (M : Int) (j : J) : J := ⟨M - j.due, M - j.ready, j.work⟩

theorem room_long {n : Int} {m : Nat} {g : Nat → J} {S : Nat → Bool} {M M' : Nat} (hn : 0 ≤ n) (hM : M ≤ M') (hd : ∀ i, i < m → (g i).due ≤ M) : room n m g S M' = room n m g S M := by
  apply sumN_ext_zero hM
  intro t ht _
  have : cov m g S t = 0 := by
    unfold cov
    rw [sumN_congr (g := fun _ => 0), sumN_const]
    · simp
    · intro i hi
      have := hd i hi
      have h2 : ¬ ((t : Int) < (g i).due) := by omega
      simp [J.at, h2, one]
  rw [this]; omega

theorem refused_moved {n : Int} {m : Nat} {g : Nat → J} {M : Nat} (d : Nat) (hn : 0 ≤ n) (hr : ∀ i, i < m → 0 ≤ (g i).ready) : Refused n m (fun i => (g i).moved d) (d + M) ↔ Refused n m g M := by
  have e1 : ∀ S, workOf m (fun i => (g i).moved d) S = workOf m g S := fun S => rfl
  have e2 : ∀ S, room n m (fun i => (g i).moved d) S (d + M) = room n m g S M := by
    intro S
    unfold room
    rw [sumN_append]
    have h1 : sumN (fun t => min n (cov m (fun i => (g i).moved d) S t)) d = 0 := by
      rw [sumN_congr (g := fun _ => 0), sumN_const]
      · simp
      · intro t ht
        have : cov m (fun i => (g i).moved d) S t = 0 := by
          unfold cov
          rw [sumN_congr (g := fun _ => 0), sumN_const]
          · simp
          · intro i hi
            have := hr i hi
            have h2 : ¬ ((g i).ready + (d : Int) ≤ (t : Int)) := by omega
            simp [J.at, J.moved, h2, one]
        rw [this]; omega
    rw [h1, Int.zero_add]
    apply sumN_congr
    intro t _
    congr 1
    unfold cov
    apply sumN_congr
    intro i _
    congr 2
    unfold J.at J.moved
    congr 1
    · exact decide_eq_decide.2 (by constructor <;> intro h <;> simp at h ⊢ <;> omega)
    · exact decide_eq_decide.2 (by constructor <;> intro h <;> simp at h ⊢ <;> omega)
  unfold Refused
  simp only [e1, e2]

theorem sum_times (f : Nat → Int) (k : Nat) (hk : 0 < k) : ∀ M : Nat, sumN (fun t => f (t / k)) (k * M) = k * sumN f M
  | 0 => by simp [sumN]
  | M + 1 => by
    rw [Nat.mul_succ, sumN_append, sum_times f k hk M, sumN_succ, Int.mul_add]
    congr 1
    rw [sumN_congr (g := fun _ => f M), sumN_const]
    intro i hi
    congr 1
    rw [Nat.add_comm, Nat.add_mul_div_left _ _ hk, Nat.div_eq_of_lt hi, Nat.zero_add]

theorem refused_times {n : Int} {m : Nat} {g : Nat → J} {M : Nat} (k : Nat) (hk : 0 < k) : Refused n m (fun i => (g i).times k) (k * M) ↔ Refused n m g M := by
  have e1 : ∀ S, workOf m (fun i => (g i).times k) S = k * workOf m g S := by
    intro S
    unfold workOf
    rw [← sumN_mul]
    apply sumN_congr
    intro i _
    by_cases h : S i = true <;> simp [h, J.times]
  have e2 : ∀ S, room n m (fun i => (g i).times k) S (k * M) = k * room n m g S M := by
    intro S
    unfold room
    rw [← sum_times _ k hk]
    apply sumN_congr
    intro t _
    congr 1
    unfold cov
    apply sumN_congr
    intro i _
    congr 2
    unfold J.at J.times
    have hq : (t : Int) = k * (t / k : Nat) + (t % k : Nat) := by have := Nat.div_add_mod t k; omega
    have hr : ((t % k : Nat) : Int) < k := by have := Nat.mod_lt t hk; omega
    congr 1
    · apply decide_eq_decide.2
      simp only
      constructor
      · intro h
        by_cases h' : (g i).ready ≤ (t / k : Nat)
        · exact h'
        · have : (k : Int) * ((t / k : Nat) + 1) ≤ k * (g i).ready := Int.mul_le_mul_of_nonneg_left (by omega) (by omega)
          rw [Int.mul_add] at this; omega
      · intro h
        have : (k : Int) * (g i).ready ≤ k * (t / k : Nat) := Int.mul_le_mul_of_nonneg_left h (by omega)
        omega
    · apply decide_eq_decide.2
      simp only
      constructor
      · intro h
        by_cases h' : ((t / k : Nat) : Int) < (g i).due
        · exact h'
        · have : (k : Int) * (g i).due ≤ k * (t / k : Nat) := Int.mul_le_mul_of_nonneg_left (by omega) (by omega)
          omega
      · intro h
        have : (k : Int) * ((t / k : Nat) + 1) ≤ k * (g i).due := Int.mul_le_mul_of_nonneg_left (by omega) (by omega)
        rw [Int.mul_add] at this; omega
  unfold Refused
  simp only [e1, e2]
  have hk' : (0 : Int) < k := by omega
  constructor
  · rintro ⟨S, h⟩; exact ⟨S, Int.lt_of_mul_lt_mul_left h (by omega)⟩
  · rintro ⟨S, h⟩; exact ⟨S, Int.mul_lt_mul_of_pos_left h hk'⟩


structure St where
  R : Rm
  next : Nat → List Nat

def putL (next : Nat → List Nat) (v u : Nat) : Nat → List Nat := fun x => if x = v then next x ++ [u] else next x
def addF (st : St) (v u : Nat) (room : Int) : St := ⟨putR st.R v u room, putL (putL st.next v u) u v⟩

structure Tk where
  B : Int
  m : Nat
  g : Nat → J
  K : Nat
  at_ : Nat → Nat

def Tk.ok (t : Tk) (k i : Nat) : Bool := decide ((t.g k).ready ≤ (t.at_ i : Int)) && decide ((t.at_ (i + 1) : Int) ≤ (t.g k).due)
def Tk.len (t : Tk) (i : Nat) : Int := (t.at_ (i + 1) : Int) - (t.at_ i : Int)
def Tk.last (t : Tk) : Nat := 1 + t.m + t.K

def netI (t : Tk) (k : Nat) (st : St) : Nat → St
  | 0 => st
  | i + 1 => if t.ok k i then addF (netI t k st i) (1 + k) (1 + t.m + i) (t.len i) else netI t k st i
def netK (t : Tk) : Nat → St
  | 0 => ⟨fun _ _ => 0, fun _ => []⟩
  | k + 1 => netI t k (addF (netK t k) 0 (1 + k) (t.g k).work) t.K
def netL (t : Tk) : Nat → St
  | 0 => netK t t.m
  | i + 1 => addF (netL t i) (1 + t.m + i) t.last (t.B * t.len i)
def netF (t : Tk) : St := netL t t.K

structure Tk.Good (t : Tk) : Prop where
  B : 1 ≤ t.B
  cut : ∀ i, i < t.K → t.at_ i < t.at_ (i + 1)
  ready : ∀ k, k < t.m → ∃ i, i ≤ t.K ∧ (t.g k).ready = t.at_ i
  due : ∀ k, k < t.m → ∃ i, i ≤ t.K ∧ (t.g k).due = t.at_ i
  pos : ∀ k, k < t.m → (t.g k).ready < (t.g k).due ∧ 1 ≤ (t.g k).work

structure Adj (N : Nat) (st : St) : Prop where
  lt : ∀ v u, u ∈ st.next v → u < N
  adj : ∀ v u, 0 < st.R v u → u ∈ st.next v ∧ v ∈ st.next u
  nonneg : ∀ v u, 0 ≤ st.R v u

theorem mem_putL {next : Nat → List Nat} {v u x y : Nat} : y ∈ putL next v u x ↔ y ∈ next x ∨ (x = v ∧ y = u) := by
  unfold putL
  by_cases h : x = v <;> simp [h]

theorem Adj.add {N : Nat} {st : St} (h : Adj N st) {v u : Nat} {room : Int} (hv : v < N) (hu : u < N) (hr : 0 ≤ room) : Adj N (addF st v u room) := by
  refine ⟨?_, ?_, ?_⟩
  · intro x y hy
    simp only [addF, mem_putL] at hy
    rcases hy with (hy | ⟨_, rfl⟩) | ⟨_, rfl⟩
    · exact h.lt x y hy
    · exact hu
    · exact hv
  · intro x y hxy
    simp only [addF, mem_putL, putR] at hxy ⊢
    by_cases e : x = v ∧ y = u
    · obtain ⟨rfl, rfl⟩ := e; simp
    · rw [if_neg e] at hxy
      obtain ⟨h1, h2⟩ := h.adj x y hxy
      exact ⟨Or.inl (Or.inl h1), Or.inl (Or.inl h2)⟩
  · intro x y
    simp only [addF, putR]
    split
    · exact hr
    · exact h.nonneg x y

theorem Tk.Good.len_pos {t : Tk} (h : t.Good) {i : Nat} (hi : i < t.K) : 1 ≤ t.len i := by have := h.cut i hi; unfold Tk.len; omega

theorem netI_adj {t : Tk} (h : t.Good) {k : Nat} {st : St} (hk : k < t.m) (hs : Adj (t.last + 1) st) : ∀ i, i ≤ t.K → Adj (t.last + 1) (netI t k st i)
  | 0, _ => hs
  | i + 1, hi => by
    unfold netI
    have ih := netI_adj h hk hs i (by omega)
    have := h.len_pos (show i < t.K by omega)
    split
    · exact ih.add (by unfold Tk.last; omega) (by unfold Tk.last; omega) (by omega)
    · exact ih
theorem netK_adj {t : Tk} (h : t.Good) : ∀ k, k ≤ t.m → Adj (t.last + 1) (netK t k)
  | 0, _ => by
    refine ⟨?_, ?_, ?_⟩
    · intro _ _ h; cases h
    · intro v u h; exact absurd h (Int.lt_irrefl 0)
    · intro _ _; exact Int.le_refl 0
  | k + 1, hk => by
    have := (h.pos k (by omega)).2
    exact netI_adj h (by omega) ((netK_adj h k (by omega)).add (by omega) (by unfold Tk.last; omega) (by omega)) _ (Nat.le_refl _)
theorem netL_adj {t : Tk} (h : t.Good) : ∀ i, i ≤ t.K → Adj (t.last + 1) (netL t i)
  | 0, _ => netK_adj h _ (Nat.le_refl _)
  | i + 1, hi => by
    have := h.len_pos (show i < t.K by omega)
    exact (netL_adj h i (by omega)).add (by unfold Tk.last; omega) (by omega) (Int.mul_nonneg (by have := h.B; omega) (by omega))

def capF (t : Tk) (v u : Nat) : Int :=
  if v = 0 then (if 1 ≤ u ∧ u ≤ t.m then (t.g (u - 1)).work else 0)
  else if v ≤ t.m then (if 1 + t.m ≤ u ∧ u < t.last ∧ t.ok (v - 1) (u - 1 - t.m) = true then t.len (u - 1 - t.m) else 0)
  else if v < t.last ∧ u = t.last then t.B * t.len (v - 1 - t.m) else 0

theorem putR_same (R : Rm) (x y : Nat) (v : Int) : putR R x y v x y = v := by simp [putR]
theorem putR_other {R : Rm} {x y a b : Nat} {v : Int} (h : ¬ (a = x ∧ b = y)) : putR R x y v a b = R a b := by simp only [putR, if_neg h]

theorem netI_R (t : Tk) {k : Nat} (hk : k < t.m) {st : St} (hs : ∀ u, st.R (1 + k) u = 0) : ∀ i, i ≤ t.K → ∀ v u, (netI t k st i).R v u = if v = 1 + k ∧ u < 1 + t.m + i then capF t v u else st.R v u
  | 0, _, v, u => by
    show st.R v u = _
    by_cases e : v = 1 + k ∧ u < 1 + t.m + 0
    · rw [if_pos e, e.1, hs]
      unfold capF
      rw [if_neg (by omega), if_pos (by omega), if_neg (by omega)]
    · rw [if_neg e]
  | i + 1, hi, v, u => by
    unfold netI
    have ih := netI_R t hk hs i (by omega)
    have hat : capF t (1 + k) (1 + t.m + i) = if t.ok k i = true then t.len i else 0 := by
      unfold capF
      rw [if_neg (by omega), if_pos (by omega)]
      have e1 : 1 + k - 1 = k := by omega
      have e2 : 1 + t.m + i - 1 - t.m = i := by omega
      rw [e1, e2]
      by_cases e : t.ok k i = true
      · rw [if_pos ⟨by omega, by unfold Tk.last; omega, e⟩, if_pos e]
      · rw [if_neg (fun h => e h.2.2), if_neg e]
    by_cases ho : t.ok k i = true
    · rw [if_pos ho]
      rw [if_pos ho] at hat
      show putR _ _ _ _ v u = _
      by_cases e : v = 1 + k ∧ u = 1 + t.m + i
      · obtain ⟨rfl, rfl⟩ := e
        rw [putR_same, if_pos ⟨rfl, by omega⟩, hat]
      · rw [putR_other e, ih]
        by_cases e2 : v = 1 + k ∧ u < 1 + t.m + i
        · rw [if_pos e2, if_pos (by omega)]
        · rw [if_neg e2, if_neg (by omega)]
    · rw [if_neg ho, ih]
      rw [if_neg ho] at hat
      by_cases e : v = 1 + k ∧ u = 1 + t.m + i
      · obtain ⟨rfl, rfl⟩ := e
        rw [if_neg (by omega), if_pos ⟨rfl, by omega⟩, hat, hs]
      · by_cases e2 : v = 1 + k ∧ u < 1 + t.m + i
        · rw [if_pos e2, if_pos (by omega)]
        · rw [if_neg e2, if_neg (by omega)]

theorem capF_far (t : Tk) {v u : Nat} (hv : 1 ≤ v) (hm : v ≤ t.m) (hu : 1 + t.m + t.K ≤ u) : capF t v u = 0 := by
  unfold capF
  rw [if_neg (by omega), if_pos (by omega), if_neg (by unfold Tk.last; omega)]

theorem netK_R (t : Tk) : ∀ k, k ≤ t.m → ∀ v u, (netK t k).R v u = if (v = 0 ∧ u ≤ k) ∨ (1 ≤ v ∧ v ≤ k) then capF t v u else 0
  | 0, _, v, u => by
    show (0 : Int) = _
    by_cases e : v = 0 ∧ u ≤ 0
    · rw [if_pos (Or.inl e), e.1]
      unfold capF
      rw [if_pos rfl, if_neg (by omega)]
    · rw [if_neg (by omega)]
  | k + 1, hk, v, u => by
    have ih := netK_R t k (by omega)
    have hR : ∀ v u, (addF (netK t k) 0 (1 + k) (t.g k).work).R v u = putR (netK t k).R 0 (1 + k) (t.g k).work v u := fun _ _ => rfl
    unfold netK
    rw [netI_R t (by omega) (fun u => by rw [hR, putR_other (by omega), ih, if_neg (by omega)]) _ (Nat.le_refl _), hR]
    by_cases e : v = 1 + k
    · rw [if_pos (show _ ∨ _ from Or.inr (by omega))]
      by_cases e2 : u < 1 + t.m + t.K
      · rw [if_pos ⟨e, e2⟩]
      · rw [if_neg (by omega), putR_other (by omega), ih, if_neg (by omega), capF_far t (by omega) (by omega) (by omega)]
    · rw [if_neg (by omega)]
      by_cases e3 : v = 0 ∧ u = 1 + k
      · obtain ⟨rfl, rfl⟩ := e3
        rw [putR_same, if_pos (Or.inl ⟨rfl, by omega⟩)]
        unfold capF
        rw [if_pos rfl, if_pos (by omega)]
        have : 1 + k - 1 = k := by omega
        rw [this]
      · rw [putR_other e3, ih]
        by_cases e4 : (v = 0 ∧ u ≤ k) ∨ (1 ≤ v ∧ v ≤ k)
        · rw [if_pos e4, if_pos (by omega)]
        · rw [if_neg e4, if_neg (by omega)]

theorem netL_R (t : Tk) : ∀ i, i ≤ t.K → ∀ v u, (netL t i).R v u = if v < 1 + t.m + i then capF t v u else 0
  | 0, _, v, u => by
    unfold netL
    rw [netK_R t _ (Nat.le_refl _)]
    by_cases e : (v = 0 ∧ u ≤ t.m) ∨ (1 ≤ v ∧ v ≤ t.m)
    · rw [if_pos e, if_pos (by omega)]
    · rw [if_neg e]
      by_cases e2 : v < 1 + t.m + 0
      · rw [if_pos e2]
        unfold capF
        rw [if_pos (by omega), if_neg (by omega)]
      · rw [if_neg e2]
  | i + 1, hi, v, u => by
    have ih := netL_R t i (by omega)
    show putR (netL t i).R _ _ _ v u = _
    by_cases e : v = 1 + t.m + i ∧ u = t.last
    · obtain ⟨rfl, rfl⟩ := e
      rw [putR_same, if_pos (by omega)]
      unfold capF
      rw [if_neg (by omega), if_neg (by omega), if_pos ⟨by unfold Tk.last; omega, rfl⟩]
      have : 1 + t.m + i - 1 - t.m = i := by omega
      rw [this]
    · rw [putR_other e, ih]
      by_cases e2 : v < 1 + t.m + i
      · rw [if_pos e2, if_pos (by omega)]
      · rw [if_neg e2]
        by_cases e3 : v < 1 + t.m + (i + 1)
        · rw [if_pos e3]
          unfold capF
          rw [if_neg (by omega), if_neg (by omega), if_neg (by omega)]
        · rw [if_neg e3]

theorem net_R (t : Tk) : (netF t).R = capF t := by
  funext v u
  unfold netF
  rw [netL_R t _ (Nat.le_refl _)]
  by_cases e : v < 1 + t.m + t.K
  · rw [if_pos e]
  · rw [if_neg e]
    unfold capF
    rw [if_neg (by omega), if_neg (by omega), if_neg (by unfold Tk.last; omega)]

theorem flow_start {cap : Rm} {next : Nat → List Nat} {N s t : Nat} (h : ∀ v u, 0 ≤ cap v u) : Flow cap next N s t cap 0 := by
  have z : ∀ v, sumN (fun u => cap v u - cap v u) N = 0 := by
    intro v
    rw [sumN_congr (g := fun _ => 0) (fun i _ => by omega), sumN_const]; simp
  exact ⟨h, fun _ _ => rfl, fun v _ _ _ => z v, z s⟩

theorem sum_nodes (t : Tk) (f : Nat → Int) : sumN f (t.last + 1) = f 0 + sumN (fun k => f (1 + k)) t.m + sumN (fun i => f (1 + t.m + i)) t.K + f t.last := by
  have h1 := sumN_append f 1 t.m
  have h2 := sumN_append f (1 + t.m) t.K
  have h3 : sumN f 1 = f 0 := by simp [sumN]
  rw [sumN_succ]
  unfold Tk.last
  omega

theorem cap_0j (t : Tk) {k : Nat} (hk : k < t.m) : capF t 0 (1 + k) = (t.g k).work := by
  unfold capF
  rw [if_pos rfl, if_pos (by omega)]
  congr 2; omega
theorem cap_0x (t : Tk) {u : Nat} (hu : u = 0 ∨ t.m < u) : capF t 0 u = 0 := by
  unfold capF
  rw [if_pos rfl, if_neg (by omega)]
theorem cap_jp (t : Tk) {k i : Nat} (hk : k < t.m) (hi : i < t.K) : capF t (1 + k) (1 + t.m + i) = if t.ok k i = true then t.len i else 0 := by
  unfold capF
  rw [if_neg (by omega), if_pos (by omega)]
  have e1 : 1 + k - 1 = k := by omega
  have e2 : 1 + t.m + i - 1 - t.m = i := by omega
  rw [e1, e2]
  by_cases e : t.ok k i = true
  · rw [if_pos ⟨by omega, by unfold Tk.last; omega, e⟩, if_pos e]
  · rw [if_neg (fun h => e h.2.2), if_neg e]
theorem cap_jx (t : Tk) {k u : Nat} (hk : k < t.m) (hu : u ≤ t.m ∨ t.last ≤ u) : capF t (1 + k) u = 0 := by
  unfold capF
  rw [if_neg (by omega), if_pos (by omega), if_neg (by omega)]
theorem cap_pl (t : Tk) {i : Nat} (hi : i < t.K) : capF t (1 + t.m + i) t.last = t.B * t.len i := by
  unfold capF
  rw [if_neg (by omega), if_neg (by omega), if_pos ⟨by unfold Tk.last; omega, rfl⟩]
  have : 1 + t.m + i - 1 - t.m = i := by omega
  rw [this]
theorem cap_px (t : Tk) {i u : Nat} (hu : u ≠ t.last) : capF t (1 + t.m + i) u = 0 := by
  unfold capF
  rw [if_neg (by omega), if_neg (by omega), if_neg (by omega)]
theorem cap_lx (t : Tk) (u : Nat) : capF t t.last u = 0 := by
  unfold capF
  have : ¬ (t.last = 0) := by unfold Tk.last; omega
  have : ¬ (t.last ≤ t.m) := by unfold Tk.last; omega
  rw [if_neg (by assumption), if_neg (by assumption), if_neg (by omega)]

def workAll (t : Tk) : Int := sumN (fun k => (t.g k).work) t.m

theorem cap_src (t : Tk) : sumN (fun u => capF t 0 u) (t.last + 1) = workAll t := by
  rw [sum_nodes, cap_0x t (Or.inl rfl), cap_0x t (Or.inr (by unfold Tk.last; omega))]
  rw [sumN_congr (g := fun k => (t.g k).work) (n := t.m) (fun k hk => cap_0j t hk)]
  rw [sumN_congr (g := fun _ => 0) (n := t.K) (fun i hi => cap_0x t (Or.inr (by omega))), sumN_const]
  unfold workAll; simp

def flowF (t : Tk) : Int × Rm := fillF (t.last + 1) (netF t).next 0 t.last (workAll t).toNat.succ (netF t).R 0

theorem flow_end {t : Tk} (h : t.Good) : Flow (capF t) (netF t).next (t.last + 1) 0 t.last (flowF t).2 (flowF t).1 ∧ pushF (t.last + 1) (flowF t).2 (netF t).next 0 t.last = none := by
  have ha := netL_adj h t.K (Nat.le_refl _)
  have hc := net_R t
  apply fill_end (fun v u _ hu => ha.lt v u hu) (by omega) (by unfold Tk.last; omega)
  · rw [hc]
    apply flow_start
    intro v u
    rw [← hc]; exact ha.nonneg v u
  · rw [cap_src]; omega

theorem flow_le {t : Tk} (h : t.Good) : (flowF t).1 ≤ workAll t := by
  rw [← cap_src]; exact (flow_end h).1.sum_le

def doneF (t : Tk) (k i : Nat) : Int := (flowF t).2 (1 + t.m + i) (1 + k)

structure Full (t : Tk) (y : Nat → Nat → Int) : Prop where
  nonneg : ∀ k i, k < t.m → i < t.K → 0 ≤ y k i
  le : ∀ k i, k < t.m → i < t.K → y k i ≤ t.len i
  ok : ∀ k i, k < t.m → i < t.K → y k i ≠ 0 → t.ok k i = true
  room : ∀ i, i < t.K → sumN (fun k => y k i) t.m ≤ t.B * t.len i
  work : ∀ k, k < t.m → sumN (fun i => y k i) t.K = (t.g k).work

theorem flow_full {t : Tk} (h : t.Good) (hf : (flowF t).1 = workAll t) : Full t (doneF t) := by
  have hF := (flow_end h).1
  unfold doneF
  generalize (flowF t).2 = R at *
  rw [hf] at hF
  have hyF : ∀ k i, k < t.m → i < t.K → R (1 + t.m + i) (1 + k) = capF t (1 + k) (1 + t.m + i) - R (1 + k) (1 + t.m + i) := by
    intro k i hk hi
    have := hF.skew (1 + t.m + i) (1 + k)
    rw [cap_px t (by unfold Tk.last; omega)] at this
    omega
  have h0 : ∀ k, k < t.m → R 0 (1 + k) = 0 := by
    have e1 := hF.src
    rw [← cap_src, sumN_sub] at e1
    have e2 : sumN (fun u => R 0 u) (t.last + 1) = 0 := by
      have e1' : sumN (fun u => capF t 0 u) (t.last + 1) - sumN (fun u => R 0 u) (t.last + 1) = sumN (fun u => capF t 0 u) (t.last + 1) := e1
      omega
    intro k hk
    have := le_sumN (f := fun u => R 0 u) (n := t.last + 1) (fun u _ => hF.nonneg 0 u) (1 + k) (by unfold Tk.last; omega)
    have := hF.nonneg 0 (1 + k)
    have e2' : sumN (R 0) (t.last + 1) = 0 := e2
    omega
  refine ⟨fun k i _ _ => hF.nonneg _ _, ?_, ?_, ?_, ?_⟩
  · intro k i hk hi
    rw [hyF k i hk hi, cap_jp t hk hi]
    have := hF.nonneg (1 + k) (1 + t.m + i)
    have := h.len_pos hi
    split <;> omega
  · intro k i hk hi hne
    cases e : t.ok k i with
    | true => rfl
    | false =>
      rw [hyF k i hk hi, cap_jp t hk hi, e] at hne
      have h1 := hF.nonneg (1 + k) (1 + t.m + i)
      have h2 := hF.nonneg (1 + t.m + i) (1 + k)
      rw [hyF k i hk hi, cap_jp t hk hi, e] at h2
      simp at h2 hne
      omega
  · intro i hi
    have hc := hF.cons (1 + t.m + i) (by unfold Tk.last; omega) (by omega) (by unfold Tk.last; omega)
    rw [sum_nodes] at hc
    have hz : ∀ u, u ≠ t.last → capF t (1 + t.m + i) u = 0 := fun u hu => cap_px t hu
    have e0 : capF t (1 + t.m + i) 0 - R (1 + t.m + i) 0 = 0 := by
      have h1 := hF.skew (1 + t.m + i) 0
      rw [hz 0 (by unfold Tk.last; omega), cap_0x t (Or.inr (by omega))] at h1
      have := hF.nonneg (1 + t.m + i) 0
      have := hF.nonneg 0 (1 + t.m + i)
      rw [hz 0 (by unfold Tk.last; omega)]; omega
    have ep : sumN (fun j => capF t (1 + t.m + i) (1 + t.m + j) - R (1 + t.m + i) (1 + t.m + j)) t.K = 0 := by
      rw [sumN_congr (g := fun _ => 0), sumN_const]
      · simp
      · intro j hj
        have h1 := hF.skew (1 + t.m + i) (1 + t.m + j)
        rw [hz _ (by unfold Tk.last; omega), cap_px t (by unfold Tk.last; omega)] at h1
        have := hF.nonneg (1 + t.m + i) (1 + t.m + j)
        have := hF.nonneg (1 + t.m + j) (1 + t.m + i)
        rw [hz _ (by unfold Tk.last; omega)]; omega
    have ej : sumN (fun k => capF t (1 + t.m + i) (1 + k) - R (1 + t.m + i) (1 + k)) t.m = - sumN (fun k => R (1 + t.m + i) (1 + k)) t.m := by
      have : sumN (fun k => capF t (1 + t.m + i) (1 + k) - R (1 + t.m + i) (1 + k)) t.m = sumN (fun k => 0 - R (1 + t.m + i) (1 + k)) t.m := by
        apply sumN_congr; intro k hk
        rw [hz _ (by unfold Tk.last; omega)]
      rw [this, sumN_sub, sumN_const]; simp
    rw [e0, ep, ej, cap_pl t hi] at hc
    have := hF.nonneg (1 + t.m + i) t.last
    omega
  · intro k hk
    have hc := hF.cons (1 + k) (by unfold Tk.last; omega) (by omega) (by unfold Tk.last; omega)
    rw [sum_nodes] at hc
    have e0 : capF t (1 + k) 0 - R (1 + k) 0 = - (t.g k).work := by
      have h1 := hF.skew (1 + k) 0
      rw [cap_jx t hk (Or.inl (by omega)), cap_0j t hk, h0 k hk] at h1
      rw [cap_jx t hk (Or.inl (by omega))]; omega
    have ej : sumN (fun j => capF t (1 + k) (1 + j) - R (1 + k) (1 + j)) t.m = 0 := by
      rw [sumN_congr (g := fun _ => 0), sumN_const]
      · simp
      · intro j hj
        have h1 := hF.skew (1 + k) (1 + j)
        rw [cap_jx t hk (Or.inl (by omega)), cap_jx t hj (Or.inl (by omega))] at h1
        have := hF.nonneg (1 + k) (1 + j)
        have := hF.nonneg (1 + j) (1 + k)
        rw [cap_jx t hk (Or.inl (by omega))]; omega
    have el : capF t (1 + k) t.last - R (1 + k) t.last = 0 := by
      have h1 := hF.skew (1 + k) t.last
      rw [cap_jx t hk (Or.inr (Nat.le_refl _)), cap_lx] at h1
      have := hF.nonneg (1 + k) t.last
      have := hF.nonneg t.last (1 + k)
      rw [cap_jx t hk (Or.inr (Nat.le_refl _))]; omega
    have ep : sumN (fun i => capF t (1 + k) (1 + t.m + i) - R (1 + k) (1 + t.m + i)) t.K = sumN (fun i => R (1 + t.m + i) (1 + k)) t.K := by
      apply sumN_congr; intro i hi
      exact (hyF k i hk hi).symm
    rw [e0, ej, el, ep] at hc
    omega

def nearF (t : Tk) : Way := waysF (t.last + 1) (flowF t).2 (netF t).next 0
def nearJ (t : Tk) (k : Nat) : Bool := (nearF t (1 + k)).isSome
def nearP (t : Tk) (i : Nat) : Bool := (nearF t (1 + t.m + i)).isSome

theorem flow_cut {t : Tk} (h : t.Good) : (flowF t).1 = sumN (fun k => if nearJ t k = true then 0 else (t.g k).work) t.m
    + sumN (fun k => if nearJ t k = true then sumN (fun i => if nearP t i = true then 0 else (if t.ok k i = true then t.len i else 0)) t.K else 0) t.m
    + sumN (fun i => if nearP t i = true then t.B * t.len i else 0) t.K := by
  obtain ⟨hF, hp⟩ := flow_end h
  have ha := netL_adj h t.K (Nat.le_refl _)
  have hc := net_R t
  obtain ⟨c0, c1, c2⟩ := hF.cut (fun v u _ hu => ha.lt v u hu) (by omega) (fun v u hvu => by
    rw [← hc] at hvu
    by_cases e : 0 < (netF t).R v u
    · exact (ha.adj v u e).1
    · exact (ha.adj u v (by have e' : ¬ 0 < (netF t).R v u := e; show 0 < (netF t).R u v; omega)).2) hp
  rw [c2]
  clear c2
  change (nearF t 0).isSome at c0
  change nearF t t.last = none at c1
  show sumN (fun v => sumN (fun u => if (nearF t v).isSome ∧ nearF t u = none then capF t v u else 0) _) _ = _
  unfold nearJ nearP
  generalize nearF t = w at *
  rw [sum_nodes]
  have zero : ∀ (f : Nat → Int) n, (∀ i, i < n → f i = 0) → sumN f n = 0 := fun f n hz => by
    rw [sumN_congr (g := fun _ => 0) hz, sumN_const]; simp
  have e0 : sumN (fun u => if (w 0).isSome ∧ w u = none then capF t 0 u else 0) (t.last + 1) = sumN (fun k => if (w (1 + k)).isSome = true then 0 else (t.g k).work) t.m := by
    rw [sum_nodes, cap_0x t (Or.inl rfl), cap_0x t (Or.inr (show t.m < t.last by unfold Tk.last; omega)), zero _ t.K (fun i hi => by rw [cap_0x t (Or.inr (by omega))]; split <;> rfl)]
    simp only [ite_self, Int.zero_add, Int.add_zero]
    apply sumN_congr; intro k hk
    rw [cap_0j t hk]
    cases w (1 + k) <;> simp [c0]
  have el : sumN (fun u => if (w t.last).isSome ∧ w u = none then capF t t.last u else 0) (t.last + 1) = 0 := by
    apply zero; intro u _; rw [cap_lx]; split <;> rfl
  have ej : sumN (fun k => sumN (fun u => if (w (1 + k)).isSome ∧ w u = none then capF t (1 + k) u else 0) (t.last + 1)) t.m
      = sumN (fun k => if (w (1 + k)).isSome = true then sumN (fun i => if (w (1 + t.m + i)).isSome = true then 0 else (if t.ok k i = true then t.len i else 0)) t.K else 0) t.m := by
    apply sumN_congr; intro k hk
    rw [sum_nodes, cap_jx t hk (Or.inl (by omega)), cap_jx t hk (Or.inr (Nat.le_refl _)), zero _ t.m (fun i hi => by rw [cap_jx t hk (Or.inl (by omega))]; split <;> rfl)]
    simp only [ite_self, Int.zero_add, Int.add_zero]
    by_cases e : (w (1 + k)).isSome = true
    · rw [if_pos e]
      apply sumN_congr; intro i hi
      rw [cap_jp t hk hi]
      cases w (1 + t.m + i) <;> simp [e]
    · rw [if_neg e]
      apply zero; intro i hi; rw [if_neg (fun h => e h.1)]
  have ep : sumN (fun i => sumN (fun u => if (w (1 + t.m + i)).isSome ∧ w u = none then capF t (1 + t.m + i) u else 0) (t.last + 1)) t.K
      = sumN (fun i => if (w (1 + t.m + i)).isSome = true then t.B * t.len i else 0) t.K := by
    apply sumN_congr; intro i hi
    rw [sum_nodes, cap_px t (show 0 ≠ t.last by unfold Tk.last; omega), zero _ t.m (fun k hk => by rw [cap_px t (by unfold Tk.last; omega)]; split <;> rfl), zero _ t.K (fun k hk => by rw [cap_px t (by unfold Tk.last; omega)]; split <;> rfl)]
    simp only [ite_self, Int.zero_add, Int.add_zero]
    rw [cap_pl t hi]
    simp [c1]
  rw [e0, el, ej, ep, Int.add_zero]

theorem flow_short {t : Tk} (h : t.Good) (hf : (flowF t).1 ≠ workAll t) : sumN (fun i => if nearP t i = true then t.B * t.len i else 0) t.K
    + sumN (fun k => if nearJ t k = true then sumN (fun i => if nearP t i = true then 0 else (if t.ok k i = true then t.len i else 0)) t.K else 0) t.m
    < sumN (fun k => if nearJ t k = true then (t.g k).work else 0) t.m := by
  have h1 := flow_cut h
  have h2 := flow_le h
  have h3 : workAll t = sumN (fun k => if nearJ t k = true then (t.g k).work else 0) t.m + sumN (fun k => if nearJ t k = true then 0 else (t.g k).work) t.m := by
    unfold workAll
    rw [← sumN_add]
    apply sumN_congr; intro k _
    split <;> omega
  omega

theorem job_time {t : Tk} (h : t.Good) {k : Nat} (hk : k < t.m) : sumN (fun i => if t.ok k i = true then t.len i else 0) t.K = (t.g k).due - (t.g k).ready := by
  obtain ⟨a, ha, hra⟩ := h.ready k hk
  obtain ⟨b, hb, hdb⟩ := h.due k hk
  have hmono : ∀ d i, i + d ≤ t.K → t.at_ i ≤ t.at_ (i + d) := by
    intro d
    induction d with
    | zero => intro i _; exact Nat.le_refl _
    | succ d ih => intro i hi; have := ih i (by omega); have := h.cut (i + d) (by omega); show _ ≤ t.at_ (i + d + 1); omega
  have hlt : ∀ i j, i < j → j ≤ t.K → t.at_ i < t.at_ j := by
    intro i j hij hj
    have h1 := h.cut i (by omega)
    have h2 := hmono (j - (i + 1)) (i + 1) (by omega)
    have e : i + 1 + (j - (i + 1)) = j := by omega
    rw [e] at h2; omega
  have hab : a < b := by
    have := (h.pos k hk).1
    rw [hra, hdb] at this
    apply Classical.byContradiction; intro hn
    have := hmono (a - b) b (by omega)
    have e : b + (a - b) = a := by omega
    rw [e] at this; omega
  have hok : ∀ i, i < t.K → (t.ok k i = true ↔ a ≤ i ∧ i < b) := by
    intro i hi
    simp only [Tk.ok, Bool.and_eq_true, decide_eq_true_eq, hra, hdb]
    constructor
    · intro ⟨h1, h2⟩
      constructor
      · apply Classical.byContradiction; intro hn
        have := hlt i a (by omega) ha; omega
      · apply Classical.byContradiction; intro hn
        have := hlt b (i + 1) (by omega) (by omega); omega
    · intro ⟨h1, h2⟩
      have k1 := hmono (i - a) a (by omega)
      have k2 := hmono (b - (i + 1)) (i + 1) (by omega)
      have e1 : a + (i - a) = i := by omega
      have e2 : i + 1 + (b - (i + 1)) = b := by omega
      rw [e1] at k1; rw [e2] at k2
      omega
  have key : ∀ n, n ≤ t.K → sumN (fun i => if t.ok k i = true then t.len i else 0) n = if n ≤ a then 0 else if n ≤ b then (t.at_ n : Int) - t.at_ a else (t.at_ b : Int) - t.at_ a := by
    intro n
    induction n with
    | zero => intro _; rw [if_pos (by omega)]; rfl
    | succ n ih =>
      intro hn
      rw [sumN_succ, ih (by omega)]
      have := hok n (by omega)
      by_cases c1 : n < a
      · have hno : ¬ t.ok k n = true := by rw [this]; omega
        rw [if_pos (show n ≤ a by omega), if_pos (show n + 1 ≤ a by omega), if_neg hno]; rfl
      · by_cases c2 : n < b
        · have hyes : t.ok k n = true := by rw [this]; omega
          rw [if_pos hyes, if_neg (show ¬ (n + 1 ≤ a) by omega), if_pos (show n + 1 ≤ b by omega)]
          unfold Tk.len
          by_cases c3 : n ≤ a
          · have : n = a := by omega
            subst this
            rw [if_pos (Nat.le_refl n)]; omega
          · rw [if_neg c3, if_pos (show n ≤ b by omega)]; omega
        · have hno : ¬ t.ok k n = true := by rw [this]; omega
          rw [if_neg hno, if_neg (show ¬ (n + 1 ≤ a) by omega), if_neg (show ¬ (n + 1 ≤ b) by omega)]
          by_cases c3 : n ≤ b
          · have : n = b := by omega
            subst this
            rw [if_neg (show ¬ (n ≤ a) by omega), if_pos (Nat.le_refl n)]; omega
          · rw [if_neg (show ¬ (n ≤ a) by omega), if_neg c3]; omega
  rw [key t.K (Nat.le_refl _), hra, hdb]
  rw [if_neg (by omega)]
  by_cases c : t.K ≤ b
  · have : t.K = b := by omega
    rw [if_pos c, this]
  · rw [if_neg c]


theorem sumN_zero_of {f : Nat → Int} {n : Nat} (h : ∀ i, i < n → f i = 0) : sumN f n = 0 := by
  rw [sumN_congr (g := fun _ => 0) h, sumN_const]; simp

theorem Tk.Good.mono {t : Tk} (h : t.Good) : ∀ (d i : Nat), i + d ≤ t.K → t.at_ i ≤ t.at_ (i + d)
  | 0, i, _ => Nat.le_refl _
  | d + 1, i, hi => by have := h.mono d i (by omega); have := h.cut (i + d) (by omega); show _ ≤ t.at_ (i + d + 1); omega
theorem Tk.Good.le {t : Tk} (h : t.Good) {i j : Nat} (hij : i ≤ j) (hj : j ≤ t.K) : t.at_ i ≤ t.at_ j := by
  have := h.mono (j - i) i (by omega)
  rwa [show i + (j - i) = j by omega] at this
theorem Tk.Good.lt_of {t : Tk} (h : t.Good) {i j : Nat} (hi : i ≤ t.K) (hl : t.at_ i < t.at_ j) : i < j := by
  apply Classical.byContradiction; intro hn
  have := h.le (show j ≤ i by omega) hi
  omega

theorem at_part {t : Tk} (h : t.Good) {k i j : Nat} (hk : k < t.m) (hi : i < t.K) (hj : j < t.at_ (i + 1) - t.at_ i) : (t.g k).at (t.at_ i + j) = t.ok k i := by
  obtain ⟨a, ha, hra⟩ := h.ready k hk
  obtain ⟨b, hb, hdb⟩ := h.due k hk
  have hc := h.cut i hi
  unfold J.at Tk.ok
  rw [hra, hdb]
  congr 1
  · apply decide_eq_decide.2
    constructor
    · intro h1
      have : a < i + 1 := h.lt_of ha (by omega)
      have := h.le (show a ≤ i by omega) (by omega)
      omega
    · intro h1; omega
  · apply decide_eq_decide.2
    constructor
    · intro h1
      have : i < b := h.lt_of (by omega) (by omega)
      have := h.le (show i + 1 ≤ b by omega) hb
      omega
    · intro h1; omega

theorem room_parts {t : Tk} (h : t.Good) (S : Nat → Bool) {M : Nat} (hM : t.at_ t.K ≤ M) : room t.B t.m t.g S M = sumN (fun i => t.len i * min t.B (sumN (fun k => one (S k && t.ok k i)) t.m)) t.K := by
  have hd : ∀ k, k < t.m → (t.g k).due ≤ (t.at_ t.K : Nat) := by
    intro k hk
    obtain ⟨b, hb, hdb⟩ := h.due k hk
    have := h.le hb (Nat.le_refl _)
    omega
  rw [room_long (by have := h.B; omega) hM hd]
  unfold room
  rw [sum_spans _ t.at_ t.K (fun k hk => by have := h.cut k hk; omega)]
  have h0 : sumN (fun u => min t.B (cov t.m t.g S u)) (t.at_ 0) = 0 := by
    apply sumN_zero_of
    intro u hu
    have : cov t.m t.g S u = 0 := by
      unfold cov
      apply sumN_zero_of
      intro k hk
      obtain ⟨a, ha, hra⟩ := h.ready k hk
      have := h.le (show 0 ≤ a by omega) ha
      have h2 : ¬ ((t.g k).ready ≤ (u : Int)) := by omega
      simp [J.at, h2, one]
    rw [this]; have := h.B; omega
  rw [h0, Int.zero_add]
  apply sumN_congr; intro i hi
  have e : sumN (fun j => min t.B (cov t.m t.g S (t.at_ i + j))) (t.at_ (i + 1) - t.at_ i) = sumN (fun _ => min t.B (sumN (fun k => one (S k && t.ok k i)) t.m)) (t.at_ (i + 1) - t.at_ i) := by
    apply sumN_congr; intro j hj
    congr 1
    unfold cov
    apply sumN_congr; intro k hk
    rw [at_part h hk hi hj]
  rw [e, sumN_const]
  have := h.cut i hi
  unfold Tk.len
  congr 1; omega

theorem cut_refused {t : Tk} (h : t.Good) (S T : Nat → Bool) {M : Nat} (hM : t.at_ t.K ≤ M)
    (hlt : sumN (fun i => if T i = true then t.B * t.len i else 0) t.K + sumN (fun k => if S k = true then sumN (fun i => if T i = true then 0 else (if t.ok k i = true then t.len i else 0)) t.K else 0) t.m
      < sumN (fun k => if S k = true then (t.g k).work else 0) t.m) : Refused t.B t.m t.g M := by
  refine ⟨S, ?_⟩
  rw [room_parts h S hM]
  refine Int.lt_of_le_of_lt ?_ hlt
  have e : sumN (fun k => if S k = true then sumN (fun i => if T i = true then 0 else (if t.ok k i = true then t.len i else 0)) t.K else 0) t.m
      = sumN (fun i => sumN (fun k => if T i = true then 0 else t.len i * one (S k && t.ok k i)) t.m) t.K := by
    rw [← sumN_swap]
    apply sumN_congr; intro k _
    by_cases hS : S k = true
    · rw [if_pos hS]
      apply sumN_congr; intro i _
      by_cases hT : T i = true
      · simp [hT]
      · by_cases ho : t.ok k i = true <;> simp [hT, hS, ho, one]
    · rw [if_neg hS]
      rw [sumN_zero_of]
      intro i _
      simp [hS, one]
  rw [e, ← sumN_add]
  apply sumN_le; intro i hi
  have hlen := h.len_pos hi
  by_cases hT : T i = true
  · simp only [hT, if_true]
    rw [sumN_const, Int.mul_comm t.B]
    have := Int.mul_le_mul_of_nonneg_left (Int.min_le_left t.B (sumN (fun k => one (S k && t.ok k i)) t.m)) (show 0 ≤ t.len i by omega)
    omega
  · have e2 : (if T i = true then t.B * t.len i else 0) = 0 := if_neg hT
    have e3 : sumN (fun k => if T i = true then 0 else t.len i * one (S k && t.ok k i)) t.m = t.len i * sumN (fun k => one (S k && t.ok k i)) t.m := by
      rw [← sumN_mul]
      apply sumN_congr; intro k _; rw [if_neg hT]
    show _ ≤ (if T i = true then t.B * t.len i else 0) + _
    rw [e2, e3, Int.zero_add]
    exact Int.mul_le_mul_of_nonneg_left (Int.min_le_right _ _) (by omega)

theorem short_refused {t : Tk} (h : t.Good) {M : Nat} (hM : t.at_ t.K ≤ M) (hf : (flowF t).1 ≠ workAll t) : Refused t.B t.m t.g M :=
  cut_refused h (nearJ t) (nearP t) hM (flow_short h hf)

theorem full_not {t : Tk} (h : t.Good) {M : Nat} (hM : t.at_ t.K ≤ M) {y : Nat → Nat → Int} (hy : Full t y) : ¬ Refused t.B t.m t.g M := by
  apply flow_not_refused t.at_ y (by have := h.B; omega) (fun k hk => by have := h.cut k hk; omega) hM hy.nonneg hy.le ?_ hy.room hy.work
  intro i k hi hk hne
  have := hy.ok i k hi hk hne
  simp only [Tk.ok, Bool.and_eq_true, decide_eq_true_eq] at this
  exact this

theorem flow_iff {t : Tk} (h : t.Good) {M : Nat} (hM : t.at_ t.K ≤ M) : (flowF t).1 = workAll t ↔ ¬ Refused t.B t.m t.g M := by
  constructor
  · intro hf; exact full_not h hM (flow_full h hf)
  · intro hn
    apply Classical.byContradiction; intro hf
    exact hn (short_refused h hM hf)

def lap (a b c d : Int) : Int := max 0 (min b d - max a c)

def chosen (p : Nat → Bool) : Nat → List Nat
  | 0 => []
  | n + 1 => if p n = true then chosen p n ++ [n] else chosen p n
def sumL {β : Type} (f : β → Int) : List β → Int
  | [] => 0
  | x :: l => f x + sumL f l
theorem sumL_append {β : Type} (f : β → Int) : ∀ l l' : List β, sumL f (l ++ l') = sumL f l + sumL f l'
  | [], l' => by simp [sumL]
  | x :: l, l' => by simp only [List.cons_append, sumL]; rw [sumL_append f l l']; omega
theorem sum_chosen (p : Nat → Bool) (f : Nat → Int) : ∀ n, sumL f (chosen p n) = sumN (fun i => if p i = true then f i else 0) n
  | 0 => rfl
  | n + 1 => by
    unfold chosen
    rw [sumN_succ]
    by_cases h : p n = true
    · rw [if_pos h, if_pos h, sumL_append, sum_chosen p f n]; simp [sumL]
    · rw [if_neg h, if_neg h, sum_chosen p f n]; omega
theorem mem_chosen {p : Nat → Bool} {i : Nat} : ∀ {n : Nat}, i ∈ chosen p n ↔ i < n ∧ p i = true
  | 0 => by simp [chosen]
  | n + 1 => by
    unfold chosen
    by_cases h : p n = true
    · rw [if_pos h, List.mem_append, mem_chosen]
      simp only [List.mem_singleton]
      constructor
      · rintro (h1 | rfl)
        · exact ⟨by omega, h1.2⟩
        · exact ⟨by omega, h⟩
      · intro h1
        by_cases e : i = n
        · exact Or.inr e
        · exact Or.inl ⟨by omega, h1.2⟩
    · rw [if_neg h, mem_chosen]
      constructor
      · intro h1; exact ⟨by omega, h1.2⟩
      · intro h1
        have : i ≠ n := fun e => h (e ▸ h1.2)
        exact ⟨by omega, h1.2⟩
theorem chosen_up (p : Nat → Bool) : ∀ n, (chosen p n).Pairwise (· < ·)
  | 0 => List.Pairwise.nil
  | n + 1 => by
    unfold chosen
    by_cases h : p n = true
    · rw [if_pos h, List.pairwise_append]
      refine ⟨chosen_up p n, by simp, ?_⟩
      intro a ha b hb
      simp at hb; subst hb
      exact (mem_chosen.1 ha).1
    · rw [if_neg h]; exact chosen_up p n
theorem chosen_len (p : Nat → Bool) : ∀ n, (chosen p n).length ≤ n
  | 0 => Nat.le_refl 0
  | n + 1 => by
    have := chosen_len p n
    unfold chosen
    split
    · rw [List.length_append, List.length_singleton]; omega
    · omega
theorem lap_part {t : Tk} (h : t.Good) {k i : Nat} (hk : k < t.m) (hi : i < t.K) : lap (t.g k).ready (t.g k).due (t.at_ i) (t.at_ (i + 1)) = if t.ok k i = true then t.len i else 0 := by
  obtain ⟨a, ha, hra⟩ := h.ready k hk
  obtain ⟨b, hb, hdb⟩ := h.due k hk
  have hc := h.cut i hi
  have hp := (h.pos k hk).1
  have hok : t.ok k i = true ↔ (t.at_ a : Int) ≤ t.at_ i ∧ (t.at_ (i + 1) : Int) ≤ t.at_ b := by
    simp only [Tk.ok, Bool.and_eq_true, decide_eq_true_eq, hra, hdb]
  rw [hra, hdb] at *
  unfold lap Tk.len
  by_cases e : t.ok k i = true
  · rw [if_pos e]
    have := hok.1 e; omega
  · rw [if_neg e]
    have hno : ¬ ((t.at_ a : Int) ≤ t.at_ i ∧ (t.at_ (i + 1) : Int) ≤ t.at_ b) := fun h' => e (hok.2 h')
    by_cases c1 : t.at_ a ≤ t.at_ i
    · have : t.at_ b < t.at_ (i + 1) := by omega
      have : b < i + 1 := h.lt_of hb this
      have := h.le (show b ≤ i by omega) (by omega)
      omega
    · have : i < a := h.lt_of (by omega) (by omega)
      have := h.le (show i + 1 ≤ a by omega) ha
      omega

theorem refusal_short {t : Tk} (h : t.Good) (hf : (flowF t).1 ≠ workAll t) :
    sumL (fun i => t.B * ((t.at_ (i + 1) : Int) - t.at_ i)) (chosen (nearP t) t.K) + sumL (fun k => (t.g k).due - (t.g k).ready - sumL (fun i => lap (t.g k).ready (t.g k).due (t.at_ i) (t.at_ (i + 1))) (chosen (nearP t) t.K)) (chosen (nearJ t) t.m)
      < sumL (fun k => (t.g k).work) (chosen (nearJ t) t.m) := by
  have h1 := flow_short h hf
  rw [sum_chosen, sum_chosen, sum_chosen]
  refine Int.lt_of_le_of_lt (Int.le_of_eq ?_) h1
  congr 1
  apply sumN_congr; intro k hk
  by_cases hS : nearJ t k = true
  · rw [if_pos hS, if_pos hS, sum_chosen, ← job_time h hk, ← sumN_sub]
    apply sumN_congr; intro i hi
    rw [lap_part h hk hi]
    by_cases hT : nearP t i = true
    · rw [if_pos hT, if_pos hT]; omega
    · rw [if_neg hT, if_neg hT]; omega
  · rw [if_neg hS, if_neg hS]

structure RefI (t : Tk) (u : Nat → Nat → Int) (left : Nat → Int) : Prop where
  nonneg : ∀ k i, k < t.m → i < t.K → 0 ≤ u k i
  le : ∀ k i, k < t.m → i < t.K → u k i ≤ t.len i
  ok : ∀ k i, k < t.m → i < t.K → u k i ≠ 0 → t.ok k i = true
  room : ∀ i, i < t.K → sumN (fun k => u k i) t.m ≤ t.B * t.len i
  left : ∀ k, k < t.m → left k = (t.g k).work - sumN (fun i => u k i) t.K ∧ 0 ≤ left k

theorem RefI.full {t : Tk} {u : Nat → Nat → Int} {left : Nat → Int} (h : RefI t u left) (h0 : ∀ k, k < t.m → left k = 0) : Full t u :=
  ⟨h.nonneg, h.le, h.ok, h.room, fun k hk => by have := h.left k hk; have := h0 k hk; omega⟩


def addU (u : Nat → Nat → Int) (i k : Nat) (n : Int) : Nat → Nat → Int := fun a b => if a = i ∧ b = k then u a b + n else u a b

structure RTree (t : Tk) (u : Nat → Nat → Int) (job : Nat) (by_ from_ : Nat → Option Nat) (rkS rkJ : Nat → Nat) : Prop where
  jobm : job < t.m
  byp : ∀ k i, by_ k = some i → k < t.K ∧ i < t.m ∧ (i = job ∨ (from_ i).isSome) ∧ t.ok i k = true ∧ u i k < t.len k ∧ rkJ i < rkS k
  fromp : ∀ i k, from_ i = some k → i ≠ job ∧ i < t.m ∧ (by_ k).isSome ∧ 0 < u i k ∧ rkS k < rkJ i

def gt (o : Option Nat) : Nat := o.getD 0

def rpush (by_ from_ : Nat → Option Nat) (job : Nat) (n : Int) : Nat → Nat → (Nat → Nat → Int) → Nat → Nat → Int
  | 0, _, u => u
  | f + 1, k, u => if gt (by_ k) = job then addU u (gt (by_ k)) k n
    else rpush by_ from_ job n f (gt (from_ (gt (by_ k)))) (addU (addU u (gt (by_ k)) k n) (gt (by_ k)) (gt (from_ (gt (by_ k)))) (-n))

def rmin (t : Tk) (u : Nat → Nat → Int) (by_ from_ : Nat → Option Nat) (job : Nat) : Nat → Nat → Int → Int
  | 0, _, n => n
  | f + 1, k, n => if gt (by_ k) = job then min n (t.len k - u (gt (by_ k)) k)
    else rmin t u by_ from_ job f (gt (from_ (gt (by_ k)))) (min (min n (t.len k - u (gt (by_ k)) k)) (u (gt (by_ k)) (gt (from_ (gt (by_ k))))))

theorem gt_some {o : Option Nat} (h : o.isSome) : o = some (gt o) := by cases o with
  | none => cases h
  | some x => rfl

variable {t : Tk} {u0 : Nat → Nat → Int} {job : Nat} {by_ from_ : Nat → Option Nat} {rkS rkJ : Nat → Nat}

theorem RTree.back (h : RTree t u0 job by_ from_ rkS rkJ) {k : Nat} (hk : (by_ k).isSome) : k < t.K ∧ gt (by_ k) < t.m ∧ t.ok (gt (by_ k)) k = true ∧ u0 (gt (by_ k)) k < t.len k ∧ rkJ (gt (by_ k)) < rkS k ∧
    (gt (by_ k) ≠ job → (by_ (gt (from_ (gt (by_ k))))).isSome ∧ 0 < u0 (gt (by_ k)) (gt (from_ (gt (by_ k)))) ∧ rkS (gt (from_ (gt (by_ k)))) < rkJ (gt (by_ k))) := by
  obtain ⟨h1, h2, h3, h4, h5, h6⟩ := h.byp k _ (gt_some hk)
  refine ⟨h1, h2, h4, h5, h6, fun hne => ?_⟩
  rcases h3 with e | e
  · exact absurd e hne
  · obtain ⟨k1, k2, k3, k4, k5⟩ := h.fromp _ _ (gt_some e)
    exact ⟨k3, k4, k5⟩

def PathLe (t : Tk) (u : Nat → Nat → Int) (by_ from_ : Nat → Option Nat) (job : Nat) (n : Int) : Nat → Nat → Prop
  | 0, _ => True
  | f + 1, k => n ≤ t.len k - u (gt (by_ k)) k ∧ (gt (by_ k) ≠ job → n ≤ u (gt (by_ k)) (gt (from_ (gt (by_ k)))) ∧ PathLe t u by_ from_ job n f (gt (from_ (gt (by_ k)))))

theorem PathLe.less {n n' : Int} (hn : n' ≤ n) : ∀ {f k : Nat}, PathLe t u0 by_ from_ job n f k → PathLe t u0 by_ from_ job n' f k
  | 0, _, _ => trivial
  | f + 1, k, h => ⟨by have := h.1; omega, fun e => ⟨by have := (h.2 e).1; omega, PathLe.less hn (h.2 e).2⟩⟩

theorem rmin_is (h : RTree t u0 job by_ from_ rkS rkJ) : ∀ (f k : Nat) (n : Int), (by_ k).isSome → 0 < n → rmin t u0 by_ from_ job f k n ≤ n ∧ 0 < rmin t u0 by_ from_ job f k n ∧ PathLe t u0 by_ from_ job (rmin t u0 by_ from_ job f k n) f k
  | 0, k, n, _, hn => ⟨Int.le_refl _, hn, trivial⟩
  | f + 1, k, n, hk, hn => by
    obtain ⟨h1, h2, h3, h4, h5, h6⟩ := h.back hk
    unfold rmin
    by_cases e : gt (by_ k) = job
    · rw [if_pos e]
      refine ⟨Int.min_le_left _ _, by omega, ?_, fun hne => absurd e hne⟩
      exact Int.min_le_right _ _
    · rw [if_neg e]
      obtain ⟨k1, k2, k3⟩ := h6 e
      obtain ⟨r1, r2, r3⟩ := rmin_is h f _ (min (min n (t.len k - u0 (gt (by_ k)) k)) (u0 (gt (by_ k)) (gt (from_ (gt (by_ k)))))) k1 (by omega)
      refine ⟨by omega, r2, ?_, fun _ => ⟨?_, r3⟩⟩
      · omega
      · omega

theorem sum_addU_row (u : Nat → Nat → Int) (i k : Nat) (n : Int) (a : Nat) (K : Nat) (hk : k < K) : sumN (fun b => addU u i k n a b) K = sumN (fun b => u a b) K + if a = i then n else 0 := by
  have e : sumN (fun b => addU u i k n a b) K = sumN (fun b => u a b + if a = i ∧ b = k then n else 0) K := by
    apply sumN_congr; intro b _; unfold addU; split <;> omega
  rw [e, sumN_add]
  congr 1
  rw [sumN_one k hk (fun b _ hb => if_neg (fun h => hb h.2))]
  by_cases e : a = i <;> simp [e]
theorem sum_addU_col (u : Nat → Nat → Int) (i k : Nat) (n : Int) (b : Nat) (m : Nat) (hi : i < m) : sumN (fun a => addU u i k n a b) m = sumN (fun a => u a b) m + if b = k then n else 0 := by
  have e : sumN (fun a => addU u i k n a b) m = sumN (fun a => u a b + if a = i ∧ b = k then n else 0) m := by
    apply sumN_congr; intro a _; unfold addU; split <;> omega
  rw [e, sumN_add]
  congr 1
  rw [sumN_one i hi (fun a _ ha => if_neg (fun h => ha h.1))]
  by_cases e : b = k <;> simp [e]

structure Pushed (t : Tk) (job k : Nat) (n : Int) (u u' : Nat → Nat → Int) : Prop where
  nonneg : ∀ i k, i < t.m → k < t.K → 0 ≤ u' i k
  le : ∀ i k, i < t.m → k < t.K → u' i k ≤ t.len k
  ok : ∀ i k, i < t.m → k < t.K → u' i k ≠ 0 → t.ok i k = true
  row : ∀ i, sumN (fun b => u' i b) t.K = sumN (fun b => u i b) t.K + if i = job then n else 0
  col : ∀ b, sumN (fun a => u' a b) t.m = sumN (fun a => u a b) t.m + if b = k then n else 0

theorem rpush_is (h : RTree t u0 job by_ from_ rkS rkJ) {n : Int} (hn : 0 < n) : ∀ (f k : Nat) (u : Nat → Nat → Int), (by_ k).isSome → rkS k ≤ f → PathLe t u0 by_ from_ job n f k →
    (∀ i b, rkS b ≤ rkS k → rkJ i < rkS k → u i b = u0 i b) →
    (∀ i k, i < t.m → k < t.K → 0 ≤ u i k) → (∀ i k, i < t.m → k < t.K → u i k ≤ t.len k) → (∀ i k, i < t.m → k < t.K → u i k ≠ 0 → t.ok i k = true) → (∀ i k, i < t.m → k < t.K → u0 i k ≠ 0 → t.ok i k = true) →
    Pushed t job k n u (rpush by_ from_ job n f k u)
  | 0, k, u, hk, hf, _, _, _, _, _, _ => by
    obtain ⟨h1, h2, h3, h4, h5, h6⟩ := h.back hk
    omega
  | f + 1, k, u, hk, hf, hp, hu, hnn, hle, hok, hok0 => by
    obtain ⟨h1, h2, h3, h4, h5, h6⟩ := h.back hk
    obtain ⟨p1, p2⟩ := hp
    unfold rpush
    have he := hu (gt (by_ k)) k (Nat.le_refl _) h5
    generalize gt (by_ k) = i at *
    have a1 : ∀ a b, a < t.m → b < t.K → 0 ≤ addU u i k n a b := by
      intro a b ha hb; unfold addU; have := hnn a b ha hb; split <;> omega
    have a2 : ∀ a b, a < t.m → b < t.K → addU u i k n a b ≤ t.len b := by
      intro a b ha hb; unfold addU; have := hle a b ha hb
      split
      · rename_i e; rw [e.1, e.2, he]; omega
      · omega
    have a3 : ∀ a b, a < t.m → b < t.K → addU u i k n a b ≠ 0 → t.ok a b = true := by
      intro a b ha hb hne
      by_cases e : a = i ∧ b = k
      · rw [e.1, e.2]; exact h3
      · unfold addU at hne; rw [if_neg e] at hne; exact hok a b ha hb hne
    by_cases e : i = job
    · rw [if_pos e]
      refine ⟨a1, a2, a3, ?_, ?_⟩
      · intro a; rw [sum_addU_row u i k n a t.K h1, e]
      · intro b; exact sum_addU_col u i k n b t.m h2
    · rw [if_neg e]
      obtain ⟨k1, k2, k3⟩ := h6 e
      obtain ⟨p3, p4⟩ := p2 e
      obtain ⟨b1, b2, b3, b4, b5, b6⟩ := h.back k1
      generalize gt (from_ i) = k2' at *
      have hkk : k2' ≠ k := fun e => by rw [e] at k3; omega
      have he2 : addU u i k n i k2' = u0 i k2' := by
        unfold addU
        rw [if_neg (fun e => hkk e.2)]
        exact hu i k2' (by omega) (by omega)
      obtain ⟨r1, r2, r3, r4, r5⟩ := rpush_is h hn f k2' (addU (addU u i k n) i k2' (-n)) k1 (by omega) p4
        (by
          intro a b hb ha
          unfold addU
          rw [if_neg (fun e => by rw [e.1] at ha; omega), if_neg (fun e => by rw [e.1] at ha; omega)]
          exact hu a b (by omega) (by omega))
        (by
          intro a b ha hb
          have := a1 a b ha hb
          show 0 ≤ (if a = i ∧ b = k2' then addU u i k n a b + -n else addU u i k n a b)
          split
          · rename_i e; rw [e.1, e.2, he2]; omega
          · exact this)
        (by
          intro a b ha hb
          have := a2 a b ha hb
          show (if a = i ∧ b = k2' then addU u i k n a b + -n else addU u i k n a b) ≤ _
          split <;> omega)
        (by
          intro a b ha hb hne
          by_cases e : a = i ∧ b = k2'
          · rw [e.1, e.2]; exact hok0 i k2' h2 b1 (by omega)
          · apply a3 a b ha hb
            intro hz
            apply hne
            show (if a = i ∧ b = k2' then addU u i k n a b + -n else addU u i k n a b) = 0
            rw [if_neg e]; exact hz)
        hok0
      refine ⟨r1, r2, r3, ?_, ?_⟩
      · intro a
        rw [r4 a, sum_addU_row _ i k2' (-n) a t.K b1, sum_addU_row u i k n a t.K h1]
        split <;> split <;> omega
      · intro b
        rw [r5 b, sum_addU_col _ i k2' (-n) b t.m h2, sum_addU_col u i k n b t.m h2]
        by_cases c1 : b = k2'
        · rw [if_pos c1, if_pos c1, if_neg (fun e => hkk (c1.symm.trans e))]; omega
        · rw [if_neg c1, if_neg c1]; omega

theorem RefI.push {u : Nat → Nat → Int} {left : Nat → Int} (hR : RefI t u left) (h : RTree t u job by_ from_ rkS rkJ) {k f : Nat} {r n : Int} (hk : (by_ k).isSome) (hf : rkS k ≤ f) (hr : 0 < r) (hroom : sumN (fun a => u a k) t.m + r ≤ t.B * t.len k) (hl : 0 < left job)
    (hn : n = min (rmin t u by_ from_ job f k r) (left job)) :
    0 < n ∧ n ≤ left job ∧ RefI t (rpush by_ from_ job n f k u) (fun i => if i = job then left i - n else left i) := by
  obtain ⟨m1, m2, m3⟩ := rmin_is h f k r hk hr
  have hn0 : 0 < n := by omega
  obtain ⟨r1, r2, r3, r4, r5⟩ := rpush_is h hn0 f k u hk hf (PathLe.less (by omega) m3) (fun _ _ _ _ => rfl) hR.nonneg hR.le hR.ok hR.ok
  refine ⟨hn0, by omega, r1, r2, r3, ?_, ?_⟩
  · intro i hi
    rw [r5 i]
    have := hR.room i hi
    split
    · rename_i e; subst e; omega
    · omega
  · intro i hi
    have := hR.left i hi
    rw [r4 i]
    by_cases e : i = job
    · rw [if_pos e, if_pos e]; subst e; omega
    · rw [if_neg e, if_neg e]; omega

def RS (job : Nat) (from_ : Nat → Option Nat) (i : Nat) : Prop := i = job ∨ (from_ i).isSome

structure MInv (t : Tk) (u : Nat → Nat → Int) (job : Nat) (by_ from_ : Nat → Option Nat) (queue : List Nat) (q k : Nat) (ex : Option (Nat × Nat)) : Prop where
  tree : ∃ rkS rkJ b, RTree t u job by_ from_ rkS rkJ ∧ (∀ k, (by_ k).isSome → rkS k < b) ∧ ∀ i, RS job from_ i → rkJ i < b
  qS : ∀ i, i ∈ queue ↔ RS job from_ i
  len : queue.length = reach (setW from_ job 0) t.m
  sat : ∀ k', (by_ k').isSome → (∀ p, ex = some p → p.1 ≠ k') → sumN (fun a => u a k') t.m = t.B * t.len k' ∧ ∀ j, j < t.m → 0 < u j k' → RS job from_ j
  ex : ∀ p, ex = some p → (by_ p.1).isSome ∧ sumN (fun a => u a p.1) t.m = t.B * t.len p.1 ∧ ∀ j, j < p.2 → 0 < u j p.1 → RS job from_ j
  done : ∀ (p : Nat) (i k' : Nat), queue[p]? = some i → (p < q ∨ (p = q ∧ k' < k)) → k' < t.K → t.ok i k' = true → u i k' < t.len k' → (by_ k').isSome

theorem MInv.lt {queue : List Nat} {q k : Nat} {ex : Option (Nat × Nat)} (h : MInv t u0 job by_ from_ queue q k ex) {i : Nat} (hi : i ∈ queue) : i < t.m := by
  obtain ⟨rkS, rkJ, b, hT, _, _⟩ := h.tree
  rcases (h.qS i).1 hi with e | e
  · rw [e]; exact hT.jobm
  · exact (hT.fromp _ _ (gt_some e)).2.1

theorem MInv.start (hj : job < t.m) (u : Nat → Nat → Int) : MInv t u job (fun _ => none) (fun _ => none) [job] 0 0 none := by
  refine ⟨⟨fun _ => 0, fun _ => 0, 1, ⟨hj, (fun _ _ h => by cases h), (fun _ _ h => by cases h)⟩, (fun _ h => by cases h), fun _ _ => Nat.zero_lt_one⟩, ?_, ?_, (fun _ h => by cases h), (fun _ h => by cases h), ?_⟩
  · intro i; simp [RS]
  · rw [reach_set _ rfl, if_pos hj]
    have h0 : ∀ n, reach (fun _ => none) n = 0 := by intro n; induction n with
      | zero => rfl
      | succ n ih => unfold reach; rw [ih]; rfl
    rw [h0]; rfl
  · intro p i k' hp hor
    omega

theorem MInv.skip {queue : List Nat} {q k i : Nat} (h : MInv t u0 job by_ from_ queue q k none) (hq : queue[q]? = some i) (hc : (by_ k).isSome ∨ t.ok i k = false ∨ t.len k ≤ u0 i k) : MInv t u0 job by_ from_ queue q (k + 1) none := by
  refine ⟨h.tree, h.qS, h.len, h.sat, h.ex, ?_⟩
  intro p i' k' hp hor hk ho hu
  by_cases e : p = q ∧ k' = k
  · obtain ⟨rfl, rfl⟩ := e
    obtain rfl : i = i' := by rw [hq] at hp; exact Option.some.inj hp
    rcases hc with c | c | c
    · exact c
    · rw [ho] at c; cases c
    · omega
  · exact h.done p i' k' hp (by omega) hk ho hu

theorem MInv.next {queue : List Nat} {q k : Nat} (h : MInv t u0 job by_ from_ queue q k none) (hk : t.K ≤ k) : MInv t u0 job by_ from_ queue (q + 1) 0 none :=
  ⟨h.tree, h.qS, h.len, h.sat, h.ex, fun p i k' hp hor hk' ho hu => h.done p i k' hp (by omega) hk' ho hu⟩

theorem MInv.reach {queue : List Nat} {q k i : Nat} (h : MInv t u0 job by_ from_ queue q k none) (hq : queue[q]? = some i) (hk : k < t.K) (hb : by_ k = none) (ho : t.ok i k = true) (hu : u0 i k < t.len k) :
    ∃ rkS rkJ, RTree t u0 job (setW by_ k i) from_ rkS rkJ ∧ ∃ b, rkS k < b + 1 ∧ (∀ k', (setW by_ k i k').isSome → rkS k' < b + 1) ∧ ∀ i, RS job from_ i → rkJ i < b := by
  obtain ⟨rkS, rkJ, b, hT, h1, h2⟩ := h.tree
  have him : i ∈ queue := List.mem_of_getElem? hq
  have hi := h.lt him
  have hS := (h.qS i).1 him
  refine ⟨fun x => if x = k then b else rkS x, rkJ, ⟨hT.jobm, ?_, ?_⟩, b, by simp, ?_, h2⟩
  · intro k' i' hk'
    by_cases e : k' = k
    · subst e
      rw [setW_same] at hk'
      obtain rfl := Option.some.inj hk'
      exact ⟨hk, hi, hS, ho, hu, by rw [if_pos rfl]; exact h2 _ hS⟩
    · rw [setW_other _ e] at hk'
      obtain ⟨c1, c2, c3, c4, c5, c6⟩ := hT.byp k' i' hk'
      exact ⟨c1, c2, c3, c4, c5, by rw [if_neg e]; exact c6⟩
  · intro i' k' hf
    obtain ⟨c1, c2, c3, c4, c5⟩ := hT.fromp i' k' hf
    have e : k' ≠ k := fun e => by rw [e, hb] at c3; cases c3
    exact ⟨c1, c2, by rw [setW_other _ e]; exact c3, c4, by rw [if_neg e]; exact c5⟩
  · intro k' hk'
    by_cases e : k' = k
    · simp only [if_pos e]; omega
    · simp only [if_neg e]
      rw [setW_other _ e] at hk'
      have := h1 k' hk'; omega

theorem MInv.full {queue : List Nat} {q k i : Nat} (h : MInv t u0 job by_ from_ queue q k none) (hq : queue[q]? = some i) (hk : k < t.K) (hb : by_ k = none) (ho : t.ok i k = true) (hu : u0 i k < t.len k) (hs : sumN (fun a => u0 a k) t.m = t.B * t.len k) :
    MInv t u0 job (setW by_ k i) from_ queue q (k + 1) (some (k, 0)) := by
  obtain ⟨rkS, rkJ, hT, b, _, h1, h2⟩ := h.reach hq hk hb ho hu
  refine ⟨⟨rkS, rkJ, b + 1, hT, h1, fun i hi => by have := h2 i hi; omega⟩, h.qS, h.len, ?_, ?_, ?_⟩
  · intro k' hk' he
    have e : k' ≠ k := fun e => he (k, 0) rfl e.symm
    rw [setW_other _ e] at hk'
    exact h.sat k' hk' (fun _ h => by cases h)
  · intro p hp
    obtain rfl := Option.some.inj hp
    exact ⟨by rw [setW_same]; rfl, hs, fun j hj => absurd hj (Nat.not_lt_zero _)⟩
  · intro p i' k' hp hor hk' ho' hu'
    by_cases e : k' = k
    · rw [e, setW_same]; rfl
    · rw [setW_other _ e]
      exact h.done p i' k' hp (by omega) hk' ho' hu'

theorem MInv.look {queue : List Nat} {q k k0 j : Nat} (h : MInv t u0 job by_ from_ queue q k (some (k0, j))) (hj : j < t.m) (hc : ¬ (j ≠ job ∧ from_ j = none ∧ 0 < u0 j k0)) : MInv t u0 job by_ from_ queue q k (some (k0, j + 1)) := by
  refine ⟨h.tree, h.qS, h.len, ?_, ?_, h.done⟩
  · intro k' hk' he
    exact h.sat k' hk' (fun p hp => by obtain rfl := Option.some.inj hp; exact he (k0, j + 1) rfl)
  · intro p hp
    obtain rfl := Option.some.inj hp
    obtain ⟨h1, h2, h3⟩ := h.ex (k0, j) rfl
    refine ⟨h1, h2, fun i hi hu => ?_⟩
    by_cases e : i = j
    · subst e
      apply Classical.byContradiction; intro hn
      apply hc
      refine ⟨fun e => hn (Or.inl e), ?_, hu⟩
      cases ef : from_ i with
      | none => rfl
      | some z => exact absurd (Or.inr (by rw [ef]; rfl)) hn
    · exact h3 i (by simp only at hi ⊢; omega) hu

theorem MInv.take {queue : List Nat} {q k k0 j : Nat} (h : MInv t u0 job by_ from_ queue q k (some (k0, j))) (hj : j < t.m) (hne : j ≠ job) (hf : from_ j = none) (hu : 0 < u0 j k0) (hqq : q < queue.length) : MInv t u0 job by_ (setW from_ j k0) (queue ++ [j]) q k (some (k0, j + 1)) := by
  have hmono : ∀ i, RS job from_ i → RS job (setW from_ j k0) i := by
    intro i hi
    rcases hi with e | e
    · exact Or.inl e
    · by_cases e2 : i = j
      · rw [e2, hf] at e; cases e
      · exact Or.inr (by rw [setW_other _ e2]; exact e)
  obtain ⟨x1, x2, x3⟩ := h.ex (k0, j) rfl
  have hnew : RS job (setW from_ j k0) j := Or.inr (by rw [setW_same]; rfl)
  refine ⟨?_, ?_, ?_, ?_, ?_, ?_⟩
  · obtain ⟨rkS, rkJ, b, hT, h1, h2⟩ := h.tree
    refine ⟨rkS, fun i => if i = j then b else rkJ i, b + 1, ⟨hT.jobm, ?_, ?_⟩, fun k hk => by have := h1 k hk; omega, ?_⟩
    · intro k' i hk'
      obtain ⟨c1, c2, c3, c4, c5, c6⟩ := hT.byp k' i hk'
      have e : i ≠ j := fun e => by
        rcases c3 with e2 | e2
        · exact hne (e ▸ e2)
        · rw [e, hf] at e2; cases e2
      exact ⟨c1, c2, hmono i c3, c4, c5, by rw [if_neg e]; exact c6⟩
    · intro i k' hk'
      by_cases e : i = j
      · subst e
        rw [setW_same] at hk'
        obtain rfl := Option.some.inj hk'
        exact ⟨hne, hj, x1, hu, by rw [if_pos rfl]; exact h1 _ x1⟩
      · rw [setW_other _ e] at hk'
        obtain ⟨c1, c2, c3, c4, c5⟩ := hT.fromp i k' hk'
        exact ⟨c1, c2, c3, c4, by rw [if_neg e]; exact c5⟩
    · intro i hi
      by_cases e : i = j
      · simp only [if_pos e]; omega
      · simp only [if_neg e]
        have : RS job from_ i := by
          rcases hi with e2 | e2
          · exact Or.inl e2
          · rw [setW_other _ e] at e2; exact Or.inr e2
        have := h2 i this; omega
  · intro i
    rw [List.mem_append, List.mem_singleton, h.qS i]
    constructor
    · rintro (e | rfl)
      · exact hmono i e
      · exact hnew
    · intro hi
      by_cases e : i = j
      · exact Or.inr e
      · left
        rcases hi with e2 | e2
        · exact Or.inl e2
        · rw [setW_other _ e] at e2; exact Or.inr e2
  · rw [List.length_append, List.length_singleton, h.len]
    have e : setW (setW from_ j k0) job 0 = setW (setW from_ job 0) j k0 := by
      funext x
      unfold setW
      by_cases e1 : x = job
      · rw [if_pos e1, if_neg (fun e => hne (e.symm.trans e1)), if_pos e1]
      · rw [if_neg e1, if_neg e1]
    rw [e, reach_set (setW from_ job 0) (u := j) (v := k0) (by rw [setW_other _ hne]; exact hf), if_pos hj]
  · intro k' hk' he
    obtain ⟨c1, c2⟩ := h.sat k' hk' (fun p hp => by obtain rfl := Option.some.inj hp; exact he (k0, j + 1) rfl)
    exact ⟨c1, fun i hi hu => hmono i (c2 i hi hu)⟩
  · intro p hp
    obtain rfl := Option.some.inj hp
    refine ⟨x1, x2, fun i hi hu => ?_⟩
    by_cases e : i = j
    · rw [e]; exact hnew
    · exact hmono i (x3 i (by simp only at hi ⊢; omega) hu)
  · intro p i k' hp hor hk' ho hu'
    have hpl : p < queue.length := by omega
    rw [List.getElem?_append_left hpl] at hp
    exact h.done p i k' hp hor hk' ho hu'

theorem MInv.looked {queue : List Nat} {q k k0 j : Nat} (h : MInv t u0 job by_ from_ queue q k (some (k0, j))) (hj : t.m ≤ j) : MInv t u0 job by_ from_ queue q k none := by
  refine ⟨h.tree, h.qS, h.len, ?_, (fun _ h => by cases h), h.done⟩
  intro k' hk' _
  by_cases e : k' = k0
  · subst e
    obtain ⟨x1, x2, x3⟩ := h.ex (k', j) rfl
    exact ⟨x2, fun i hi hu => x3 i (by simp only; omega) hu⟩
  · exact h.sat k' hk' (fun p hp => by obtain rfl := Option.some.inj hp; exact fun e2 => e e2.symm)


def jobW (k : Nat) (fr til : Int) : Nat → Int → Nat → Int → List Sl × Nat × Int
  | 0, _, b, a => ([], b, a)
  | f + 1, w, b, a => if 0 < w then
      (⟨k, b, a, a + min w (til - a)⟩ :: (if a + min w (til - a) = til then jobW k fr til f (w - min w (til - a)) (b + 1) fr else jobW k fr til f (w - min w (til - a)) b (a + min w (til - a))).1,
        (if a + min w (til - a) = til then jobW k fr til f (w - min w (til - a)) (b + 1) fr else jobW k fr til f (w - min w (til - a)) b (a + min w (til - a))).2)
    else ([], b, a)

def wrapK (y : Nat → Int) (fr til : Int) : Nat → List Sl × Nat × Int
  | 0 => ([], 0, fr)
  | k + 1 => ((wrapK y fr til k).1 ++ (jobW k fr til 2 (y k) (wrapK y fr til k).2.1 (wrapK y fr til k).2.2).1, (jobW k fr til 2 (y k) (wrapK y fr til k).2.1 (wrapK y fr til k).2.2).2)

def Sl.lo (s : Sl) (fr til : Int) : Int := s.bench * (til - fr) + (s.fr - fr)
def Sl.hi (s : Sl) (fr til : Int) : Int := s.bench * (til - fr) + (s.til - fr)

def Clash (s s' : Sl) : Prop := (s.job = s'.job ∨ s.bench = s'.bench) → s.til ≤ s'.fr ∨ s'.til ≤ s.fr
theorem Clash.symm {s s' : Sl} (h : Clash s s') : Clash s' s := fun e => (h (e.elim (fun e => Or.inl e.symm) (fun e => Or.inr e.symm))).symm

def slotSum (k : Nat) : List Sl → Int
  | [] => 0
  | s :: l => (if s.job = k then s.til - s.fr else 0) + slotSum k l
theorem slotSum_append (k : Nat) : ∀ l l' : List Sl, slotSum k (l ++ l') = slotSum k l + slotSum k l'
  | [], l' => by simp [slotSum]
  | s :: l, l' => by simp only [List.cons_append, slotSum]; rw [slotSum_append k l l']; omega
theorem slotSum_none {k : Nat} : ∀ {l : List Sl}, (∀ s, s ∈ l → s.job ≠ k) → slotSum k l = 0
  | [], _ => rfl
  | s :: l, h => by unfold slotSum; rw [slotSum_none fun s hs => h s (List.mem_cons_of_mem _ hs), if_neg (h s (by simp))]; rfl

structure Lay (fr til lo hi : Int) (l : List Sl) : Prop where
  each : ∀ s, s ∈ l → fr ≤ s.fr ∧ s.fr < s.til ∧ s.til ≤ til ∧ lo ≤ s.lo fr til ∧ s.hi fr til ≤ hi
  clash : l.Pairwise Clash

structure JobW (k : Nat) (fr til w : Int) (b : Nat) (a : Int) (r : List Sl × Nat × Int) : Prop where
  lay : Lay fr til (b * (til - fr) + (a - fr)) (b * (til - fr) + (a - fr) + w) r.1
  pos : r.2.1 * (til - fr) + (r.2.2 - fr) = b * (til - fr) + (a - fr) + w
  at_ : fr ≤ r.2.2 ∧ r.2.2 < til
  job : ∀ s, s ∈ r.1 → s.job = k
  sum : slotSum k r.1 = w
  len : r.1.length ≤ 2

theorem jobW_is {k : Nat} {fr til w : Int} {b : Nat} {a : Int} (hw : 0 ≤ w) (hl : w ≤ til - fr) (ha : fr ≤ a) (hb : a < til) : JobW k fr til w b a (jobW k fr til 2 w b a) := by
  have hc : (((b + 1 : Nat) : Int)) * (til - fr) = b * (til - fr) + (til - fr) := by push_cast; rw [Int.add_mul, Int.one_mul]
  by_cases e0 : 0 < w
  · by_cases e1 : w < til - a
    · have em : min w (til - a) = w := by omega
      have er : jobW k fr til 2 w b a = ([⟨k, b, a, a + w⟩], b, a + w) := by
        unfold jobW
        rw [if_pos e0, em, if_neg (by omega)]
        unfold jobW
        rw [if_neg (by omega)]
      rw [er]
      refine ⟨⟨?_, ?_⟩, ?_, ?_, ?_, ?_, ?_⟩
      · intro s hs; simp at hs; subst hs; simp only [Sl.lo, Sl.hi]; omega
      · simp
      · simp only; omega
      · simp only; omega
      · intro s hs; simp at hs; subst hs; rfl
      · simp [slotSum]; omega
      · simp
    · by_cases e2 : w = til - a
      · have em : min w (til - a) = w := by omega
        have er : jobW k fr til 2 w b a = ([⟨k, b, a, a + w⟩], b + 1, fr) := by
          unfold jobW
          rw [if_pos e0, em, if_pos (by omega)]
          unfold jobW
          rw [if_neg (by omega)]
        rw [er]
        refine ⟨⟨?_, ?_⟩, ?_, ?_, ?_, ?_, ?_⟩
        · intro s hs; simp at hs; subst hs; simp only [Sl.lo, Sl.hi]; omega
        · simp
        · simp only; omega
        · simp only; omega
        · intro s hs; simp at hs; subst hs; rfl
        · simp [slotSum]; omega
        · simp
      · have em : min w (til - a) = til - a := by omega
        have em2 : min (w - (til - a)) (til - fr) = w - (til - a) := by omega
        have er : jobW k fr til 2 w b a = ([⟨k, b, a, a + (til - a)⟩, ⟨k, b + 1, fr, fr + (w - (til - a))⟩], b + 1, fr + (w - (til - a))) := by
          unfold jobW
          rw [if_pos e0, em, if_pos (by omega)]
          unfold jobW
          rw [if_pos (by omega), em2, if_neg (by omega)]
          simp only [jobW]
        rw [er]
        refine ⟨⟨?_, ?_⟩, ?_, ?_, ?_, ?_, ?_⟩
        · intro s hs
          simp only [List.mem_cons, List.not_mem_nil, or_false] at hs
          rcases hs with rfl | rfl <;> simp only [Sl.lo, Sl.hi] <;> omega
        · simp only [List.pairwise_cons, List.mem_cons, List.not_mem_nil, or_false, false_implies, implies_true, List.Pairwise.nil, and_true, forall_eq]
          intro _
          right
          simp only; omega
        · simp only; omega
        · simp only; omega
        · intro s hs
          simp only [List.mem_cons, List.not_mem_nil, or_false] at hs
          rcases hs with rfl | rfl <;> rfl
        · simp [slotSum]; omega
        · simp
  · have er : jobW k fr til 2 w b a = ([], b, a) := by
      unfold jobW
      rw [if_neg e0]
    rw [er]
    refine ⟨⟨?_, ?_⟩, ?_, ?_, ?_, ?_, ?_⟩
    · intro s hs; cases hs
    · simp
    · simp only; omega
    · simp only; omega
    · intro s hs; cases hs
    · simp [slotSum]; omega
    · simp

structure WrapK (y : Nat → Int) (fr til : Int) (k : Nat) (r : List Sl × Nat × Int) : Prop where
  lay : Lay fr til 0 (sumN y k) r.1
  pos : r.2.1 * (til - fr) + (r.2.2 - fr) = sumN y k
  at_ : fr ≤ r.2.2 ∧ r.2.2 < til
  job : ∀ s, s ∈ r.1 → s.job < k ∧ y s.job ≠ 0
  sum : ∀ j, j < k → slotSum j r.1 = y j
  len : r.1.length ≤ 2 * k

theorem same_bench {fr til : Int} {s s' : Sl} (h : s.hi fr til ≤ s'.lo fr til) (hb : s.bench = s'.bench) : s.til ≤ s'.fr := by
  unfold Sl.hi Sl.lo at h
  rw [hb] at h; omega

theorem slotSum_pos {k : Nat} : ∀ {l : List Sl}, (∀ s, s ∈ l → s.fr < s.til) → ∀ s, s ∈ l → s.job = k → 0 < slotSum k l
  | [], _, s, hs, _ => by cases hs
  | x :: l, h, s, hs, hk => by
    have hx := h x (by simp)
    have hnn : 0 ≤ slotSum k l := by
      by_cases e : ∃ s, s ∈ l ∧ s.job = k
      · obtain ⟨s, h1, h2⟩ := e
        exact Int.le_of_lt (slotSum_pos (fun s hs => h s (List.mem_cons_of_mem _ hs)) s h1 h2)
      · rw [slotSum_none fun s hs hk => e ⟨s, hs, hk⟩]; exact Int.le_refl _
    unfold slotSum
    rcases List.mem_cons.1 hs with e | e
    · subst e; rw [if_pos hk]; omega
    · have := slotSum_pos (fun s hs => h s (List.mem_cons_of_mem _ hs)) s e hk
      split <;> omega

theorem wrapK_is {y : Nat → Int} {fr til : Int} (h : fr < til) : ∀ k, (∀ j, j < k → 0 ≤ y j ∧ y j ≤ til - fr) → WrapK y fr til k (wrapK y fr til k)
  | 0, _ => by
    refine ⟨⟨?_, ?_⟩, ?_, ?_, ?_, ?_, ?_⟩
    · intro s hs; cases hs
    · exact List.Pairwise.nil
    · simp [wrapK, sumN]
    · simp only [wrapK]; omega
    · intro s hs; cases hs
    · intro j hj; omega
    · simp [wrapK]
  | k + 1, hy => by
    have ih := wrapK_is h k fun j hj => hy j (by omega)
    have hk := jobW_is (k := k) (b := (wrapK y fr til k).2.1) (hy k (by omega)).1 (hy k (by omega)).2 ih.at_.1 ih.at_.2
    unfold wrapK
    generalize jobW k fr til 2 (y k) (wrapK y fr til k).2.1 (wrapK y fr til k).2.2 = r at *
    generalize wrapK y fr til k = p at *
    have hpos := hk.pos
    have hlay := hk.lay
    rw [ih.pos] at hpos hlay
    have h0 : ∀ j, j < k → 0 ≤ y j := fun j hj => (hy j (by omega)).1
    have hs0 := sumN_nonneg (f := y) (n := k) h0
    refine ⟨⟨?_, ?_⟩, ?_, hk.at_, ?_, ?_, ?_⟩
    · intro s hs
      rw [sumN_succ]
      have hyk := (hy k (by omega)).1
      rcases List.mem_append.1 hs with e | e
      · have := ih.lay.each s e
        omega
      · have := hlay.each s e
        omega
    · rw [List.pairwise_append]
      refine ⟨ih.lay.clash, hk.lay.clash, ?_⟩
      intro s hs s' hs' hc
      have h1 := ih.lay.each s hs
      have h2 := hlay.each s' hs'
      have h3 := (ih.job s hs).1
      have h4 := hk.job s' hs'
      rcases hc with e | e
      · omega
      · left; exact same_bench (fr := fr) (til := til) (by omega) e
    · rw [hpos, sumN_succ]
    · intro s hs
      rcases List.mem_append.1 hs with e | e
      · have := ih.job s e; exact ⟨by omega, this.2⟩
      · have h1 := hk.job s e
        refine ⟨by omega, ?_⟩
        rw [h1]
        have := slotSum_pos (k := k) (fun s hs => (hk.lay.each s hs).2.1) s e h1
        rw [hk.sum] at this; omega
    · intro j hj
      rw [slotSum_append]
      by_cases e : j = k
      · subst e
        rw [hk.sum, slotSum_none (fun s hs => by have := (ih.job s hs).1; omega)]; omega
      · rw [ih.sum j (by omega), slotSum_none (fun s hs => by have := hk.job s hs; omega)]; omega
    · rw [List.length_append]
      have := ih.len
      have := hk.len
      omega

def partW (t : Tk) (y : Nat → Nat → Int) (i : Nat) : List Sl := (wrapK (fun k => y k i) (t.at_ i) (t.at_ (i + 1)) t.m).1
def slotsW (t : Tk) (y : Nat → Nat → Int) : Nat → List Sl
  | 0 => []
  | i + 1 => slotsW t y i ++ partW t y i

structure SchedL (t : Tk) (l : List Sl) : Prop where
  each : ∀ s, s ∈ l → s.job < t.m ∧ (s.bench : Int) < t.B ∧ s.fr < s.til ∧ (t.g s.job).ready ≤ s.fr ∧ s.til ≤ (t.g s.job).due
  clash : l.Pairwise Clash
  work : ∀ k, k < t.m → slotSum k l = (t.g k).work

theorem bench_lt {b : Nat} {B L x : Int} (hL : 0 < L) (hx : 0 < x) (h : b * L + x ≤ B * L) : (b : Int) < B := by
  apply Classical.byContradiction; intro hn
  have : B * L ≤ b * L := Int.mul_le_mul_of_nonneg_right (by omega) (by omega)
  omega

theorem part_is {t : Tk} (h : t.Good) {y : Nat → Nat → Int} (hy : Full t y) {i : Nat} (hi : i < t.K) : WrapK (fun k => y k i) (t.at_ i) (t.at_ (i + 1)) t.m (wrapK (fun k => y k i) (t.at_ i) (t.at_ (i + 1)) t.m) := by
  have hc := h.cut i hi
  apply wrapK_is (by omega)
  intro k hk
  exact ⟨hy.nonneg k i hk hi, hy.le k i hk hi⟩

theorem slots_is {t : Tk} (h : t.Good) {y : Nat → Nat → Int} (hy : Full t y) : ∀ n, n ≤ t.K →
    (∀ s, s ∈ slotsW t y n → s.job < t.m ∧ (s.bench : Int) < t.B ∧ s.fr < s.til ∧ (t.g s.job).ready ≤ s.fr ∧ s.til ≤ (t.g s.job).due ∧ s.til ≤ t.at_ n) ∧
    (slotsW t y n).Pairwise Clash ∧ (∀ k, k < t.m → slotSum k (slotsW t y n) = sumN (fun i => y k i) n) ∧ (slotsW t y n).length ≤ 2 * t.m * n
  | 0, _ => ⟨(fun _ h => by cases h), List.Pairwise.nil, (fun _ _ => rfl), Nat.zero_le _⟩
  | n + 1, hn => by
    obtain ⟨h1, h2, h3, h4⟩ := slots_is h hy n (by omega)
    have hp := part_is h hy (show n < t.K by omega)
    have hcut := h.cut n (by omega)
    have hp2 : ∀ s, s ∈ partW t y n → s.job < t.m ∧ (s.bench : Int) < t.B ∧ s.fr < s.til ∧ (t.g s.job).ready ≤ s.fr ∧ s.til ≤ (t.g s.job).due ∧ (t.at_ n : Int) ≤ s.fr ∧ s.til ≤ t.at_ (n + 1) := by
      intro s hs
      have k1 := hp.lay.each s hs
      obtain ⟨k2, k3⟩ := hp.job s hs
      have k4 := hy.ok s.job n k2 (by omega) k3
      have k5 := hy.room n (by omega)
      simp only [Tk.ok, Bool.and_eq_true, decide_eq_true_eq] at k4
      refine ⟨k2, ?_, k1.2.1, by omega, by omega, k1.1, k1.2.2.1⟩
      have k6 := k1.2.2.2.2
      unfold Sl.hi at k6
      unfold Tk.len at k5
      exact bench_lt (L := (t.at_ (n + 1) : Int) - t.at_ n) (x := s.til - t.at_ n) (by omega) (by omega) (by omega)
    refine ⟨?_, ?_, ?_, ?_⟩
    · intro s hs
      rcases List.mem_append.1 hs with e | e
      · have := h1 s e
        exact ⟨this.1, this.2.1, this.2.2.1, this.2.2.2.1, this.2.2.2.2.1, by omega⟩
      · have := hp2 s e
        exact ⟨this.1, this.2.1, this.2.2.1, this.2.2.2.1, this.2.2.2.2.1, this.2.2.2.2.2.2⟩
    · show (slotsW t y n ++ partW t y n).Pairwise Clash
      rw [List.pairwise_append]
      refine ⟨h2, hp.lay.clash, ?_⟩
      intro s hs s' hs' _
      have k1 := (h1 s hs).2.2.2.2.2
      have k2 := (hp2 s' hs').2.2.2.2.2.1
      left; omega
    · intro k hk
      show slotSum k (slotsW t y n ++ partW t y n) = _
      rw [slotSum_append, h3 k hk, sumN_succ]
      congr 1
      exact hp.sum k hk
    · show (slotsW t y n ++ partW t y n).length ≤ _
      rw [List.length_append, Nat.mul_succ]
      have : (partW t y n).length ≤ 2 * t.m := hp.len
      omega

theorem slots_sched {t : Tk} (h : t.Good) {y : Nat → Nat → Int} (hy : Full t y) : SchedL t (slotsW t y t.K) ∧ (slotsW t y t.K).length ≤ 2 * t.m * t.K := by
  obtain ⟨h1, h2, h3, h4⟩ := slots_is h hy t.K (Nat.le_refl _)
  refine ⟨⟨?_, h2, ?_⟩, h4⟩
  · intro s hs
    have := h1 s hs
    exact ⟨this.1, this.2.1, this.2.2.1, this.2.2.2.1, this.2.2.2.2.1⟩
  · intro k hk
    rw [h3 k hk]
    exact hy.work k hk

theorem slotSum_perm {k : Nat} {l l' : List Sl} (h : l.Perm l') : slotSum k l = slotSum k l' := by
  induction h with
  | nil => rfl
  | cons x _ ih => simp only [slotSum]; rw [ih]
  | swap x y l => simp only [slotSum]; omega
  | trans _ _ h1 h2 => exact h1.trans h2

theorem SchedL.perm {t : Tk} {l l' : List Sl} (h : SchedL t l) (hp : l.Perm l') : SchedL t l' :=
  ⟨fun s hs => h.each s (hp.mem_iff.2 hs), (hp.pairwise_iff (fun {a b} hab => Clash.symm hab)).1 h.clash, fun k hk => by rw [← slotSum_perm hp]; exact h.work k hk⟩

theorem slotSum_get (k : Nat) (d : Sl) : ∀ l : List Sl, slotSum k l = sumN (fun i => if (l.getD i d).job = k then (l.getD i d).til - (l.getD i d).fr else 0) l.length
  | [] => rfl
  | s :: l => by
    have h1 := sumN_append (fun i => if ((s :: l).getD i d).job = k then ((s :: l).getD i d).til - ((s :: l).getD i d).fr else 0) 1 l.length
    rw [List.length_cons, Nat.add_comm l.length 1, h1]
    unfold slotSum
    rw [slotSum_get k d l]
    congr 1
    · simp [sumN]
    · apply sumN_congr; intro i _
      rw [Nat.add_comm 1 i, List.getD_cons_succ]


def Up (l : List Int) : Prop := l.Pairwise (· < ·)

theorem up_unique : ∀ {l l' : List Int}, Up l → Up l' → (∀ x, x ∈ l ↔ x ∈ l') → l = l'
  | [], [], _, _, _ => rfl
  | [], y :: l', _, _, h => absurd ((h y).2 (by simp)) (by simp)
  | x :: l, [], _, _, h => absurd ((h x).1 (by simp)) (by simp)
  | x :: l, y :: l', h1, h2, h => by
    obtain ⟨h3, h4⟩ := List.pairwise_cons.1 h1
    obtain ⟨h5, h6⟩ := List.pairwise_cons.1 h2
    have e : x = y := by
      rcases List.mem_cons.1 ((h x).1 (by simp)) with e | e
      · exact e
      · rcases List.mem_cons.1 ((h y).2 (by simp)) with e2 | e2
        · exact e2.symm
        · have := h5 x e; have := h3 y e2; omega
    subst e
    congr 1
    apply up_unique h4 h6
    intro z
    constructor
    · intro hz
      rcases List.mem_cons.1 ((h z).1 (List.mem_cons_of_mem _ hz)) with e | e
      · have := h3 z hz; omega
      · exact e
    · intro hz
      rcases List.mem_cons.1 ((h z).2 (List.mem_cons_of_mem _ hz)) with e | e
      · have := h5 z hz; omega
      · exact e

def IsTime (m : Nat) (g : Nat → J) (x : Int) : Prop := ∃ k, k < m ∧ (x = (g k).ready ∨ x = (g k).due)
structure Cuts (m : Nat) (g : Nat → J) (l : List Int) : Prop where
  up : Up l
  mem : ∀ x, x ∈ l ↔ IsTime m g x

theorem Cuts.unique {m : Nat} {g : Nat → J} {l l' : List Int} (h : Cuts m g l) (h' : Cuts m g l') : l = l' :=
  up_unique h.up h'.up fun x => (h.mem x).trans (h'.mem x).symm

structure JobsOk (B : Int) (m : Nat) (g : Nat → J) (M : Nat) : Prop where
  B : 1 ≤ B
  job : ∀ k, k < m → 0 ≤ (g k).ready ∧ (g k).ready < (g k).due ∧ (g k).due ≤ M ∧ 1 ≤ (g k).work

def tkOf (B : Int) (m : Nat) (g : Nat → J) (l : List Int) : Tk := ⟨B, m, g, l.length - 1, fun i => (l.getD i 0).toNat⟩

theorem getD_mem {l : List Int} {i : Nat} (h : i < l.length) : l.getD i 0 ∈ l := by
  rw [List.getD_eq_getElem?_getD, List.getElem?_eq_getElem h]
  exact List.getElem_mem h
theorem Cuts.at_ {m : Nat} {g : Nat → J} {l : List Int} (h : Cuts m g l) {B : Int} {M : Nat} (hj : JobsOk B m g M) {i : Nat} (hi : i < l.length) : 0 ≤ l.getD i 0 ∧ l.getD i 0 ≤ M ∧ (((tkOf B m g l).at_ i : Nat) : Int) = l.getD i 0 := by
  obtain ⟨k, hk, e⟩ := (h.mem _).1 (getD_mem hi)
  have := hj.job k hk
  have h0 : 0 ≤ l.getD i 0 ∧ l.getD i 0 ≤ M := by
    rcases e with e | e <;> rw [e] <;> omega
  refine ⟨h0.1, h0.2, ?_⟩
  show ((l.getD i 0).toNat : Int) = _
  omega
theorem up_get {l : List Int} (h : Up l) {i j : Nat} (hij : i < j) (hj : j < l.length) : l.getD i 0 < l.getD j 0 := by
  have := List.pairwise_iff_getElem.1 h i j (by omega) hj hij
  rw [List.getD_eq_getElem?_getD, List.getElem?_eq_getElem (by omega), List.getD_eq_getElem?_getD, List.getElem?_eq_getElem hj]
  exact this

theorem mem_getD {l : List Int} {x : Int} (h : x ∈ l) : ∃ i, i < l.length ∧ l.getD i 0 = x := by
  obtain ⟨i, hi, e⟩ := List.getElem_of_mem h
  refine ⟨i, hi, ?_⟩
  rw [List.getD_eq_getElem?_getD, List.getElem?_eq_getElem hi]
  exact e

theorem Cuts.good {B : Int} {m : Nat} {g : Nat → J} {M : Nat} {l : List Int} (h : Cuts m g l) (hj : JobsOk B m g M) : (tkOf B m g l).Good := by
  have key : ∀ x, x ∈ l → ∃ i, i ≤ (tkOf B m g l).K ∧ x = ((tkOf B m g l).at_ i : Nat) := by
    intro x hx
    obtain ⟨i, hi, e⟩ := mem_getD hx
    refine ⟨i, ?_, ?_⟩
    · show i ≤ l.length - 1; omega
    · rw [(h.at_ hj hi).2.2, e]
  refine ⟨hj.B, ?_, ?_, ?_, ?_⟩
  · intro i hi
    have hi' : i < l.length - 1 := hi
    have h1 := (h.at_ hj (show i < l.length by omega)).2.2
    have h2 := (h.at_ hj (show i + 1 < l.length by omega)).2.2
    have h3 := up_get h.up (show i < i + 1 by omega) (show i + 1 < l.length by omega)
    omega
  · intro k hk; exact key _ ((h.mem _).2 ⟨k, hk, Or.inl rfl⟩)
  · intro k hk; exact key _ ((h.mem _).2 ⟨k, hk, Or.inr rfl⟩)
  · intro k hk; have := hj.job k hk; exact ⟨this.2.1, this.2.2.2⟩

theorem Cuts.last {B : Int} {m : Nat} {g : Nat → J} {M : Nat} {l : List Int} (h : Cuts m g l) (hj : JobsOk B m g M) : (tkOf B m g l).at_ (tkOf B m g l).K ≤ M := by
  show (l.getD (l.length - 1) 0).toNat ≤ M
  by_cases e : l.length = 0
  · rw [List.getD_eq_getElem?_getD, List.getElem?_eq_none (by omega)]; simp
  · have := (h.at_ hj (show l.length - 1 < l.length by omega)).2.1
    omega

def timesOf (g : Nat → J) : Nat → List Int
  | 0 => []
  | m + 1 => timesOf g m ++ [(g m).ready, (g m).due]
theorem timesOf_len (g : Nat → J) : ∀ m, (timesOf g m).length = 2 * m
  | 0 => rfl
  | m + 1 => by unfold timesOf; rw [List.length_append, timesOf_len g m]; simp; omega
theorem mem_timesOf (g : Nat → J) {x : Int} : ∀ {m : Nat}, x ∈ timesOf g m ↔ IsTime m g x
  | 0 => by simp [timesOf, IsTime]
  | m + 1 => by
    unfold timesOf
    rw [List.mem_append, mem_timesOf g]
    constructor
    · rintro (⟨k, hk, e⟩ | h)
      · exact ⟨k, by omega, e⟩
      · simp only [List.mem_cons, List.not_mem_nil, or_false] at h
        exact ⟨m, by omega, h⟩
    · rintro ⟨k, hk, e⟩
      by_cases hkm : k = m
      · subst hkm; right; simpa using e
      · left; exact ⟨k, by omega, e⟩

theorem up_len : ∀ (l l' : List Int), Up l → (∀ x, x ∈ l → x ∈ l') → l.length ≤ l'.length
  | [], l', _, _ => Nat.zero_le _
  | x :: l, l', h, hs => by
    obtain ⟨h1, h2⟩ := List.pairwise_cons.1 h
    have hx := hs x (by simp)
    have h3 := up_len l (l'.erase x) h2 (fun y hy => (List.mem_erase_of_ne (by have := h1 y hy; omega)).2 (hs y (List.mem_cons_of_mem _ hy)))
    rw [List.length_erase_of_mem hx] at h3
    have : 0 < l'.length := List.length_pos_of_mem hx
    rw [List.length_cons]; omega

theorem Cuts.len {m : Nat} {g : Nat → J} {l : List Int} (h : Cuts m g l) : l.length ≤ 2 * m := by
  rw [← timesOf_len g m]
  exact up_len _ _ h.up fun x hx => (mem_timesOf g).2 ((h.mem x).1 hx)

def withL (x : Int) : List Int → List Int
  | [] => [x]
  | y :: l => if y < x then y :: withL x l else if y = x then y :: l else x :: y :: l
theorem mem_withL {x z : Int} : ∀ {l : List Int}, z ∈ withL x l ↔ z = x ∨ z ∈ l
  | [] => by simp [withL]
  | y :: l => by
    unfold withL
    by_cases h : y < x
    · rw [if_pos h, List.mem_cons, mem_withL, List.mem_cons]
      constructor
      · rintro (e | e | e)
        · exact Or.inr (Or.inl e)
        · exact Or.inl e
        · exact Or.inr (Or.inr e)
      · rintro (e | e | e)
        · exact Or.inr (Or.inl e)
        · exact Or.inl e
        · exact Or.inr (Or.inr e)
    · rw [if_neg h]
      by_cases h2 : y = x
      · rw [if_pos h2]
        constructor
        · exact Or.inr
        · rintro (e | e)
          · rw [e, h2]; simp
          · exact e
      · rw [if_neg h2]; simp [List.mem_cons]
theorem up_withL (x : Int) : ∀ {l : List Int}, Up l → Up (withL x l)
  | [], _ => by simp [withL, Up]
  | y :: l, h => by
    obtain ⟨h1, h2⟩ := List.pairwise_cons.1 h
    unfold withL
    by_cases c : y < x
    · rw [if_pos c]
      refine List.pairwise_cons.2 ⟨?_, up_withL x h2⟩
      intro z hz
      rcases mem_withL.1 hz with e | e
      · omega
      · exact h1 z e
    · rw [if_neg c]
      by_cases c2 : y = x
      · rw [if_pos c2]; exact h
      · rw [if_neg c2]
        refine List.pairwise_cons.2 ⟨?_, h⟩
        intro z hz
        rcases List.mem_cons.1 hz with e | e
        · omega
        · have := h1 z e; omega
def cutsW (g : Nat → J) : Nat → List Int
  | 0 => []
  | m + 1 => withL (g m).due (withL (g m).ready (cutsW g m))
theorem cutsW_is (g : Nat → J) : ∀ m, Cuts m g (cutsW g m)
  | 0 => ⟨List.Pairwise.nil, fun x => by simp [cutsW, IsTime]⟩
  | m + 1 => by
    have ih := cutsW_is g m
    refine ⟨up_withL _ (up_withL _ ih.up), fun x => ?_⟩
    unfold cutsW
    rw [mem_withL, mem_withL, ih.mem]
    constructor
    · rintro (e | e | ⟨k, hk, e⟩)
      · exact ⟨m, by omega, Or.inr e⟩
      · exact ⟨m, by omega, Or.inl e⟩
      · exact ⟨k, by omega, e⟩
    · rintro ⟨k, hk, e⟩
      by_cases hkm : k = m
      · subst hkm
        rcases e with e | e
        · exact Or.inr (Or.inl e)
        · exact Or.inl e
      · exact Or.inr (Or.inr ⟨k, by omega, e⟩)

def tkW (B : Int) (m : Nat) (g : Nat → J) : Tk := tkOf B m g (cutsW g m)
theorem tkW_good {B : Int} {m : Nat} {g : Nat → J} {M : Nat} (h : JobsOk B m g M) : (tkW B m g).Good := (cutsW_is g m).good h
theorem tkW_last {B : Int} {m : Nat} {g : Nat → J} {M : Nat} (h : JobsOk B m g M) : (tkW B m g).at_ (tkW B m g).K ≤ M := (cutsW_is g m).last h
theorem tkW_K (B : Int) (m : Nat) (g : Nat → J) : (tkW B m g).K ≤ 2 * m - 1 := by
  have := (cutsW_is g m).len
  show (cutsW g m).length - 1 ≤ _; omega

def canW (B : Int) (m : Nat) (g : Nat → J) : Bool := decide ((flowF (tkW B m g)).1 = workAll (tkW B m g))
theorem canW_iff {B : Int} {m : Nat} {g : Nat → J} {M : Nat} (h : JobsOk B m g M) : canW B m g = true ↔ ¬ Refused B m g M := by
  unfold canW
  rw [decide_eq_true_iff]
  exact flow_iff (tkW_good h) (tkW_last h)

def slotsOf (B : Int) (m : Nat) (g : Nat → J) : List Sl := slotsW (tkW B m g) (doneF (tkW B m g)) (tkW B m g).K
theorem slotsOf_sched {B : Int} {m : Nat} {g : Nat → J} {M : Nat} (h : JobsOk B m g M) (hc : canW B m g = true) (hm : m ≤ 32) : SchedL (tkW B m g) (slotsOf B m g) ∧ (slotsOf B m g).length ≤ 4032 := by
  obtain ⟨h1, h2⟩ := slots_sched (tkW_good h) (flow_full (tkW_good h) (of_decide_eq_true hc))
  refine ⟨h1, Nat.le_trans h2 ?_⟩
  have hK := tkW_K B m g
  have : 2 * (tkW B m g).m * (tkW B m g).K ≤ 64 * 63 := Nat.mul_le_mul (by show 2 * m ≤ 64; omega) (by omega)
  omega

end Go.Proofs.YtmnhcbaocoofoaaDoor.Ben
namespace Go.Proofs.YtmnhcbaocoofoaaDoor.P
open Go.RowKit Go.Sort YtmnhcbaocoofoaaDoorW.PrintWords YtmnhcbaocoofoaaDoorW.PrintLast YtmnhcbaocoofoaaDoorW.PrintMore
section
variable {enc : Int → Value}
theorem mb_same {w : World} {g : Nat} {f : Array Value → Array Value} {c : Array Value} {e : TypeId} {fr : Nat × Nat} (h : w.heap[g]? = some (.cells c e fr)) : (mapBlock w g f).heap[g]? = some (.cells (f c) e fr) := by
  unfold mapBlock
  simp only [Array.getElem?_modify, if_true, h, Option.map_some, onCells]
theorem mb_other {w : World} {g k : Nat} {f : Array Value → Array Value} (h : g ≠ k) : (mapBlock w g f).heap[k]? = w.heap[k]? := by
  unfold mapBlock
  simp only [Array.getElem?_modify, if_neg h]
theorem mb_size (w : World) (g : Nat) (f : Array Value → Array Value) : (mapBlock w g f).heap.size = w.heap.size := by
  unfold mapBlock
  simp
theorem gr_heap {w : World} {os : Array Obj} {k : Nat} (h : k < w.heap.size) : (Sort.grow w os).heap[k]? = w.heap[k]? := by
  unfold Sort.grow
  rw [Array.getElem?_append_left h]
theorem rowI_world (w : World) (g m : Nat) (d : Array Int) (os : Array Obj) {c : Array Value} {e : TypeId} {fr : Nat × Nat} (h : w.heap[g]? = some (.cells c e fr)) :
    (Sort.grow (putRow enc (Sort.ahead w m) g 0 d) os).heap[g]? = some (.cells (putCells enc 0 d c) e fr) := by
  rw [gr_heap (by unfold putRow; rw [mb_size]; exact blk_lt h)]
  exact mb_same h
theorem rowI_below (w w0 : World) (B g m : Nat) (d : Array Int) (os : Array Obj) (hb : Below B w0 w) (hg : B ≤ g) (hgl : g < w.heap.size) : Below B w0 (Sort.grow (putRow enc (Sort.ahead w m) g 0 d) os) where
  os := hb.os
  tape := hb.tape
  output := hb.output
  size := by
    rw [Sort.size_grow]
    unfold putRow
    rw [mb_size]
    exact Nat.le_trans hb.size (Nat.le_add_right _ _)
  block k hk := by
    rw [gr_heap (by unfold putRow; rw [mb_size]; show k < w.heap.size; omega)]
    unfold putRow
    rw [mb_other (by omega)]
    exact hb.block k hk
theorem put_take (d : Array Int) (c : Array Value) (n : Nat) (h : d.size ≤ c.size) (hn : n ≤ d.size) : (putCells enc 0 d c).toList.take n = (d.toList.take n).map enc := by
  apply List.ext_getElem
  · simp [putCells]; omega
  · intro i h1 h2
    simp at h1 h2
    have : i < d.size := by omega
    simp [putCells, this]
end
theorem own_parts {w : World} {base : Nat} {v : Value} {xs : List Int} (h : Kd.R (Kd.int .i64) 3 w base (fun _ => True) v xs) (h0 : 0 < xs.length) :
    ∃ g cap cur, v = .slice (some ⟨g, 0, none⟩) xs.length cap ∧ base ≤ g ∧ w.heap[g]? = some (.cells cur 3 (0, 0)) ∧ xs.length ≤ cap ∧ cap ≤ maxLen ∧ cur.size = cap ∧ Holds (Value.int .i64) w g 0 xs.toArray := by
  have ho := Kd.own_of_R h
  obtain ⟨_, hv⟩ := ho
  rcases hv with ⟨hv, hn⟩ | ⟨g, cap, cur, hv, hg, hblk, hc1, hc2, hcs, htk⟩
  · omega
  · refine ⟨g, cap, cur, hv, hg, hblk, hc1, hc2, by omega, fun j hj => ⟨?_, ?_⟩⟩
    · rw [Nat.zero_add, cell_of_row _ _ _ _ _ _ hblk]
      rw [List.size_toArray] at hj
      have h1 : (cur.toList.take (xs.length * 1))[j]? = (xs.map (Value.int .i64))[j]? := by rw [htk]; rfl
      rw [List.getElem?_take, if_pos (by omega), List.getElem?_map, List.getElem?_eq_getElem hj] at h1
      rw [← Array.getElem?_toList, h1]
      simp [getElem!_pos xs.toArray j (by simpa using hj)]
    · exact frozen_of_row _ _ _ _ _ hblk
theorem own_made {w : World} {base g cap : Nat} {cur : Array Value} {d : List Int} (xs : List Int) (hg : base ≤ g) (hb : w.heap[g]? = some (.cells (putCells (Value.int .i64) 0 d.toArray cur) 3 (0, 0))) (hc : d.length ≤ cap) (hm : cap ≤ maxLen) (hs : cur.size = cap) (hx : xs.length ≤ d.length) (he : d.take xs.length = xs) :
    Kd.R (Kd.int .i64) 3 w base (fun _ => True) (.slice (some ⟨g, 0, none⟩) xs.length cap) xs := by
  refine Kd.R_of_own ⟨by simp [encs], .inr ⟨g, cap, _, rfl, hg, hb, by omega, hm, by simp [putCells, hs], ?_⟩⟩ (fun _ _ => trivial)
  rw [Nat.mul_one, put_take d.toArray cur xs.length (by simpa [hs] using hc) (by simpa using hx)]
  show (d.take xs.length).map _ = _
  rw [he]; rfl
theorem nil_made {w : World} {base : Nat} {v : Value} {xs : List Int} (h : Kd.R (Kd.int .i64) 3 w base (fun _ => True) v xs) (h0 : xs.length = 0) : ∃ A c, v = .slice A 0 c := by
  obtain ⟨A, c, rfl⟩ := Kd.R_slice h
  exact ⟨A, c, by rw [h0]⟩
theorem sortI_calls (v : Value) (xs : List Int) (w0 w : World) (h : Kd.R (Kd.int .i64) 3 w w0.heap.size (fun _ => True) v xs) (hB : Below w0.heap.size w0 w) (hn : xs.length ≤ 1000000) :
    Calls Tryd.prog 71 #[v] w fun e w' => e = .returned (.tuple #[]) ∧ Kd.R (Kd.int .i64) 3 w' w0.heap.size (fun _ => True) v (xs.mergeSort fun x y => decide (x ≤ y)) ∧ Below w0.heap.size w0 w' := by
  rcases Nat.eq_zero_or_pos xs.length with h0 | h0
  · obtain ⟨A, c, rfl⟩ := nil_made h h0
    refine (Tryd.slices_Sort_int_none A c w).mono ?_
    rintro e w' ⟨rfl, rfl⟩
    obtain rfl := List.eq_nil_of_length_eq_zero h0
    exact ⟨rfl, by rw [List.mergeSort_nil]; exact h, hB⟩
  · obtain ⟨g, cap, cur, rfl, hg, hblk, hc1, hc2, hcs, hH⟩ := own_parts h h0
    refine (Tryd.slices_Sort_int g 0 cap xs w hH (blk_lt hblk) (by omega)).mono ?_
    rintro e w' ⟨rfl, n, os, rfl⟩
    have hl : (xs.mergeSort fun x y => decide (x ≤ y)).length = xs.length := List.length_mergeSort ..
    refine ⟨rfl, ?_, rowI_below _ _ _ _ _ _ _ hB hg (blk_lt hblk)⟩
    have := own_made (w := Sort.grow (putRow (Value.int .i64) (Sort.ahead w n) g 0 (xs.mergeSort fun x y => decide (x ≤ y)).toArray) os) (xs.mergeSort fun x y => decide (x ≤ y)) hg (rowI_world w g n _ os hblk) (by omega) hc2 hcs (Nat.le_refl _) (by rw [List.take_length])
    rw [hl] at this
    exact this
theorem compact_le (d : Array Int) : ∀ m, (Lib.compactUpTo d m).length ≤ m
  | 0 => by simp [Lib.compactUpTo]
  | m + 1 => by
    rw [Lib.compactUpTo_succ, List.length_append]
    have := compact_le d m
    split <;> simp <;> omega
theorem compI_calls (v : Value) (xs : List Int) (w0 w : World) (h : Kd.R (Kd.int .i64) 3 w w0.heap.size (fun _ => True) v xs) (hB : Below w0.heap.size w0 w) (hn : xs.length ≤ 1000000) :
    Calls Tryd.prog 72 #[v] w fun e w' => ∃ v', e = .returned v' ∧ Kd.R (Kd.int .i64) 3 w' w0.heap.size (fun _ => True) v' (Lib.compact xs) ∧ Below w0.heap.size w0 w' := by
  have hle : (Lib.compact xs).length ≤ xs.length := compact_le _ _
  rcases Nat.eq_zero_or_pos xs.length with h0 | h0
  · obtain ⟨A, c, rfl⟩ := nil_made h h0
    refine (Tryd.slices_Compact_int_empty A c w).mono ?_
    rintro e w' ⟨rfl, rfl⟩
    refine ⟨_, rfl, ?_, hB⟩
    rw [List.eq_nil_of_length_eq_zero (show (Lib.compact xs).length = 0 by omega)]
    rw [List.eq_nil_of_length_eq_zero h0] at h
    exact h
  · obtain ⟨g, cap, cur, rfl, hg, hblk, hc1, hc2, hcs, hH⟩ := own_parts h h0
    refine (Tryd.slices_Compact_int g 0 cap xs w hH (by omega) hc1).mono ?_
    rintro e w' ⟨rfl, q, rfl⟩
    have hg0 : ∀ W : World, W = Sort.grow W #[] := fun W => by unfold Sort.grow; simp
    have hd : (Lib.compact xs ++ List.replicate (xs.length - (Lib.compact xs).length) 0).length = xs.length := by simp; omega
    refine ⟨_, rfl, ?_, ?_⟩
    · refine own_made (cur := cur) (d := Lib.compact xs ++ List.replicate (xs.length - (Lib.compact xs).length) 0) _ hg ?_ (by omega) hc2 hcs (by omega) (by rw [List.take_left])
      rw [hg0 (putRow _ _ _ _ _)]
      exact rowI_world w g q _ #[] hblk
    · rw [hg0 (putRow _ _ _ _ _)]
      exact rowI_below _ _ _ _ _ _ _ hB hg (blk_lt hblk)
theorem compact_up {d : Array Int} (hs : ∀ i j, i < j → j < d.size → d[i]! ≤ d[j]!) : ∀ m, m ≤ d.size → Ben.Up (Lib.compactUpTo d m) ∧ ∀ x, x ∈ Lib.compactUpTo d m ↔ ∃ j, j < m ∧ x = d[j]!
  | 0, _ => ⟨by simp [Lib.compactUpTo, Ben.Up], fun x => by simp [Lib.compactUpTo]⟩
  | m + 1, hm => by
    obtain ⟨h1, h2⟩ := compact_up hs m (by omega)
    rw [Lib.compactUpTo_succ]
    by_cases hk : Lib.keeps d m = true
    · rw [if_pos hk]
      refine ⟨?_, fun x => ?_⟩
      · refine List.pairwise_append.2 ⟨h1, List.pairwise_singleton _ _, fun x hx y hy => ?_⟩
        rw [List.mem_singleton] at hy
        subst hy
        obtain ⟨j, hj, rfl⟩ := (h2 x).1 hx
        unfold Lib.keeps at hk
        have h3 : d[m - 1]! ≤ d[m]! := hs (m - 1) m (by omega) (by omega)
        have h4 : d[j]! ≤ d[m - 1]! := by
          rcases Nat.lt_or_ge j (m - 1) with h | h
          · exact hs j (m - 1) h (by omega)
          · rw [show j = m - 1 by omega]; exact Int.le_refl _
        have h5 : d[m]! ≠ d[m - 1]! := by
          intro e
          simp [e] at hk
          omega
        omega
      · rw [List.mem_append, List.mem_singleton, h2]
        constructor
        · rintro (⟨j, hj, e⟩ | e)
          · exact ⟨j, by omega, e⟩
          · exact ⟨m, by omega, e⟩
        · rintro ⟨j, hj, e⟩
          rcases Nat.lt_or_ge j m with h | h
          · exact Or.inl ⟨j, h, e⟩
          · rw [show j = m by omega] at e; exact Or.inr e
    · rw [if_neg hk, List.append_nil]
      refine ⟨h1, fun x => ?_⟩
      rw [h2]
      unfold Lib.keeps at hk
      simp at hk
      constructor
      · rintro ⟨j, hj, e⟩; exact ⟨j, by omega, e⟩
      · rintro ⟨j, hj, e⟩
        rcases Nat.lt_or_ge j m with h | h
        · exact ⟨j, h, e⟩
        · refine ⟨m - 1, by omega, ?_⟩
          rw [e, show j = m by omega]
          exact hk.2
theorem cuts_are (g : Nat → Ben.J) (m : Nat) : Lib.compact ((Ben.timesOf g m).mergeSort fun x y => decide (x ≤ y)) = Ben.cutsW g m := by
  have hp := List.pairwise_mergeSort (le := fun (x y : Int) => decide (x ≤ y)) (by intro a b c; simp; omega) (by intro a b; simp; omega) (Ben.timesOf g m)
  have hpm := List.mergeSort_perm (Ben.timesOf g m) (fun x y => decide (x ≤ y))
  generalize ((Ben.timesOf g m).mergeSort fun x y => decide (x ≤ y)) = l at hp hpm ⊢
  obtain ⟨h1, h2⟩ := compact_up (d := l.toArray) (fun i j hij hj => by
    rw [List.size_toArray] at hj
    have := List.pairwise_iff_getElem.1 hp i j (by omega) hj hij
    rw [getElem!_pos _ _ (by simp; omega), getElem!_pos _ _ (by simp; omega)]
    simpa using this) l.length (by simp)
  refine Ben.Cuts.unique (m := m) (g := g) ⟨h1, fun x => ?_⟩ (Ben.cutsW_is g m)
  show x ∈ Lib.compactUpTo _ _ ↔ _
  rw [h2, ← Ben.mem_timesOf, ← hpm.mem_iff, List.mem_iff_getElem]
  constructor
  · rintro ⟨j, hj, e⟩
    rw [getElem!_pos _ _ (by simpa using hj)] at e
    exact ⟨j, hj, by simpa using e.symm⟩
  · rintro ⟨j, hj, e⟩
    refine ⟨j, hj, ?_⟩
    rw [getElem!_pos _ _ (by simpa using hj)]
    simpa using e.symm
end Go.Proofs.YtmnhcbaocoofoaaDoor.P
namespace Go.Proofs.YtmnhcbaocoofoaaDoor.P
open Go.WideMaps Go.WideElems Go.MapKept Go.ChangeMaps
open Go.Maps (Keyed has)
open Go.Proofs.YtmnhcbaocoofoaaDoor.Ben (Rm putR)
def kv (x y : Int) : Value := .agg #[.int .i64 x, .int .i64 y]
def ok64 (x : Int) : Prop := (Lit.int .i64 x).wf = true
theorem ok64_of {x : Int} (h0 : -9223372036854775808 ≤ x) (h1 : x ≤ 9223372036854775807) : ok64 x := by
  have e1 : IntKind.i64.min = -9223372036854775808 := by decide
  have e2 : IntKind.i64.max = 9223372036854775807 := by decide
  show (decide (IntKind.i64.min ≤ x) && decide (x ≤ IntKind.i64.max)) = true
  rw [e1, e2]
  simp only [Bool.and_eq_true, decide_eq_true_eq]
  omega
theorem ok64_nat {x : Nat} (h : x ≤ 100000) : ok64 (x : Int) := ok64_of (by omega) (by omega)
theorem mSize : Tryd.prog.types.size = (Tryd.prog.types.size - 1) + 1 := by kernel_rfl
theorem mType : Tryd.prog.keyType 106 = true := by kernel_rfl
theorem mCellsI : Tryd.prog.cellsOf 3 = 1 := by kernel_rfl
theorem mCellsA : Tryd.prog.cellsOf 106 = 2 := by kernel_rfl
theorem mLaid : laidOutB Tryd.prog = true := by kernel_rfl
theorem mLaw : KeyLaw Tryd.prog 106 := deep_law_laid mLaid (m := 2) (by omega) (of_decide_eq_true (by kernel_rfl)) (by kernel_rfl) (by rw [Tryd.underlying106])
theorem mK : Keyed Tryd.prog 106 := Keyed.of_law mLaw
theorem mLits {x y : Int} (hx : ok64 x) (hy : ok64 y) (d : Nat) : Tryd.prog.keyLits (d + 2) 106 [.int .i64 x, .int .i64 y] = some [.int .i64 x, .int .i64 y] := by
  unfold ok64 at hx hy
  have h0 : Tryd.prog.keyLits (d + 1) 3 [.int .i64 x] = some [.int .i64 x] := by unfold Program.keyLits; simp [Tryd.underlying3, hx]
  have h1 : Tryd.prog.keyLits (d + 1) 3 [.int .i64 y] = some [.int .i64 y] := by unfold Program.keyLits; simp [Tryd.underlying3, hy]
  unfold Program.keyLits
  simp [Tryd.underlying106, mCellsA, mCellsI, h0, h1]
theorem key_of {x y : Int} (hx : ok64 x) (hy : ok64 y) : keyOf Tryd.prog 106 (kv x y) = some (.string (keyBytes [.int .i64 x, .int .i64 y])) := by
  unfold keyOf kv
  simp only [Tryd.underlying106]
  rw [if_pos (by simp [mType, Value.formed, Tryd.underlying106, mCellsA])]
  show (Tryd.prog.keyLits (Tryd.prog.types.size + 1) 106 [.int .i64 x, .int .i64 y]).map _ = _
  rw [mSize, mLits hx hy]; rfl
def kl (x y : Int) : Lit := .string (keyBytes [.int .i64 x, .int .i64 y])
theorem kl_of {x y : Int} (hx : ok64 x) (hy : ok64 y) : keyOf Tryd.prog 106 (kv x y) = some (kl x y) := key_of hx hy
theorem kl_key {x y : Int} (hx : ok64 x) (hy : ok64 y) : WideAt.IsKeyLit (kl x y) := mK.key (kl_of hx hy)
theorem kl_inj {x y u v : Int} (hx : ok64 x) (hy : ok64 y) (hu : ok64 u) (hv : ok64 v) (h : kl x y = kl u v) : x = u ∧ y = v := by
  have := mK.inj (kl_of hx hy) (h ▸ kl_of hu hv)
  unfold kv at this
  simpa using this
abbrev nd (x : Nat) : Prop := x ≤ 100000
def RD (D : DataW Unit) (R : Rm) : Prop := Maps.IsMap D ∧ ∀ x y : Nat, nd x → nd y → D.atKey (kl x y) (.lit (.int .i64 0)) = .lit (.int .i64 (R x y))
def Mp (w : World) (b n : Nat) (R : Rm) : Prop := ∃ D : DataW Unit, w.ownsMap Tryd.prog 106 (plainElem Tryd.prog 3) b n D ∧ RD D R
theorem mp_made (w : World) : Mp (w.alloc (.map #[] 0)) w.heap.size 0 (fun _ _ => 0) := ⟨.map [], World.ownsMap_made w _ _ _, ⟨[], rfl⟩, fun _ _ _ _ => rfl⟩
theorem mp_zero (w : World) : (zeroValue 3).run Tryd.prog w = .ok (.int .i64 0) w := by kernel_rfl
theorem Mp.kept {w w' : World} {b n : Nat} {R : Rm} (h : Mp w b n R) {row : Option Nat} (hg : w.grownBy w' row) (hne : some b ≠ row) : Mp w' b n R := by
  obtain ⟨D, h1, h2⟩ := h
  exact ⟨D, h1.kept hg hne, h2⟩
theorem Mp.mono {w : World} {b n m : Nat} {R : Rm} (h : Mp w b n R) (hn : n ≤ m) : Mp w b m R := by
  obtain ⟨D, h1, h2⟩ := h
  exact ⟨D, h1.mono hn, h2⟩
theorem Mp.lt {w : World} {b n : Nat} {R : Rm} (h : Mp w b n R) : b < w.heap.size := by
  obtain ⟨D, h1, h2⟩ := h
  exact h1.lt
theorem Mp.block {w w' : World} {b n : Nat} {R : Rm} (h : Mp w b n R) (e : w'.heap[b]? = w.heap[b]?) : Mp w' b n R := by
  obtain ⟨D, ⟨es, clock, hb, F⟩, r⟩ := h
  exact ⟨D, ⟨es, clock, e.trans hb, F⟩, r⟩
theorem mp_look {w : World} {b n : Nat} {R : Rm} (h : Mp w b n R) {x y : Nat} (hx : nd x) (hy : nd y) : (Instr.lookup 109 (.map (some b)) (kv x y) false).run Tryd.prog w = .ok (.int .i64 (R x y)) w := by
  obtain ⟨D, h1, h2, h3⟩ := h
  obtain ⟨v, k1, k2, _⟩ := h1.lookup_int mK Tryd.underlying109 Tryd.underlying3 (mp_zero w) (kl_of (ok64_nat hx) (ok64_nat hy))
  rw [h3 x y hx hy] at k2
  simp at k2
  rw [k1, k2]
theorem RD.put {D : DataW Unit} {R : Rm} (h : RD D R) {x y : Nat} (hx : nd x) (hy : nd y) (v : Int) : RD (D.put (kl x y) (.lit (.int .i64 v))) (putR R x y v) := by
  refine ⟨h.1.put _ _, fun a d ha hd => ?_⟩
  unfold putR
  by_cases e : a = x ∧ d = y
  · rw [if_pos e, e.1, e.2, Maps.atKey_put_same h.1 (kl_key (ok64_nat hx) (ok64_nat hy))]
  · rw [if_neg e, Maps.atKey_put_other (fun q => e (by have := kl_inj (ok64_nat ha) (ok64_nat hd) (ok64_nat hx) (ok64_nat hy) q; omega)), h.2 a d ha hd]
theorem RD.del {D : DataW Unit} {R : Rm} (h : RD D R) {x y : Nat} (hx : nd x) (hy : nd y) (h0 : R x y = 0) : RD (D.del (kl x y)) R := by
  refine ⟨h.1.del _, fun a d ha hd => ?_⟩
  by_cases e : a = x ∧ d = y
  · rw [e.1, e.2, Maps.atKey_del_same, h0]
  · rw [Maps.atKey_del_other (fun q => e (by have := kl_inj (ok64_nat ha) (ok64_nat hd) (ok64_nat hx) (ok64_nat hy) q; omega)), h.2 a d ha hd]
theorem mp_update {w : World} {b n : Nat} {R : Rm} (h : Mp w b n R) (hn : n < maxLen) {x y : Nat} {v : Int} (hx : nd x) (hy : nd y) (hv : ok64 v) :
    ∃ w', (Instr.mapUpdate 109 (.map (some b)) (kv x y) (.int .i64 v)).run Tryd.prog w = .ok () w' ∧ Mp w' b (n + 1) (putR R x y v) ∧ w.grownBy w' (some b) := by
  obtain ⟨D, h1, h2⟩ := h
  obtain ⟨w', k1, k2, k3⟩ := h1.update mK Tryd.underlying109 hn (kl_of (ok64_nat hx) (ok64_nat hy)) (plainElem_int Tryd.underlying3 hv)
  exact ⟨w', k1, ⟨_, k2, h2.put hx hy v⟩, k3⟩
theorem mp_delete {w : World} {b n : Nat} {R : Rm} (h : Mp w b n R) {x y : Nat} (hx : nd x) (hy : nd y) (h0 : R x y = 0) (ty : TypeId) :
    ∃ w', (Builtin.delete_ #[109, 106] ty #[.map (some b), kv x y]).run Tryd.prog w = .ok (.tuple #[]) w' ∧ Mp w' b n R ∧ w.grownBy w' (some b) := by
  obtain ⟨D, h1, h2⟩ := h
  obtain ⟨w', k1, k2, k3⟩ := h1.drop mK Tryd.underlying109 (kl_of (ok64_nat hx) (ok64_nat hy)) ty
  exact ⟨w', k1, ⟨_, k2, h2.del hx hy h0⟩, k3.grown⟩
theorem mp_entry {w : World} {b n : Nat} {R : Rm} (h : Mp w b n R) (hn : n < maxLen) {x y : Nat} (hx : nd x) (hy : nd y) :
    ∃ (v0 st : Value) (w1 : World), (Instr.mapEntry 109 (.map (some b)) (kv x y)).run Tryd.prog w = .ok (.tuple #[v0, st]) w1 ∧ Mp w1 b (n + 1) R ∧ w.grownBy w1 (some b) ∧
      ∀ (w2 : World) (v : Int), ok64 v → w2.heap[b]? = w1.heap[b]? → ∃ w3, (Instr.entryStore 109 (.map (some b)) st (.int .i64 v)).run Tryd.prog w2 = .ok () w3 ∧ Mp w3 b (n + 1) (putR R x y v) ∧ w2.grownBy w3 (some b) := by
  obtain ⟨D, ho, hr⟩ := h
  have hmp : Mp w b n R := ⟨D, ho, hr⟩
  obtain ⟨es, clock, hb, F, hs, hD⟩ := ho
  have hkey := kl_of (ok64_nat hx) (ok64_nat hy)
  obtain ⟨v0, st, es1, clock1, r1, _, r3⟩ := entry_then_store mLaw Tryd.underlying109 (z := .int .i64 0) mp_zero hb F hkey
  have hsb : ∀ (W : World) (o o' : Obj), W.heap[b]? = some o' → (setBlock W b o).heap[b]? = some o := fun W o o' e => by
    have := (Array.getElem?_eq_some_iff.1 e).1
    simp [setBlock, this]
  have hgr : ∀ (W : World) (o o' : Obj), W.heap[b]? = some o' → W.grownBy (setBlock W b o) (some b) := fun W o o' e =>
    ⟨rfl, rfl, rfl, by simp [setBlock], fun i _ hi => by
      have : b ≠ i := fun q => hi (by rw [q])
      simp [setBlock, Array.getElem?_setIfInBounds_ne this]⟩
  refine ⟨v0, goInt st, _, r1, ?_, hgr w _ _ hb, fun w2 v hv e2 => ?_⟩
  · rcases mK.find w hkey es.toList F.keys with ⟨h1, h2⟩ | ⟨j, e0, h1, h2, h3⟩
    · obtain ⟨w', u1, u2, u3⟩ := mp_update hmp hn hx hy (v := 0) (by unfold ok64; decide)
      have hl := mp_look hmp hx hy
      have e0 : R x y = 0 := by
        simp [Instr.lookup, run_underlying Tryd.underlying109, MapKept.run_getObj_map hb, mK.check w _ hkey, h1, Result.andThen] at hl
        exact hl.symm
      have e1 : putR R x y 0 = R := by
        funext a d; unfold putR
        by_cases e : a = x ∧ d = y
        · rw [if_pos e, e.1, e.2, e0]
        · rw [if_neg e]
      rw [e1] at u2
      have k1 : (Instr.mapEntry 109 (.map (some b)) (kv x y)).run Tryd.prog w = .ok (.tuple #[.int .i64 0, goInt clock]) (setBlock w b (.map (es.push ⟨kv x y, .int .i64 0, clock⟩) (clock + 1))) := by
        simp [Instr.mapEntry, run_underlying Tryd.underlying109, MapKept.run_getObj_map hb, mK.check w false hkey, h1, MapKept.run_setObj_map _ hb, Result.andThen, setBlock]
      have k2 : (Instr.mapUpdate 109 (.map (some b)) (kv x y) (.int .i64 0)).run Tryd.prog w = .ok () (setBlock w b (.map (es.push ⟨kv x y, .int .i64 0, clock⟩) (clock + 1))) := by
        simp [Instr.mapUpdate, run_underlying Tryd.underlying109, MapKept.run_getObj_map hb, mK.check w false hkey, h1, MapKept.run_setObj_map _ hb, Result.andThen, setBlock]
      rw [r1] at k1
      rw [u1] at k2
      injection k1 with _ k1
      injection k2 with _ k2
      rw [k1, ← k2]
      exact u2
    · have hj : es[j]? = some e0 := by simpa using h2
      have hsame : es.modify j (fun e => { e with key := kv x y }) = es := by
        apply Array.ext'
        rw [Array.toList_modify, modify_eq_set _ _ _ _ h2]
        have : ({ e0 with key := kv x y } : MapEntry) = e0 := by rw [← h3]
        rw [this]
        exact set_self _ _ _ h2
      have k1 : (Instr.mapEntry 109 (.map (some b)) (kv x y)).run Tryd.prog w = .ok (.tuple #[e0.val, goInt e0.born]) (setBlock w b (.map es clock)) := by
        simp [Instr.mapEntry, run_underlying Tryd.underlying109, MapKept.run_getObj_map hb, mK.check w false hkey, h1, hj, h3, mK.stays w hkey, hsame, MapKept.run_setObj_map _ hb, Result.andThen, setBlock]
      rw [r1] at k1
      injection k1 with _ k1
      rw [k1]
      exact (hmp.mono (Nat.le_succ n)).block ((hsb w _ _ hb).trans hb.symm)
  · have hb2 : w2.heap[b]? = some (.map es1 clock1) := e2.trans (hsb w _ _ hb)
    obtain ⟨es', clock', s1, s2⟩ := r3 w2 (.int .i64 v) hb2
    obtain ⟨w', u1, u2, u3⟩ := mp_update hmp hn hx hy hv
    rw [u1] at s2
    injection s2 with _ s2
    refine ⟨_, s1, u2.block ?_, hgr w2 _ _ hb2⟩
    rw [s2, hsb w2 _ _ hb2, hsb w _ _ hb]
end Go.Proofs.YtmnhcbaocoofoaaDoor.P
namespace Go.Proofs.YtmnhcbaocoofoaaDoor.P
open Go.RowKit YtmnhcbaocoofoaaDoorW.PrintWords
open Go.Proofs.YtmnhcbaocoofoaaDoor.Ben (Rm putR St putL addF)
def iv (u : Nat) : Value := .int .i64 (u : Int)
structure NX (w : World) (base g N : Nat) (vals : Nat → Value) (nx : Nat → List Nat) : Prop where
  row : w.rowIs g 43 N vals
  low : base ≤ g
  own : ∀ v, v < N → w.ownsRow base 3 1 (vals v) (nx v).length ((nx v).map iv)
  apart : ∀ u v, u < N → v < N → u ≠ v → (vals u).ownBlock = none ∨ (vals u).ownBlock ≠ (vals v).ownBlock
theorem NX.other {w : World} {base g N : Nat} {vals : Nat → Value} {nx : Nat → List Nat} (h : NX w base g N vals nx) {v : Nat} (hv : v < N) : (vals v).ownBlock ≠ some g := by
  intro he
  obtain ⟨c, hb, _⟩ := h.row
  obtain ⟨cs, hc⟩ := own_typed (h.own v hv) g he
  rw [hb] at hc
  injection hc with hc
  injection hc with _ hc
  revert hc; decide
theorem NX.kept {w w' : World} {base g N : Nat} {vals : Nat → Value} {nx : Nat → List Nat} (h : NX w base g N vals nx) (hk : ∀ k, base ≤ k → k < w.heap.size → (∃ c t, w.heap[k]? = some (.cells c t (0, 0))) → w'.heap[k]? = w.heap[k]?) : NX w' base g N vals nx := by
  refine ⟨h.row.of_block ?_, h.low, fun v hv => own_move (h.own v hv) (fun k e => ?_), h.apart⟩
  · obtain ⟨c, hb, _⟩ := h.row
    exact hk g h.low h.row.lt ⟨_, _, hb⟩
  · obtain ⟨h1, h2⟩ := (h.own v hv).lt k e
    obtain ⟨cs, hc⟩ := own_typed (h.own v hv) k e
    exact hk k h1 h2 ⟨_, _, hc⟩
theorem NX.below {w w' : World} {base g N : Nat} {vals : Nat → Value} {nx : Nat → List Nat} (h : NX w base g N vals nx) (hb : Below w.heap.size w w') : NX w' base g N vals nx := h.kept (fun k _ hk _ => hb.block k hk)
theorem NX.map {w w' : World} {base g N b : Nat} {vals : Nat → Value} {nx : Nat → List Nat} (h : NX w base g N vals nx) {es : Array MapEntry} {clock : Nat} (hb : w.heap[b]? = some (.map es clock)) (hg : w.grownBy w' (some b)) : NX w' base g N vals nx :=
  h.kept (fun k _ hk hc => hg.block k hk (fun e => by
    obtain ⟨c, t, hc⟩ := hc
    injection e with e
    subst e
    rw [hb] at hc
    cases hc))
theorem iv_append (l : List Nat) (u : Nat) : (l ++ [u]).map iv = l.map iv ++ [.int .i64 (u : Int)] := by simp [iv]
theorem NX.append {w w1 : World} {base g N : Nat} {vals : Nat → Value} {nx : Nat → List Nat} (h : NX w base g N vals nx) {v u : Nat} (hv : v < N) {v1 : Value}
    (ho : w1.ownsRow base 3 1 v1 ((nx v).length + 1) ((nx v).map iv ++ [.int .i64 (u : Int)])) (hg : w.grownBy w1 (vals v).ownBlock) (hat : v1.ownBlock = (vals v).ownBlock ∨ ∃ k, v1.ownBlock = some k ∧ w.heap.size ≤ k) :
    NX (w1.setCell ⟨g, v, none⟩ v1) base g N (fun j => if j = v then v1 else vals j) (putL nx v u) := by
  have hrow : w1.rowIs g 43 N vals := h.row.of_block (hg.block g h.row.lt (fun e => h.other hv e.symm))
  have hne : ∀ j, j < N → j ≠ v → (vals j).ownBlock = none ∨ (vals j).ownBlock ≠ v1.ownBlock := by
    intro j hj hjv
    rcases hat with e | ⟨k, e, hk⟩
    · rw [e]; exact h.apart j v hj hv hjv
    · cases e2 : (vals j).ownBlock with
      | none => exact .inl rfl
      | some k' =>
        refine .inr (fun e3 => ?_)
        rw [e] at e3
        injection e3 with e3
        have := ((h.own j hj).lt k' e2).2
        omega
  have hset : ∀ {x : Value} {n : Nat} {xs : List Value}, w1.ownsRow base 3 1 x n xs → (w1.setCell ⟨g, v, none⟩ v1).ownsRow base 3 1 x n xs := by
    intro x n xs hx
    refine own_move hx (fun k e => Below.heap_setCell _ _ _ k (fun ek => ?_))
    obtain ⟨cs, hc⟩ := own_typed hx k e
    obtain ⟨c, hb, _⟩ := hrow
    have ek' : k = g := ek
    rw [ek', hb] at hc
    injection hc with hc
    injection hc with _ hc
    revert hc; decide
  refine ⟨hrow.set v v1, h.low, fun j hj => ?_, fun a c ha hc hac => ?_⟩
  · by_cases e : j = v
    · subst e
      simp only [if_true]
      unfold putL
      rw [if_pos rfl, List.length_append, List.length_singleton, iv_append]
      exact hset ho
    · simp only [if_neg e]
      unfold putL
      rw [if_neg e]
      refine hset ((h.own j hj).kept hg ?_)
      rcases h.apart j v hj hv e with e1 | e1
      · exact .inl e1
      · exact .inr e1
  · by_cases e1 : a = v
    · have e2 : c ≠ v := fun e => hac (e1.trans e.symm)
      simp only [if_pos e1, if_neg e2]
      rcases hne c hc e2 with h0 | h0
      · cases e3 : v1.ownBlock with
        | none => exact .inl rfl
        | some k => exact .inr (by rw [h0]; simp)
      · exact .inr (fun e => h0 e.symm)
    · by_cases e2 : c = v
      · simp only [if_neg e1, if_pos e2]
        exact hne a ha e1
      · simp only [if_neg e1, if_neg e2]
        exact h.apart a c ha hc hac
theorem NX.at {w : World} {base g N : Nat} {vals : Nat → Value} {nx : Nat → List Nat} (h : NX w base g N vals nx) {v : Nat} (hv : v < N) :
    ∃ A c, vals v = .slice A (nx v).length c ∧ (nx v).length ≤ c ∧ ∀ i (hi : i < (nx v).length), ∃ ad, A = some ad ∧ w.cell? (ad.add i) = some (.int .i64 (((nx v)[i] : Nat) : Int)) := by
  have ho := h.own v hv
  rcases ho.2 with ⟨e, h0⟩ | ⟨k, cap, cur, e, _, _, hc, _⟩
  · refine ⟨none, 0, by rw [e, h0], by omega, fun i hi => by omega⟩
  · refine ⟨_, cap, e, hc, fun i hi => ⟨_, rfl, ?_⟩⟩
    exact ho.cells (g := k) (by rw [e]; rfl) i _ (by simp [iv, hi])
theorem NX.made (w w1 : World) (base g N : Nat) (hb : base ≤ g) (hr : w1.rowIs g 43 N (fun _ => .slice none 0 0)) : NX w1 base g N (fun _ => .slice none 0 0) (fun _ => []) :=
  ⟨hr, hb, fun v _ => World.ownsRow_nil _ _ _ _, fun u v _ _ _ => .inl rfl⟩
structure Net (w : World) (base x b g N n : Nat) (st : St) : Prop where
  head : w.heap[x]? = some (.cells #[.map (some b), .slice (some ⟨g, 0, none⟩) N N] 111 (0, 0))
  map : Mp w b n st.R
  next : ∃ vals, NX w base g N vals st.next
  lx : base ≤ x
  lb : base ≤ b
theorem Net.kept {w w' : World} {base x b g N n : Nat} {st : St} (h : Net w base x b g N n st) (hk : ∀ k, base ≤ k → k < w.heap.size → w'.heap[k]? = w.heap[k]?) : Net w' base x b g N n st := by
  obtain ⟨vals, hn⟩ := h.next
  exact ⟨(hk x h.lx (blk_lt h.head)).trans h.head, h.map.block (hk b h.lb h.map.lt), ⟨vals, hn.kept (fun k h1 h2 _ => hk k h1 h2)⟩, h.lx, h.lb⟩
theorem Net.below {w w' : World} {base x b g N n : Nat} {st : St} (h : Net w base x b g N n st) (hb : Below w.heap.size w w') : Net w' base x b g N n st := h.kept (fun k _ hk => hb.block k hk)
theorem Net.mono {w : World} {base x b g N n m : Nat} {st : St} (h : Net w base x b g N n st) (hn : n ≤ m) : Net w base x b g N m st := ⟨h.head, h.map.mono hn, h.next, h.lx, h.lb⟩
theorem Mp.isMap {w : World} {b n : Nat} {R : Rm} (h : Mp w b n R) : ∃ es clock, w.heap[b]? = some (.map es clock) := by
  obtain ⟨D, ⟨es, clock, hb, _⟩, _⟩ := h
  exact ⟨es, clock, hb⟩
theorem Net.turned {w w' : World} {base x b g N n m : Nat} {st : St} {R' : Rm} (h : Net w base x b g N n st) (hg : w.grownBy w' (some b)) (hm : Mp w' b m R') : Net w' base x b g N m ⟨R', st.next⟩ := by
  obtain ⟨vals, hn⟩ := h.next
  obtain ⟨es, clock, hb⟩ := h.map.isMap
  refine ⟨(hg.block x (blk_lt h.head) (fun e => ?_)).trans h.head, hm, ⟨vals, hn.map hb hg⟩, h.lx, h.lb⟩
  injection e with e
  have := h.head
  rw [e, hb] at this
  cases this
def wayF (way : Ben.Way) (v : Nat) : Int := match way v with | none => -1 | some p => p
def wayT (way : Ben.Way) (v : Nat) : Int := match way v with | none => -1 | some _ => v
def wayC (way : Ben.Way) (i : Nat) : Value := if i % 2 = 0 then .int .i64 (wayF way (i / 2)) else .int .i64 (wayT way (i / 2))
abbrev WayR (w : World) (g N : Nat) (way : Ben.Way) : Prop := w.rowIs g 106 (N * 2) (wayC way)
theorem WayR.at {w : World} {g N : Nat} {way : Ben.Way} (h : WayR w g N way) {v : Nat} (hv : v < N) : w.cell? ⟨g, v * 2, none⟩ = some (.int .i64 (wayF way v)) ∧ w.cell? ⟨g, v * 2 + 1, none⟩ = some (.int .i64 (wayT way v)) ∧ w.frozen? ⟨g, v * 2, none⟩ = false ∧ w.frozen? ⟨g, v * 2 + 1, none⟩ = false := by
  have h1 := h.cell (i := v * 2) (by omega)
  have h2 := h.cell (i := v * 2 + 1) (by omega)
  rw [h1, h2]
  unfold wayC
  rw [if_pos (by omega), if_neg (by omega), show v * 2 / 2 = v by omega, show (v * 2 + 1) / 2 = v by omega]
  exact ⟨rfl, rfl, h.frozen _, h.frozen _⟩
theorem WayR.put {w : World} {g N : Nat} {way : Ben.Way} (h : WayR w g N way) {u v : Nat} (hu : u < N) : WayR ((w.setCell ⟨g, u * 2, none⟩ (.int .i64 (v : Int))).setCell ⟨g, u * 2 + 1, none⟩ (.int .i64 (u : Int))) g N (Ben.setW way u v) := by
  refine ((h.set (u * 2) _).set (u * 2 + 1) _).congr (fun i hi => ?_)
  unfold wayC wayF wayT
  by_cases e1 : i = u * 2 + 1
  · subst e1
    rw [if_pos rfl, if_neg (by omega), show (u * 2 + 1) / 2 = u by omega, Ben.setW_same]
  · rw [if_neg e1]
    by_cases e2 : i = u * 2
    · subst e2
      rw [if_pos rfl, if_pos (by omega), show u * 2 / 2 = u by omega, Ben.setW_same]
    · rw [if_neg e2, Ben.setW_other way (show i / 2 ≠ u by omega)]
theorem way_none {way : Ben.Way} {v : Nat} : (wayF way v == -1 && wayT way v == -1) = (way v).isNone := by
  unfold wayF wayT
  cases way v with
  | none => rfl
  | some p => simp
end Go.Proofs.YtmnhcbaocoofoaaDoor.P
namespace Go.Proofs.YtmnhcbaocoofoaaDoor.P
open Go.RowKit YtmnhcbaocoofoaaDoorW.PrintWords YtmnhcbaocoofoaaDoorW.PrintLast YtmnhcbaocoofoaaDoorW.PrintMore
theorem info43 : (Tryd.prog.info? 43).map (fun i => (i.zero, i.size, i.bytes)) = some (some (.slice none 0 0), 1, 24) := by kernel_rfl
theorem info106 : (Tryd.prog.info? 106).map (fun i => (i.zero, i.size, i.bytes)) = some (some (.agg #[.int .i64 0, .int .i64 0]), 2, 16) := by kernel_rfl
def st0 : Ben.St := ⟨fun _ _ => 0, fun _ => []⟩
theorem net_made (w : World) (N : Nat) :
    Net (((w.alloc (.map #[] 0)).alloc (.cells (madeCells #[.slice none 0 0] N) 43)).alloc (.cells #[.map (some w.heap.size), .slice (some ⟨w.heap.size + 1, 0, none⟩) N N] 111)) w.heap.size (w.heap.size + 1 + 1) w.heap.size (w.heap.size + 1) N 0 st0 ∧
    Below w.heap.size w (((w.alloc (.map #[] 0)).alloc (.cells (madeCells #[.slice none 0 0] N) 43)).alloc (.cells #[.map (some w.heap.size), .slice (some ⟨w.heap.size + 1, 0, none⟩) N N] 111)) := by
  have hm := mp_made w
  have hr := World.rowIs_made (w.alloc (.map #[] 0)) (.slice none 0 0) N 43
  rw [World.size_alloc] at hr
  have hb := below_alloc (below_alloc (below_alloc (Below.refl w.heap.size w) (.map #[] 0)) (.cells (madeCells #[.slice none 0 0] N) 43)) (.cells #[.map (some w.heap.size), .slice (some ⟨w.heap.size + 1, 0, none⟩) N N] 111)
  refine ⟨⟨?_, ?_, ⟨_, NX.made w _ w.heap.size (w.heap.size + 1) N (by omega) (hr.alloc _)⟩, by omega, Nat.le_refl _⟩, hb⟩
  · have := heap_alloc_new ((w.alloc (.map #[] 0)).alloc (.cells (madeCells #[.slice none 0 0] N) 43)) (.cells #[.map (some w.heap.size), .slice (some ⟨w.heap.size + 1, 0, none⟩) N N] 111)
    simpa using this
  · exact (hm.kept (World.grownBy_alloc _ _ none) (by simp)).kept (World.grownBy_alloc _ _ none) (by simp)
theorem new_calls (N : Nat) (hN : N ≤ 1000) (w : World) :
    Calls Tryd.prog 58 #[.int .i64 (N : Int)] w fun e w' => ∃ x b g, e = .returned (.pointer (some ⟨x, 0, none⟩)) ∧ Net w' w.heap.size x b g N 0 st0 ∧ Below w.heap.size w w' := by
  have hmk : ∀ W, (Instr.makeSlice 62 (.int .i64 ((N : Nat) : Int)) (.int .i64 ((N : Nat) : Int))).run Tryd.prog W = .ok (.slice (some ⟨W.heap.size, 0, none⟩) N N) (W.alloc (.cells (madeCells #[.slice none 0 0] N) 43)) := fun W =>
    run_make_row' 62 43 (.slice none 0 0) 24 Tryd.underlying62 info43 rfl .i64 .i64 N (by omega) (by omega) W
  have hmm := @run_makeMap Tryd.prog
  have HN := Aside0.mk hN
  clear hN
  go_enter Tryd.func58, Tryd.ntmps58
  go_wp2
  go_ret
  obtain ⟨h1, h2⟩ := net_made w N
  exact ⟨_, _, _, rfl, h1, h2⟩
end Go.Proofs.YtmnhcbaocoofoaaDoor.P
namespace Go.Proofs.YtmnhcbaocoofoaaDoor.P
open Go.RowKit YtmnhcbaocoofoaaDoorW.PrintWords YtmnhcbaocoofoaaDoorW.PrintLast YtmnhcbaocoofoaaDoorW.PrintMore
open Go.Proofs.YtmnhcbaocoofoaaDoor.Ben (Rm putR addF)
def ofN (l : List Nat) : List Int := l.map fun (u : Nat) => ((u : Nat) : Int)
theorem ofN_len (l : List Nat) : (ofN l).length = l.length := by simp [ofN]
theorem ofN_enc (l : List Nat) : encs (Value.int .i64) (ofN l) = l.map iv := by simp [ofN, encs, iv]
theorem own_R {w : World} {base : Nat} {v : Value} {l : List Nat} (h : w.ownsRow base 3 1 v l.length (l.map iv)) : Kd.R (Kd.int .i64) 3 w base (fun _ => True) v (ofN l) :=
  Kd.R_of_own (by rw [ofN_len, ofN_enc]; exact h) (fun _ _ => trivial)
theorem R_own {w : World} {base : Nat} {v : Value} {l : List Nat} {u : Nat} (h : Kd.R (Kd.int .i64) 3 w base (fun _ => True) v (ofN l ++ [((u : Nat) : Int)])) : w.ownsRow base 3 1 v (l.length + 1) (l.map iv ++ [.int .i64 (u : Int)]) := by
  have e : ofN l ++ [((u : Nat) : Int)] = ofN (l ++ [u]) := by simp [ofN]
  rw [e] at h
  have := Kd.own_of_R h
  rw [ofN_len, ofN_enc, iv_append, List.length_append, List.length_singleton] at this
  exact this
theorem net_step {w0 w w1 : World} {base x b g N n : Nat} {st : Ben.St} {vals : Nat → Value} {v u : Nat} {v1 : Value} (h : Net w base x b g N n st) (hX : NX w base g N vals st.next) (hv : v < N)
    (hR : Kd.R (Kd.int .i64) 3 w1 base (fun _ => True) v1 (ofN (st.next v) ++ [((u : Nat) : Int)])) (hb : Below base w0 w1) (hg : w.grownBy w1 (vals v).ownBlock) (hat : v1.ownBlock = (vals v).ownBlock ∨ ∃ k, v1.ownBlock = some k ∧ w.heap.size ≤ k) :
    Net (w1.setCell ⟨g, v, none⟩ v1) base x b g N n ⟨st.R, Ben.putL st.next v u⟩ ∧ Below base w0 (w1.setCell ⟨g, v, none⟩ v1) ∧ w1.frozen? ⟨g, v, none⟩ = false ∧ w1.cell? ⟨g, v, none⟩ = some (vals v) ∧ w1.cell? ⟨x, 1, none⟩ = some (.slice (some ⟨g, 0, none⟩) N N) := by
  have ho := hX.own v hv
  have hrow : w1.rowIs g 43 N vals := hX.row.of_block (hg.block g hX.row.lt (fun e => hX.other hv e.symm))
  have hgx : g ≠ x := by
    rintro rfl
    obtain ⟨c, hc, _⟩ := hX.row
    rw [h.head] at hc
    injection hc with hc
    injection hc with _ hc
    revert hc; decide
  have hgb : g ≠ b := by
    rintro rfl
    obtain ⟨c, hc, _⟩ := hX.row
    obtain ⟨es, cl, he⟩ := h.map.isMap
    rw [he] at hc
    cases hc
  have hnx : some x ≠ (vals v).ownBlock := by
    intro e
    obtain ⟨cs, hc⟩ := own_typed ho x e.symm
    rw [h.head] at hc
    injection hc with hc
    injection hc with _ hc
    revert hc; decide
  have hnb : some b ≠ (vals v).ownBlock := by
    intro e
    obtain ⟨cs, hc⟩ := own_typed ho b e.symm
    obtain ⟨es, cl, he⟩ := h.map.isMap
    rw [he] at hc
    cases hc
  refine ⟨⟨?_, ?_, ⟨_, hX.append hv (R_own hR) hg hat⟩, h.lx, h.lb⟩, Below.setCell hb hX.low _, hrow.frozen v, hrow.cell hv, (blk_cell ((hg.block x (blk_lt h.head) hnx).trans h.head) 1).trans rfl⟩
  · exact ((Below.heap_setCell _ _ _ x (fun e => hgx e.symm)).trans (hg.block x (blk_lt h.head) hnx)).trans h.head
  · exact h.map.block ((Below.heap_setCell _ _ _ b (fun e => hgb e.symm)).trans (hg.block b h.map.lt hnb))
def Oth (w w' : World) : Prop := ∀ (k : Nat) (cs : Array Value) (t : TypeId), w.heap[k]? = some (Obj.cells cs t (0, 0)) → t ≠ 3 → t ≠ 43 → w'.heap[k]? = w.heap[k]?
theorem Oth.trans {w w' w'' : World} (h : Oth w w') (h' : Oth w' w'') : Oth w w'' := fun k cs t hk h3 h4 => (h' k cs t ((h k cs t hk h3 h4).trans hk) h3 h4).trans (h k cs t hk h3 h4)
theorem Oth.drew {w w' : World} (h : Oth w w') : Oth w w'.drew := h
theorem oth_map {w w1 : World} {b n : Nat} {R : Rm} (h : Mp w b n R) (hg : w.grownBy w1 (some b)) : Oth w w1 := fun k cs t hk _ _ => hg.block k (blk_lt hk) (fun e => by
  injection e with e
  subst e
  obtain ⟨es, cl, he⟩ := h.isMap
  rw [he] at hk
  cases hk)
theorem net_oth {w w1 : World} {base g N : Nat} {vals : Nat → Value} {nx : Nat → List Nat} {v : Nat} (hX : NX w base g N vals nx) (hv : v < N) (hg : w.grownBy w1 (vals v).ownBlock) (v1 : Value) : Oth w (w1.setCell ⟨g, v, none⟩ v1) := fun k cs t hk h3 h4 => by
  have hkg : k ≠ g := by
    rintro rfl
    obtain ⟨c, hc, _⟩ := hX.row
    rw [hk] at hc
    injection hc with hc
    injection hc with _ hc
    exact h4 hc
  refine (Below.heap_setCell _ _ _ k hkg).trans (hg.block k (blk_lt hk) (fun e => ?_))
  obtain ⟨cs', hc⟩ := own_typed (hX.own v hv) k e.symm
  rw [hk] at hc
  injection hc with hc
  injection hc with _ hc
  exact h3 hc
def addR.T1 : Bool × List (List Nat × List Nat) := (true, [([], []), ([0], [0]), ([1], [1]), ([2], [2]), ([], []), ([], []), ([5], [5]), ([6], [6]), ([7], [7]), ([], []), ([8, 9], [8, 9]), ([10], [10]), ([], []), ([12], [12]), ([11, 13], [11, 13]), ([3, 4, 0, 1, 2, 3, 4, 5, 6, 7, 8, 9, 10, 11, 12, 13, 14], [3, 4]), ([15, 14, 14, 0, 1, 2, 3, 4, 5, 6, 7, 8, 9, 10, 11, 12, 13, 14], [14, 15])])
def addR.B1 : List Nat := [0, 1, 3, 7, 0, 0, 32, 96, 224, 0, 992, 2016, 0, 4096, 16352, 32767, 65535]
theorem addR.tab1 : rtab .any (opsOf Tryd.f59 1) = addR.T1 := by kernel_rfl
theorem addR.bits1 : waitsOk addR.T1.2 addR.B1 = true := by kernel_rfl
def addR.T2 : Bool × List (List Nat × List Nat) := (true, [([], []), ([0], [0]), ([1], [1]), ([2], [2]), ([], []), ([], []), ([5], [5]), ([6], [6]), ([7], [7]), ([], []), ([8, 9], [8, 9]), ([10], [10]), ([], []), ([12], [12]), ([11, 13], [11, 13]), ([3, 4, 0, 1, 2, 3, 4, 5, 6, 7, 8, 9, 10, 11, 12, 13, 14], [3, 4]), ([15, 14, 14, 0, 1, 2, 3, 4, 5, 6, 7, 8, 9, 10, 11, 12, 13, 14], [14, 15])])
def addR.B2 : List Nat := [0, 1, 3, 7, 0, 0, 32, 96, 224, 0, 992, 2016, 0, 4096, 16352, 32767, 65535]
theorem addR.tab2 : rtab .any (opsOf Tryd.f59 2) = addR.T2 := by kernel_rfl
theorem addR.bits2 : waitsOk addR.T2.2 addR.B2 = true := by kernel_rfl
set_option maxHeartbeats 2000000 in
set_option maxRecDepth 100000 in
theorem add_calls (base x b g N n : Nat) (st : Ben.St) (v u : Nat) (r : Int) (w : World) (h : Net w base x b g N n st) (hv : v < N) (hu : u < N) (hN : N ≤ 1000) (hn : n < maxLen) (hr : ok64 r) (hl : ∀ j, (st.next j).length ≤ 100000) (hb : base ≤ w.heap.size) :
    Calls Tryd.prog 59 #[.pointer (some ⟨x, 0, none⟩), .int .i64 (v : Int), .int .i64 (u : Int), .int .i64 r] w fun e w' => e = .returned (.tuple #[]) ∧ Net w' base x b g N (n + 1) (addF st v u r) ∧ Below base w w' ∧ Oth w w' := by
  obtain ⟨w1, hmu, hm1, hg1⟩ := mp_update h.map hn (x := v) (y := u) (v := r) (by unfold nd; omega) (by unfold nd; omega) hr
  have HOT := Aside0.mk (oth_map h.map hg1).drew
  have HN := Aside0.mk (h.turned hg1 hm1)
  have HB := Aside0.mk (show Below base w w1 from ⟨hg1.os, hg1.tape, hg1.output, hg1.size, fun k hk => hg1.block k (by omega) (fun e => by injection e with e; have := h.lb; omega)⟩)
  have hx0 : w.cell? ⟨x, 0, none⟩ = some (.map (some b)) := (blk_cell h.head 0).trans rfl
  have hx1 : w1.cell? ⟨x, 1, none⟩ = some (.slice (some ⟨g, 0, none⟩) N N) := (blk_cell HN.out.head 1).trans rfl
  have hvI : ((v : Nat) : Int) < ((N : Nat) : Int) := by omega
  have huI : ((u : Nat) : Int) < ((N : Nat) : Int) := by omega
  have HF := Aside0.mk (show v < N ∧ u < N ∧ N ≤ 1000 ∧ (∀ j, (st.next j).length ≤ 100000) ∧ base ≤ w.heap.size from ⟨hv, hu, hN, hl, hb⟩)
  unfold kv at hmu
  clear hm1 hg1 h hl hn hr hb hv hu hN
  go_enter Tryd.func59, Tryd.ntmps59
  go_wp2
  obtain ⟨vals, hX⟩ := HN.out.next
  have hgv := hX.row.cell HF.out.1
  have HX := Aside0.mk (hX.below (below_drew (Below.refl _ _)))
  have HO := Aside0.mk (own_R (HX.out.own v HF.out.1))
  have HN2 := Aside0.mk (HN.out.below (below_drew (Below.refl _ _)))
  have HB2 := Aside0.mk (below_drew HB.out)
  have HS := Aside0.mk (show base ≤ w1.drew.heap.size from Nat.le_trans HF.out.2.2.2.2 HB.out.size)
  have HL := Aside0.mk (show ((ofN (st.next v)).length + 1) * 8 ≤ 140737488355328 from by have := HF.out.2.2.2.1 v; rw [ofN_len]; omega)
  have hx1 : w1.drew.cell? ⟨x, 1, none⟩ = some (.slice (some ⟨g, 0, none⟩) N N) := hx1
  have hgv : w1.drew.cell? ⟨g, v, none⟩ = some (vals v) := hgv
  clear hX HN HB hmu hx0
  refine start_ (n := 17) (S := fun w' => w'.cell? ⟨x, 1, none⟩ = some (.slice (some ⟨g, 0, none⟩) N N) ∧ w'.cell? ⟨g, v, none⟩ = some (vals v)) (ds := [16]) (Bs 0 17) (by kernel_rfl) rfl rfl ⟨hx1, hgv⟩ (fun hHeld => ?_)
  generalize w1.drew = w2 at HX HO HN2 HB2 HS hx1 hgv hHeld HOT ⊢
  refine with_tabW addR.tab1 addR.bits1 (fun HT_ HW_ => ?_)
  refine pu 0 16 (Bs 1 17) HT_ ?_
  refine pu 1 17 (Bs 2 17) HT_ ?_
  refine pu 2 18 (Bs 3 17) HT_ ?_
  refine pu 4 20 (Br [3,1,1,12]) HT_ ?_
  refine pu 5 21 (Br [3,1,2,11]) HT_ ?_
  refine pu 6 22 (Br [3,1,3,10]) HT_ ?_
  refine pu 7 23 (Br [3,1,4,9]) HT_ ?_
  refine pu 9 25 (Br [3,1,4,1,1,7]) HT_ ?_
  refine pu 12 28 (Br [3,1,4,1,1,2,1,4]) HT_ ?_
  refine ta 3 19 (Br [8,1,1,2,1,4]) HT_ HW_ hHeld ?_
  refine ta 8 24 (Br [10,2,1,4]) HT_ HW_ hHeld ?_
  refine pu 10 26 (Br [11,1,1,4]) HT_ ?_
  refine ta 11 27 (Bs 13 17) HT_ HW_ hHeld ?_
  refine one_ (i := 13) (N := some 29) (Bs 14 17) rfl rfl (one_of HT_.out (by kernel_rfl)) (by decide) (fun K hK => ?_)
  refine value_ (w1 := ?_) (v := ?_) (by rfl) rfl ?_ ?_
  rotate_left 2
  · go_simp
    constructor
    · rfl
    · rfl
  refine hK.out _ _ ⟨cB (lA (Below.refl _ _) _) hx1, cB (lA (Below.refl _ _) _) hgv⟩ (fun hHeld => ?_)
  clear hK K
  refine nm 29 ?_
  refine one_ (i := 14) (N := some 30) (Bs 15 17) rfl rfl (one_of HT_.out (by kernel_rfl)) (by decide) (fun K hK => ?_)
  refine Kd.R_append_step (Kd.int .i64) (w0 := w) base (by rfl) (.tmp 27) (.tmp 29) 43 3 (.int .i64 0) 8 rfl Tryd.underlying43 info3 rfl (by decide) (by omega) (vals v) (ofN (st.next v)) ((u : Nat) : Int) [.int .i64 ((u : Nat) : Int)] (fun _ => True) (fun _ => False) rfl rfl ?aP (fun _ hk => hk.elim) (fun _ _ => trivial) ?aO ?aB ?aS ?aL ?_
  case aP => exact rfl
  case aO => exact HO.out
  case aB => exact HB2.out
  case aS => exact HS.out
  case aL => exact HL.out
  intro v1 w5 ho5 hb5 hg5 hat5
  obtain ⟨A1, c1, rfl⟩ := Kd.R_slice ho5
  generalize (ofN (st.next v) ++ [((u : Nat) : Int)]).length = n1 at *
  have HA := Aside0.mk (net_step HN2.out HX.out HF.out.1 ho5 hb5 hg5 hat5)
  have HT5 := Aside0.mk (net_oth HX.out HF.out.1 hg5 (.slice A1 n1 c1))
  have hf1 := HA.out.2.2.1
  have hc1 := HA.out.2.2.2.1
  clear ho5 hb5 hg5 hat5
  refine hK.out _ _ ⟨HA.out.2.2.2.2, hc1⟩ (fun hHeld => ?_)
  clear hK K
  refine nm 30 ?_
  refine pu 15 31 (Bs 16 17) HT_ ?_
  refine last_ (i := 16) (N := none) (Bs 17 17) rfl rfl (one_of HT_.out (by kernel_rfl)) (by decide) (fun K hK => ?_)
  refine skip_ (w1 := w5.setCell ⟨g, v, none⟩ (.slice A1 n1 c1)) (by rfl) rfl ?_ ?_
  · go_simp
  refine hK.out _ _ ?_
  clear hK K
  refine done_ (done_of HT_.out (by kernel_rfl)) ?_
  have HN7 := Aside0.mk HA.out.1
  have HOT7 := Aside0.mk (HOT.out.trans HT5.out).drew
  have HB7 := Aside0.mk HA.out.2.1
  obtain ⟨nx1, hnx1⟩ : ∃ nx1, nx1 = Ben.putL st.next v u := ⟨_, rfl⟩
  have HNX := Aside0.mk hnx1
  rw [← hnx1] at HN7
  clear HA hnx1 HX HO HN2 HB2 HS HL hx1 hgv hf1 hc1 hHeld
  clear HOT HT5
  generalize w5.setCell ⟨g, v, none⟩ (.slice A1 n1 c1) = w7 at *
  obtain ⟨vals2, hX2⟩ := HN7.out.next
  have hgv := hX2.row.cell HF.out.2.1
  have HX := Aside0.mk (hX2.below (below_drew (Below.refl _ _)))
  have HO := Aside0.mk (own_R (HX.out.own u HF.out.2.1))
  have HN2 := Aside0.mk (HN7.out.below (below_drew (Below.refl _ _)))
  have HB2 := Aside0.mk (below_drew HB7.out)
  have HS := Aside0.mk (show base ≤ w7.drew.heap.size from Nat.le_trans HF.out.2.2.2.2 HB7.out.size)
  have HL := Aside0.mk (show ((ofN (nx1 u)).length + 1) * 8 ≤ 140737488355328 from by
    have := HF.out.2.2.2.1 u; rw [ofN_len, HNX.out]; unfold Ben.putL; split <;> (try rw [List.length_append, List.length_singleton]) <;> omega)
  have hx1 : w7.drew.cell? ⟨x, 1, none⟩ = some (.slice (some ⟨g, 0, none⟩) N N) := (blk_cell HN7.out.head 1).trans rfl
  have hgv : w7.drew.cell? ⟨g, u, none⟩ = some (vals2 u) := hgv
  clear hX2 HN7 HB7
  go_wp2
  refine start_ (n := 17) (S := fun w' => w'.cell? ⟨x, 1, none⟩ = some (.slice (some ⟨g, 0, none⟩) N N) ∧ w'.cell? ⟨g, u, none⟩ = some (vals2 u)) (ds := [16]) (Bs 0 17) (by kernel_rfl) rfl rfl ⟨hx1, hgv⟩ (fun hHeld => ?_)
  generalize w7.drew = w2 at HX HO HN2 HB2 HS hx1 hgv hHeld HOT7 ⊢
  refine with_tabW addR.tab2 addR.bits2 (fun HT_ HW_ => ?_)
  refine pu 0 32 (Bs 1 17) HT_ ?_
  refine pu 1 33 (Bs 2 17) HT_ ?_
  refine pu 2 34 (Bs 3 17) HT_ ?_
  refine pu 4 36 (Br [3,1,1,12]) HT_ ?_
  refine pu 5 37 (Br [3,1,2,11]) HT_ ?_
  refine pu 6 38 (Br [3,1,3,10]) HT_ ?_
  refine pu 7 39 (Br [3,1,4,9]) HT_ ?_
  refine pu 9 41 (Br [3,1,4,1,1,7]) HT_ ?_
  refine pu 12 44 (Br [3,1,4,1,1,2,1,4]) HT_ ?_
  refine ta 3 35 (Br [8,1,1,2,1,4]) HT_ HW_ hHeld ?_
  refine ta 8 40 (Br [10,2,1,4]) HT_ HW_ hHeld ?_
  refine pu 10 42 (Br [11,1,1,4]) HT_ ?_
  refine ta 11 43 (Bs 13 17) HT_ HW_ hHeld ?_
  refine one_ (i := 13) (N := some 45) (Bs 14 17) rfl rfl (one_of HT_.out (by kernel_rfl)) (by decide) (fun K hK => ?_)
  refine value_ (w1 := ?_) (v := ?_) (by rfl) rfl ?_ ?_
  rotate_left 2
  · go_simp
    constructor
    · rfl
    · rfl
  refine hK.out _ _ ⟨cB (lA (Below.refl _ _) _) hx1, cB (lA (Below.refl _ _) _) hgv⟩ (fun hHeld => ?_)
  clear hK K
  refine nm 45 ?_
  refine one_ (i := 14) (N := some 46) (Bs 15 17) rfl rfl (one_of HT_.out (by kernel_rfl)) (by decide) (fun K hK => ?_)
  refine Kd.R_append_step (Kd.int .i64) (w0 := w) base (by rfl) (.tmp 43) (.tmp 45) 43 3 (.int .i64 0) 8 rfl Tryd.underlying43 info3 rfl (by decide) (by omega) (vals2 u) (ofN (nx1 u)) ((v : Nat) : Int) [.int .i64 ((v : Nat) : Int)] (fun _ => True) (fun _ => False) rfl rfl ?aP (fun _ hk => hk.elim) (fun _ _ => trivial) ?aO ?aB ?aS ?aL ?_
  case aP => exact rfl
  case aO => exact HO.out
  case aB => exact HB2.out
  case aS => exact HS.out
  case aL => exact HL.out
  intro v1 w5 ho5 hb5 hg5 hat5
  obtain ⟨A1, c1, rfl⟩ := Kd.R_slice ho5
  generalize (ofN (nx1 u) ++ [((v : Nat) : Int)]).length = n1 at *
  have HA := Aside0.mk (net_step HN2.out HX.out HF.out.2.1 ho5 hb5 hg5 hat5)
  have HT5 := Aside0.mk (net_oth HX.out HF.out.2.1 hg5 (.slice A1 n1 c1))
  have hf1 := HA.out.2.2.1
  have hc1 := HA.out.2.2.2.1
  clear ho5 hb5 hg5 hat5
  refine hK.out _ _ ⟨HA.out.2.2.2.2, hc1⟩ (fun hHeld => ?_)
  clear hK K
  refine nm 46 ?_
  refine pu 15 47 (Bs 16 17) HT_ ?_
  refine last_ (i := 16) (N := none) (Bs 17 17) rfl rfl (one_of HT_.out (by kernel_rfl)) (by decide) (fun K hK => ?_)
  refine skip_ (w1 := w5.setCell ⟨g, u, none⟩ (.slice A1 n1 c1)) (by rfl) rfl ?_ ?_
  · go_simp
  refine hK.out _ _ ?_
  clear hK K
  refine done_ (done_of HT_.out (by kernel_rfl)) ?_
  have HNZ := Aside0.mk HA.out.1
  have HBZ := Aside0.mk HA.out.2.1
  clear HA hf1 hc1
  go_end0
  exact ⟨rfl, by rw [HNX.out] at HNZ; exact HNZ.out, HBZ.out, HOT7.out.trans HT5.out⟩
theorem eqA106 (d : Nat) (w : World) (x0 y0 : Int) (x1 y1 : Int) :
    (Op.equalIn (d + 2) 106 (.agg #[.int .i64 x0, .int .i64 x1]) (.agg #[.int .i64 y0, .int .i64 y1])).run Tryd.prog w = .ok (x0 == y0 && (x1 == y1)) w := by
  refine eqA_of Tryd.underlying106 (by kernel_rfl) ?_
  refine eqf_cons (by rfl) (by go_simp; rfl) (by go_simp; rfl) (by go_simp) ?_
  exact eqf_last (by rfl) (by go_simp; rfl) (by go_simp; rfl) (by go_simp)
def None_ (w : World) : Prop := w.cell? ⟨0, 0, none⟩ = some (.int .i64 (-1)) ∧ w.cell? ⟨0, 1, none⟩ = some (.int .i64 (-1))
theorem None_.below {w w' : World} (h : None_ w) (hb : Below w.heap.size w w') : None_ w' := ⟨pw_cell_below hb h.1, pw_cell_below hb h.2⟩
theorem None_.since {B : Nat} {w w' : World} (h : None_ w) (hb : Below B w w') (h0 : 0 < B) : None_ w' := ⟨(hb.cell (p := ⟨0, 0, none⟩) h0).trans h.1, (hb.cell (p := ⟨0, 1, none⟩) h0).trans h.2⟩
def fillC (k i : Nat) : Value := if i < 2 * k then .int .i64 (-1) else .int .i64 0
theorem fill_step {w : World} {g N k : Nat} (h : w.rowIs g 106 (N * 2) (fillC k)) : ((w.setCell ⟨g, k * 2, none⟩ (.int .i64 (-1))).setCell ⟨g, k * 2 + 1, none⟩ (.int .i64 (-1))).rowIs g 106 (N * 2) (fillC (k + 1)) := by
  refine ((h.set (k * 2) _).set (k * 2 + 1) _).congr (fun i hi => ?_)
  unfold fillC
  by_cases e1 : i = k * 2 + 1
  · rw [if_pos e1, if_pos (by omega)]
  · by_cases e2 : i = k * 2
    · rw [if_neg e1, if_pos e2, if_pos (by omega)]
    · rw [if_neg e1, if_neg e2]
      by_cases e3 : i < 2 * k
      · rw [if_pos e3, if_pos (by omega)]
      · rw [if_neg e3, if_neg (by omega)]
theorem fill_done {w : World} {g N : Nat} (h : w.rowIs g 106 (N * 2) (fillC N)) : WayR w g N (fun _ => none) := h.congr (fun i hi => by
  unfold fillC wayC wayF wayT
  rw [if_pos (by omega)]
  simp)
theorem w64i {x : Int} (h0 : -9223372036854775808 ≤ x) (h1 : x ≤ 9223372036854775807) : wrap64 x = x := by unfold wrap64; omega
theorem row_grown {w w' : World} {g t n : Nat} {f : Nat → Value} {row : Option Nat} (h : w.rowIs g t n f) (hg : w.grownBy w' row) (hne : some g ≠ row) : w'.rowIs g t n f := h.of_block (hg.block g h.lt hne)
theorem row_below {w w' : World} {g t n : Nat} {f : Nat → Value} (h : w.rowIs g t n f) (hb : Below w.heap.size w w') : w'.rowIs g t n f := h.of_block (hb.block g h.lt)
theorem bel_set {B : Nat} {w W : World} (h : Below B w W) {g : Nat} (hg : B ≤ g) (i : Nat) (v : Value) : Below B w (W.setCell ⟨g, i, none⟩ v) := Below.setCell h hg v
theorem q_new (W : World) {base g : Nat} (hb : base ≤ W.heap.size) (s : Nat) (hg : g = W.heap.size) : Kd.Q (Kd.int .i64) 3 (W.alloc (.cells #[.int .i64 ((s : Nat) : Int)] 3)) base (fun _ => True) (.slice (some ⟨g, 0, none⟩) 1 1) (ofN [s]) := by
  subst hg
  have ho : (W.alloc (.cells #[.int .i64 ((s : Nat) : Int)] 3)).ownsRow base 3 1 (.slice (some ⟨W.heap.size, 0, none⟩) 1 1) 1 [.int .i64 ((s : Nat) : Int)] :=
    ⟨rfl, .inr ⟨W.heap.size, 1, _, rfl, hb, heap_alloc_new W _, Nat.le_refl _, by unfold maxLen; omega, rfl, rfl⟩⟩
  exact Kd.Q_of_R (Kd.R_of_own (xs := ofN [s]) ho (fun _ _ => trivial))
theorem first_count (N s : Nat) (hs : s < N) : [s].length + N ≤ N + Ben.reach (Ben.setW (fun _ => none) s s) N := by
  have hr := Ben.reach_set (fun _ => none) (u := s) (v := s) rfl N
  rw [if_pos hs] at hr
  simp only [List.length_singleton]; omega
theorem q_set2 {W : World} {base g : Nat} {v : Value} {xs : List Int} (h : Kd.Q (Kd.int .i64) 3 W base (fun _ => True) v xs) (hb : ∃ cs, W.heap[g]? = some (.cells cs 106 (0, 0))) (i : Nat) (a : Value) (j : Nat) (c : Value) :
    Kd.Q (Kd.int .i64) 3 ((W.setCell ⟨g, i, none⟩ a).setCell ⟨g, j, none⟩ c) base (fun _ => True) v xs ∧ some g ≠ v.ownBlock := by
  obtain ⟨cs, hb⟩ := hb
  have h1 := Kd.Q_set h hb (by decide) i a
  have hb1 : (W.setCell ⟨g, i, none⟩ a).heap[g]? = some (.cells (cs.setIfInBounds i a) 106 (0, 0)) := blk_set hb i a
  exact ⟨Kd.Q_set h1 hb1 (by decide) j c, Kd.Q_ne h hb (by decide)⟩
attribute [local go_sem high] eqA106
def wayR.T15 : Bool × List (List Nat × List Nat) := (true, [([], []), ([], []), ([0, 1], [0, 1]), ([2], [2]), ([], []), ([3, 4], [3, 4]), ([5], [5]), ([6], [6]), ([7, 6], [6, 7]), ([8, 6], [6, 8]), ([9, 6], [6, 9]), ([6], [6]), ([6], [6]), ([11, 12, 6], [6, 11, 12]), ([10, 13, 6], [6, 10, 13]), ([14, 6], [6, 14]), ([6, 15], [6, 15])])
def wayR.B15 : List Nat := [0, 0, 3, 7, 0, 31, 63, 127, 255, 511, 1023, 127, 127, 6271, 16383, 32767, 65535]
theorem wayR.tab15 : rtab .any (opsOf Tryd.f69 15) = wayR.T15 := by kernel_rfl
theorem wayR.bits15 : waitsOk wayR.T15.2 wayR.B15 = true := by kernel_rfl
set_option maxHeartbeats 4000000 in
set_option maxRecDepth 100000 in
theorem ways_calls (base x b g N n : Nat) (st : Ben.St) (s : Nat) (w : World) (h : Net w base x b g N n st) (hs : s < N) (hN : N ≤ 1000) (hadj : ∀ v u, v < N → u ∈ st.next v → u < N) (hl : ∀ j, (st.next j).length ≤ 100000) (hno : None_ w) :
    Calls Tryd.prog 69 #[.pointer (some ⟨x, 0, none⟩), .int .i64 (s : Int)] w fun e w' => ∃ gw, e = .returned (.slice (some ⟨gw, 0, none⟩) N N) ∧ w.heap.size ≤ gw ∧ WayR w' gw N (Ben.waysF N st.R st.next s) ∧ Below w.heap.size w w' := by
  have HN := Aside0.mk h
  have HO := Aside0.mk hno
  have HF := Aside0.mk (show s < N ∧ N ≤ 1000 ∧ (∀ v u, v < N → u ∈ st.next v → u < N) ∧ (∀ j, (st.next j).length ≤ 100000) from ⟨hs, hN, hadj, hl⟩)
  have hx1 : w.cell? ⟨x, 1, none⟩ = some (.slice (some ⟨g, 0, none⟩) N N) := (blk_cell h.head 1).trans rfl
  obtain ⟨g1, hg1⟩ : ∃ g1, g1 = w.heap.size := ⟨_, rfl⟩
  have HG := Aside0.mk hg1
  have hmk : ∀ W, (Instr.makeSlice 104 (.int .i64 ((N : Nat) : Int)) (.int .i64 ((N : Nat) : Int))).run Tryd.prog W = .ok (.slice (some ⟨W.heap.size, 0, none⟩) N N) (W.alloc (.cells (madeCells #[.int .i64 0, .int .i64 0] (N * 2)) 106)) := fun W => by
    obtain ⟨i0, hi, hz0, hz1, hz2⟩ := info_parts info106
    have hr := run_make (P := Tryd.prog) W 104 106 i0 _ Tryd.underlying104 hi hz0 .i64 .i64 N N (by omega) (Int.le_refl _) (by rw [hz2]; omega) (by omega)
    simp only [Int.toNat_natCast, hz1] at hr
    exact hr
  clear h hno hs hN hadj hl hg1
  go_enter Tryd.func69, Tryd.ntmps69
  go_wp2
  rw [← HG.out]
  have hr0 := (World.rowIs_alloc w (madeCells #[.int .i64 0, .int .i64 0] (N * 2)) 106 (fillC 0) (fun i hi => by
    rw [size_madeCells] at hi
    unfold fillC madeCells
    rcases Nat.mod_two_eq_zero_or_one i with e | e <;> simp [hi, e]))
  rw [size_madeCells, ← HG.out] at hr0
  have HR0 := Aside0.mk hr0
  have HB0 := Aside0.mk (lA (Below.refl w.heap.size w) (.cells (madeCells #[.int .i64 0, .int .i64 0] (N * 2)) 106))
  have HNP := Aside0.mk (show 0 < w.heap.size from (World.block_lt_of_cell? w _ HO.out.1))
  clear hr0 hmk hx1
  go_loopg [19] N (fun q v19 wr => ∃ k : Nat, k + q = N ∧ v19 = .int .i64 k ∧ Aside0 (wr.rowIs g1 106 (N * 2) (fillC k)) ∧ Aside0 (Below w.heap.size w wr))
  case atStart => exact ⟨0, Nat.zero_add _, rfl, HR0, HB0⟩
  case round =>
    obtain ⟨k, hk, rfl, HR, HB⟩ := hrel
    clear HR0 HB0
    by_cases hlt : k < N
    · obtain ⟨gq, rfl⟩ : ∃ q, gk = q + 1 := ⟨gk - 1, by omega⟩
      have HQ := Aside0.mk (show k + 1 + gq = N by omega)
      have hltI : ((k : Nat) : Int) < ((N : Nat) : Int) := by omega
      have hw1 : wrap64 (((k : Nat) : Int) + 1) = ((k : Nat) : Int) + 1 := by have := HF.out.2.1; exact w64i (by omega) (by omega)
      have hc0 := HR.out.cell (i := k * 2) (by omega)
      have hc1 := HR.out.cell (i := k * 2 + 1) (by omega)
      have hf0 := HR.out.frozen (k * 2)
      have hf1 := HR.out.frozen (k * 2 + 1)
      obtain ⟨hn0, hn1⟩ := HO.out.since HB.out HNP.out
      have HR1 := Aside0.mk (fill_step HR.out)
      have HB1 := Aside0.mk (bel_set (bel_set HB.out (g := g1) (by rw [HG.out]; exact Nat.le_refl _) (k * 2) (.int .i64 (-1))) (g := g1) (by rw [HG.out]; exact Nat.le_refl _) (k * 2 + 1) (.int .i64 (-1)))
      clear hlt hk
      go_wp2
      go_roundg gq
      case measure => exact Nat.lt_succ_self _
      case rel => exact ⟨k + 1, HQ.out, by go_num, HR1, HB1⟩
    · obtain rfl : k = N := by omega
      have HW0 := Aside0.mk (fill_done HR.out)
      clear hlt hk HR
      have hsI : ((s : Nat) : Int) < ((k : Nat) : Int) := by have := HF.out.1; omega
      have HS0 := Aside0.mk (HW0.out.put (u := s) (v := s) HF.out.1)
      have HSB := Aside0.mk (bel_set (bel_set HB.out (g := g1) (by rw [HG.out]; exact Nat.le_refl _) (s * 2) (.int .i64 ((s : Nat) : Int))) (g := g1) (by rw [HG.out]; exact Nat.le_refl _) (s * 2 + 1) (.int .i64 ((s : Nat) : Int)))
      obtain ⟨hc0, hc1, hf0, hf1⟩ := HW0.out.at HF.out.1
      go_wp2
      have hq0 := q_new ((wr.setCell ⟨g1, s * 2, none⟩ (.int .i64 ((s : Nat) : Int))).setCell ⟨g1, s * 2 + 1, none⟩ (.int .i64 ((s : Nat) : Int))) (base := w.heap.size) (g := wr.heap.size) HSB.out.size s (by simp)
      have HQ0 := Aside0.mk hq0
      have HWA := Aside0.mk (row_below HS0.out (lA (Below.refl _ _) (.cells #[.int .i64 ((s : Nat) : Int)] 3)))
      have HBA := Aside0.mk (lA HSB.out (.cells #[.int .i64 ((s : Nat) : Int)] 3))
      have HI0 := Aside0.mk (Ben.Inv.first st.R st.next (N := k) (s := s) HF.out.1 0)
      have HL0 := Aside0.mk (first_count k s HF.out.1)
      have HE0 : Aside0 (Ben.bfs st.R st.next k [s] (Ben.setW (fun _ => none) s s) = Ben.waysF k st.R st.next s) := ⟨rfl⟩
      clear hq0 HW0 HS0 HSB HB hc0 hc1 hf0 hf1
      go_loopg [7] k (fun f v7 wr => ∃ (q : List Nat) (way : Ben.Way), Aside0 (Kd.Q (Kd.int .i64) 3 wr w.heap.size (fun _ => True) v7 (ofN q)) ∧ Aside0 (WayR wr g1 k way) ∧ Aside0 (Ben.bfs st.R st.next f q way = Ben.waysF k st.R st.next s) ∧ Aside0 (∃ y, Ben.Inv st.R st.next k s y [] q way) ∧ Aside0 (q.length + k ≤ f + Ben.reach way k) ∧ Aside0 (f ≤ k) ∧ Aside0 (Below w.heap.size w wr))
      case atStart => exact ⟨[s], _, HQ0, HWA, HE0, ⟨_, HI0.out⟩, HL0, ⟨Nat.le_refl _⟩, HBA⟩
      case round =>
        obtain ⟨q, way, HQ, HW, HE, HI, HC, HGK, HB⟩ := hrel
        clear HQ0 HWA HE0 HI0 HL0 HBA
        obtain ⟨A7, c7, rfl, hc7⟩ := Kd.Q_slice HQ.out
        obtain ⟨L, hL⟩ : ∃ L, L = (ofN q).length := ⟨_, rfl⟩
        rw [← hL]
        rw [← hL] at HQ hc7
        match q with
        | [] =>
          obtain rfl : L = 0 := by rw [hL]; rfl
          have HWF : Aside0 (WayR wr g1 k (Ben.waysF k st.R st.next s)) := ⟨by
            rw [← HE.out]
            cases gk with
            | zero => exact HW.out
            | succ f => exact HW.out⟩
          clear hL hc7
          go_wp2
          go_ret
          exact ⟨g1, rfl, by rw [HG.out]; exact Nat.le_refl _, HWF.out, HB.out⟩
        | v :: q' =>
          obtain ⟨f, rfl⟩ : ∃ f, gk = f + 1 := ⟨gk - 1, by
            have h1 := HC.out
            have h2 := Ben.reach_le way k
            simp only [List.length_cons] at h1
            omega⟩
          have hLq : L = q'.length + 1 := by rw [hL]; simp [ofN]
          have hLI : decide ((0 : Int) < ((L : Nat) : Int)) = true := decide_eq_true (by omega)
          have hLI2 : decide (0 < L) = true := decide_eq_true (by omega)
          have hLI3 : 0 < L := by omega
          obtain ⟨yi, hyi⟩ := HI.out
          have hvk : v < k := hyi.lt v (hyi.qin v (by simp))
          have HI1 := Aside0.mk (hyi.pop (fun u hu => HF.out.2.2.1 v u hvk hu))
          have HFK : Aside0 (f + 1 ≤ 100000000) := ⟨by have := HGK.out; have := HF.out.2.1; omega⟩
          have HE1 : Aside0 (Ben.bfs st.R st.next f (Ben.visit st.R v (st.next v) q' way).1 (Ben.visit st.R v (st.next v) q' way).2 = Ben.waysF k st.R st.next s) := ⟨HE.out⟩
          have HC1 : Aside0 (q'.length + k ≤ f + Ben.reach way k) := ⟨by have h1 := HC.out; simp only [List.length_cons] at h1; omega⟩
          have hCq := (Kd.Q_reads' HQ.out).2.2
          rw [← hL] at hCq
          obtain ⟨ad, rfl, hq0⟩ := Kd.at_int hCq 0 (by omega) (by omega)
          have hr0 : rd (ofN (v :: q')) 0 = ((v : Nat) : Int) := rfl
          rw [hr0] at hq0
          replace hq0 : wr.cell? ad = some (.int .i64 ((v : Nat) : Int)) := (show ad.add 0 = ad by simp [Addr.add]) ▸ hq0
          obtain ⟨i0, hi0, _, hsz, _⟩ := info_parts info3
          have hcut := cut_from (P := Tryd.prog) 43 3 .i64 Tryd.underlying43 hi0 1 hsz (some ad) L c7 1 (by omega) (by omega)
          have hrq := Kd.Q_drop (k := 1) HQ.out (by rw [← hL]; omega)
          obtain ⟨A8, hA8⟩ : ∃ A1, A1 = (if c7 = 1 then (some ad : Option Addr) else (some ad : Option Addr).map (·.add (1 * 1))) := ⟨_, rfl⟩
          obtain ⟨c8, hc8⟩ : ∃ c1, c1 = c7 - 1 := ⟨_, rfl⟩
          have HQ1 : Aside0 (Kd.Q (Kd.int .i64) 3 wr w.heap.size (fun _ => True) (.slice A8 (L - 1) c8) (ofN q')) := ⟨by rw [hA8, hc8]; exact hrq⟩
          have hc : (1 : Int).toNat = 1 := rfl
          rw [hc, ← hA8, ← hc8] at hcut
          have hN' := HN.out.below HB.out
          obtain ⟨vals, hX⟩ := HN.out.next
          have hx1 : wr.cell? ⟨x, 1, none⟩ = some (.slice (some ⟨g, 0, none⟩) k k) := (blk_cell hN'.head 1).trans rfl
          obtain ⟨An, cn, hvn, hcn, hcells⟩ := hX.at hvk
          have hgv := cB HB.out (hX.row.cell hvk)
          rw [hvn] at hgv
          have hvI : ((v : Nat) : Int) < ((k : Nat) : Int) := by omega
          have HCN := Aside0.mk hcells
          have HVK := Aside0.mk hvk
          obtain ⟨M, hM⟩ : ∃ M, M = (st.next v).length := ⟨_, rfl⟩
          have HM := Aside0.mk hM
          rw [← hM] at hgv
          clear hL hLq hrq hA8 hc8 hc hcells hvn hcn hX hN' hyi hvk hCq hi0 hsz hM HQ HI HE HC hc7 hr0
          go_wp2
          have HI2 : Aside0 (Ben.Inv st.R st.next k s v ((st.next v).drop 0) q' way) := HI1
          have HE2 : Aside0 (Ben.bfs st.R st.next f (Ben.visit st.R v ((st.next v).drop 0) q' way).1 (Ben.visit st.R v ((st.next v).drop 0) q' way).2 = Ben.waysF k st.R st.next s) := HE1
          clear HI1 HE1 hcut hq0 hx1 hgv hLI hLI2 hLI3
          go_loopg [7, 51] M (fun r v7 v51 wx => ∃ (i : Nat) (q2 : List Nat) (way2 : Ben.Way), i + r = M ∧ v51 = .int .i64 i ∧ Aside0 (Kd.Q (Kd.int .i64) 3 wx w.heap.size (fun _ => True) v7 (ofN q2)) ∧ Aside0 (WayR wx g1 k way2) ∧ Aside0 (Ben.bfs st.R st.next f (Ben.visit st.R v ((st.next v).drop i) q2 way2).1 (Ben.visit st.R v ((st.next v).drop i) q2 way2).2 = Ben.waysF k st.R st.next s) ∧ Aside0 (Ben.Inv st.R st.next k s v ((st.next v).drop i) q2 way2) ∧ Aside0 (q2.length + k ≤ f + Ben.reach way2 k) ∧ Aside0 (Below w.heap.size w wx))
          case atStart => exact ⟨0, q', way, Nat.zero_add _, rfl, HQ1, HW, HE2, HI2, HC1, HB⟩
          case round =>
            obtain ⟨i, q2, way2, hi, rfl, HQ, HW, HE, HI, HC, HB⟩ := hrel
            by_cases hlt : i < M
            · obtain ⟨gq, rfl⟩ : ∃ q, gk = q + 1 := ⟨gk - 1, by omega⟩
              have HQ2 := Aside0.mk (show i + 1 + gq = M by omega)
              have hiI : ((i : Nat) : Int) < ((M : Nat) : Int) := by omega
              have hw1 : wrap64 (((i : Nat) : Int) + 1) = ((i : Nat) : Int) + 1 := by have := HF.out.2.2.2 v; have := HM.out; exact w64i (by omega) (by omega)
              have hil : i < (st.next v).length := by have := HM.out; omega
              obtain ⟨u, hu⟩ : ∃ u, u = (st.next v)[i] := ⟨_, rfl⟩
              obtain ⟨ad2, hA2, hc2⟩ := HCN.out i hil
              have hdrop : (st.next v).drop i = u :: (st.next v).drop (i + 1) := by rw [hu]; exact List.drop_eq_getElem_cons hil
              have huk : u < k := HF.out.2.2.1 v u HVK.out (by rw [hu]; exact List.getElem_mem hil)
              rw [← hu] at hc2
              subst hA2
              obtain ⟨hy0, hy1, hyf0, hyf1⟩ := HW.out.at huk
              replace hc2 := cB HB.out hc2
              have hN2 := HN.out.below HB.out
              have hx0 : wr.drew.cell? ⟨x, 0, none⟩ = some (.map (some b)) := (blk_cell hN2.head 0).trans rfl
              have hlk : (Instr.lookup 109 (.map (some b)) (.agg #[.int .i64 ((v : Nat) : Int), .int .i64 ((u : Nat) : Int)]) false).run Tryd.prog wr.drew = .ok (.int .i64 (st.R v u)) wr.drew :=
                mp_look (hN2.below (below_drew (Below.refl _ _))).map (x := v) (y := u) (by unfold nd; have := HVK.out; have := HF.out.2.1; omega) (by unfold nd; have := HF.out.2.1; omega)
              have hno : None_ wr.drew := (HO.out.since HB.out HNP.out).below (below_drew (Below.refl _ _))
              obtain ⟨hn0, hn1⟩ := hno
              have huI : ((u : Nat) : Int) < ((k : Nat) : Int) := by omega
              have hvI : ((v : Nat) : Int) < ((k : Nat) : Int) := by have := HVK.out; omega
              have HU := Aside0.mk huk
              have HBL : Aside0 (∃ cs, wr.drew.heap[g1]? = some (.cells cs 106 (0, 0))) := ⟨by obtain ⟨cs, h, _⟩ := HW.out; exact ⟨cs, h⟩⟩
              have HQD := Aside0.mk (Kd.Q_drew HQ.out)
              have HBD := Aside0.mk (below_drew HB.out)
              have HWD : Aside0 (WayR wr.drew g1 k way2) := ⟨HW.out⟩
              have hz0 := hy0
              have hz1 := hy1
              replace hy0 : wr.drew.cell? ⟨g1, u * 2, none⟩ = some (.int .i64 (wayF way2 u)) := hy0
              replace hy1 : wr.drew.cell? ⟨g1, u * 2 + 1, none⟩ = some (.int .i64 (wayT way2 u)) := hy1
              have HWN := Aside0.mk (way_none (way := way2) (v := u))
              obtain ⟨rr, hrr⟩ : ∃ r, r = st.R v u := ⟨_, rfl⟩
              have HRR := Aside0.mk hrr
              rw [← hrr] at hlk
              have HD := Aside0.mk hdrop
              generalize wayF way2 u = ya at *
              generalize wayT way2 u = yb at *
              clear hrr hu hil huk hdrop hN2 hlt hi HQ HW HB
              by_cases hwu : way2 u = none
              · have hB1 : (ya == -1 && yb == -1) = true := by rw [HWN.out, hwu]; rfl
                by_cases hpos : 0 < rr
                · have hd : decide (0 < rr) = true := decide_eq_true hpos
                  have HSET := Aside0.mk (HWD.out.put (u := u) (v := v) HU.out)
                  have HSB := Aside0.mk (bel_set (bel_set HBD.out (g := g1) (by rw [HG.out]; exact Nat.le_refl _) (u * 2) (.int .i64 ((v : Nat) : Int))) (g := g1) (by rw [HG.out]; exact Nat.le_refl _) (u * 2 + 1) (.int .i64 ((u : Nat) : Int)))
                  have HSQ := Aside0.mk (q_set2 HQD.out HBL.out (u * 2) (.int .i64 ((v : Nat) : Int)) (u * 2 + 1) (.int .i64 ((u : Nat) : Int)))
                  have HCND : Aside0 (way2 u = none ∧ 0 < st.R v u) := ⟨⟨hwu, by rw [← HRR.out]; exact hpos⟩⟩
                  have HE3 : Aside0 (Ben.bfs st.R st.next f (Ben.visit st.R v ((st.next v).drop (i + 1)) (q2 ++ [u]) (Ben.setW way2 u v)).1 (Ben.visit st.R v ((st.next v).drop (i + 1)) (q2 ++ [u]) (Ben.setW way2 u v)).2 = Ben.waysF k st.R st.next s) := ⟨by
                    have h := HE.out
                    rw [HD.out, Ben.visit, if_pos HCND.out] at h
                    exact h⟩
                  have HI3 : Aside0 (Ben.Inv st.R st.next k s v ((st.next v).drop (i + 1)) (q2 ++ [u]) (Ben.setW way2 u v)) := ⟨by
                    have h := HI.out
                    rw [HD.out] at h
                    exact h.take HCND.out⟩
                  have HC3 : Aside0 ((q2 ++ [u]).length + k ≤ f + Ben.reach (Ben.setW way2 u v) k) := ⟨by
                    have h := HC.out
                    rw [Ben.reach_set way2 HCND.out.1, if_pos HU.out, List.length_append, List.length_singleton]; omega⟩
                  have HLQ : Aside0 (((ofN q2).length + 1) * 8 ≤ 140737488355328) := ⟨by
                    have h := HC.out
                    have h2 := Ben.reach_le way2 k
                    have h3 := HF.out.2.1
                    have h4 := HFK.out
                    rw [ofN_len]; omega⟩
                  clear hwu hpos HE HI HC HBD HQD HWD
                  go_wp2
                  refine start_ (n := 17) (S := fun w' => w'.cell? ⟨g1, u * 2, none⟩ = some (.int .i64 ya) ∧ w'.cell? ⟨g1, u * 2 + 1, none⟩ = some (.int .i64 yb) ∧ w'.cell? ⟨0, 0, none⟩ = some (.int .i64 (-1)) ∧ w'.cell? ⟨0, 1, none⟩ = some (.int .i64 (-1)) ∧ w'.cell? ⟨x, 0, none⟩ = some (.map (some b)) ∧ (Instr.lookup 109 (.map (some b)) (.agg #[.int .i64 ((v : Nat) : Int), .int .i64 ((u : Nat) : Int)]) false).run Tryd.prog w' = .ok (.int .i64 rr) w') (ds := []) (Bs 0 17) (by kernel_rfl) rfl rfl ⟨hy0, hy1, hn0, hn1, hx0, hlk⟩ (fun hHeld => ?_)
                  refine with_tabW wayR.tab15 wayR.bits15 (fun HT_ HW_ => ?_)
                  refine pu 0 55 (Bs 1 17) HT_ ?_
                  refine pu 1 56 (Bs 2 17) HT_ ?_
                  refine pu 2 57 (Bs 3 17) HT_ ?_
                  refine ta 3 58 (Bs 4 17) HT_ HW_ hHeld ?_
                  refine ta 4 59 (Bs 5 17) HT_ HW_ hHeld ?_
                  refine pu 5 60 (Bs 6 17) HT_ ?_
                  refine pu 6 61 (Bs 7 17) HT_ ?_
                  refine pu 7 62 (Bs 8 17) HT_ ?_
                  refine pu 8 63 (Bs 9 17) HT_ ?_
                  refine pu 9 64 (Bs 10 17) HT_ ?_
                  refine pu 11 66 (Br [10,1,1,5]) HT_ ?_
                  refine pu 12 67 (Br [10,1,2,4]) HT_ ?_
                  refine pu 13 68 (Br [10,1,3,3]) HT_ ?_
                  refine ta 10 65 (Bs 14 17) HT_ HW_ hHeld ?_
                  refine ta 14 69 (Bs 15 17) HT_ HW_ hHeld ?_
                  refine pu 15 70 (Bs 16 17) HT_ ?_
                  refine pu 16 71 (Bs 17 17) HT_ ?_
                  refine done_ (done_of HT_.out (by kernel_rfl)) ?_
                  go_wp2_with (first | ((with_reducible refine gate_builtin (b := .append) (xs := #[.tmp 78, .tmp 80]) rfl ?_); at_builtin; refine Kd.Q_append (Kd.int .i64) (w0 := w) (W := (wr.drew.setCell ⟨g1, u * 2, none⟩ (.int .i64 ((v : Nat) : Int))).setCell ⟨g1, u * 2 + 1, none⟩ (.int .i64 ((u : Nat) : Int))) w.heap.size rfl (.tmp 78) (.tmp 80) 43 3 (.int .i64 0) 8 rfl Tryd.underlying43 info3 rfl (by decide) (by omega) u7 (ofN q2) ((u : Nat) : Int) [.int .i64 ((u : Nat) : Int)] (fun _ => True) (fun _ => False) rfl ?aX ?aP (fun _ hk => hk.elim) (fun _ _ => trivial) ?aO ?aB ?aS ?aL ?_; (case aX => rw [World.size_setCell, World.size_setCell]; rfl); (case aP => exact rfl); (case aO => exact HSQ.out.1); (case aB => exact HSB.out); (case aS => exact HSB.out.size); (case aL => exact HLQ.out); intro v1 w1 ho1 hb1 hg1 hat1; have HQ4 := Aside0.mk ho1; have HB4 := Aside0.mk hb1; have HW4 := Aside0.mk (row_grown HSET.out hg1 HSQ.out.2); clear ho1 hb1 hg1 hat1))
                  have HQ5 : Aside0 (Kd.Q (Kd.int .i64) 3 w1 w.heap.size (fun _ => True) v1 (ofN (q2 ++ [u]))) := ⟨by have h := HQ4.out; simpa [ofN] using h⟩
                  clear HQ4
                  go_roundg gq
                  case measure => exact Nat.lt_succ_self _
                  case rel => exact ⟨i + 1, q2 ++ [u], _, HQ2.out, by go_num, HQ5, HW4, HE3, HI3, HC3, HB4⟩
                · have hd : decide (0 < rr) = false := decide_eq_false hpos
                  have HNC : Aside0 (¬ (way2 u = none ∧ 0 < st.R v u)) := ⟨fun h => hpos (by rw [HRR.out]; exact h.2)⟩
                  have HC3 : Aside0 (q2.length + k ≤ f + Ben.reach way2 k) := HC
                  have HE3 : Aside0 (Ben.bfs st.R st.next f (Ben.visit st.R v ((st.next v).drop (i + 1)) q2 way2).1 (Ben.visit st.R v ((st.next v).drop (i + 1)) q2 way2).2 = Ben.waysF k st.R st.next s) := ⟨by
                    have h := HE.out
                    rw [HD.out, Ben.visit, if_neg HNC.out] at h
                    exact h⟩
                  have HI3 : Aside0 (Ben.Inv st.R st.next k s v ((st.next v).drop (i + 1)) q2 way2) := ⟨by
                    have h := HI.out
                    rw [HD.out] at h
                    exact h.skip HNC.out⟩
                  clear hwu hpos HE HI HC
                  go_wp2
                  refine start_ (n := 17) (S := fun w' => w'.cell? ⟨g1, u * 2, none⟩ = some (.int .i64 ya) ∧ w'.cell? ⟨g1, u * 2 + 1, none⟩ = some (.int .i64 yb) ∧ w'.cell? ⟨0, 0, none⟩ = some (.int .i64 (-1)) ∧ w'.cell? ⟨0, 1, none⟩ = some (.int .i64 (-1)) ∧ w'.cell? ⟨x, 0, none⟩ = some (.map (some b)) ∧ (Instr.lookup 109 (.map (some b)) (.agg #[.int .i64 ((v : Nat) : Int), .int .i64 ((u : Nat) : Int)]) false).run Tryd.prog w' = .ok (.int .i64 rr) w') (ds := []) (Bs 0 17) (by kernel_rfl) rfl rfl ⟨hy0, hy1, hn0, hn1, hx0, hlk⟩ (fun hHeld => ?_)
                  refine with_tabW wayR.tab15 wayR.bits15 (fun HT_ HW_ => ?_)
                  refine pu 0 55 (Bs 1 17) HT_ ?_
                  refine pu 1 56 (Bs 2 17) HT_ ?_
                  refine pu 2 57 (Bs 3 17) HT_ ?_
                  refine ta 3 58 (Bs 4 17) HT_ HW_ hHeld ?_
                  refine ta 4 59 (Bs 5 17) HT_ HW_ hHeld ?_
                  refine pu 5 60 (Bs 6 17) HT_ ?_
                  refine pu 6 61 (Bs 7 17) HT_ ?_
                  refine pu 7 62 (Bs 8 17) HT_ ?_
                  refine pu 8 63 (Bs 9 17) HT_ ?_
                  refine pu 9 64 (Bs 10 17) HT_ ?_
                  refine pu 11 66 (Br [10,1,1,5]) HT_ ?_
                  refine pu 12 67 (Br [10,1,2,4]) HT_ ?_
                  refine pu 13 68 (Br [10,1,3,3]) HT_ ?_
                  refine ta 10 65 (Bs 14 17) HT_ HW_ hHeld ?_
                  refine ta 14 69 (Bs 15 17) HT_ HW_ hHeld ?_
                  refine pu 15 70 (Bs 16 17) HT_ ?_
                  refine pu 16 71 (Bs 17 17) HT_ ?_
                  refine done_ (done_of HT_.out (by kernel_rfl)) ?_
                  go_wp2
                  go_roundg gq
                  case measure => exact Nat.lt_succ_self _
                  case rel => exact ⟨i + 1, q2, way2, HQ2.out, by go_num, HQD, HWD, HE3, HI3, HC3, HBD⟩
              · have hB1 : (ya == -1 && yb == -1) = false := by
                  rw [HWN.out]
                  cases e : way2 u with
                  | none => exact absurd e hwu
                  | some p => rfl
                have HNC : Aside0 (¬ (way2 u = none ∧ 0 < st.R v u)) := ⟨fun h => hwu h.1⟩
                have HC3 : Aside0 (q2.length + k ≤ f + Ben.reach way2 k) := HC
                have HE3 : Aside0 (Ben.bfs st.R st.next f (Ben.visit st.R v ((st.next v).drop (i + 1)) q2 way2).1 (Ben.visit st.R v ((st.next v).drop (i + 1)) q2 way2).2 = Ben.waysF k st.R st.next s) := ⟨by
                  have h := HE.out
                  rw [HD.out, Ben.visit, if_neg HNC.out] at h
                  exact h⟩
                have HI3 : Aside0 (Ben.Inv st.R st.next k s v ((st.next v).drop (i + 1)) q2 way2) := ⟨by
                  have h := HI.out
                  rw [HD.out] at h
                  exact h.skip HNC.out⟩
                clear hwu HE HI HC
                go_wp2
                refine start_ (n := 17) (S := fun w' => w'.cell? ⟨g1, u * 2, none⟩ = some (.int .i64 ya) ∧ w'.cell? ⟨g1, u * 2 + 1, none⟩ = some (.int .i64 yb) ∧ w'.cell? ⟨0, 0, none⟩ = some (.int .i64 (-1)) ∧ w'.cell? ⟨0, 1, none⟩ = some (.int .i64 (-1)) ∧ w'.cell? ⟨x, 0, none⟩ = some (.map (some b)) ∧ (Instr.lookup 109 (.map (some b)) (.agg #[.int .i64 ((v : Nat) : Int), .int .i64 ((u : Nat) : Int)]) false).run Tryd.prog w' = .ok (.int .i64 rr) w') (ds := []) (Bs 0 17) (by kernel_rfl) rfl rfl ⟨hy0, hy1, hn0, hn1, hx0, hlk⟩ (fun hHeld => ?_)
                refine with_tabW wayR.tab15 wayR.bits15 (fun HT_ HW_ => ?_)
                refine pu 0 55 (Bs 1 17) HT_ ?_
                refine pu 1 56 (Bs 2 17) HT_ ?_
                refine pu 2 57 (Bs 3 17) HT_ ?_
                refine ta 3 58 (Bs 4 17) HT_ HW_ hHeld ?_
                refine ta 4 59 (Bs 5 17) HT_ HW_ hHeld ?_
                refine pu 5 60 (Bs 6 17) HT_ ?_
                refine pu 6 61 (Bs 7 17) HT_ ?_
                refine po 7 62 (Bs 8 17) HT_ ?_
                refine po 8 63 (Bs 9 17) HT_ ?_
                refine po 9 64 (Bs 10 17) HT_ ?_
                refine po 10 65 (Bs 11 17) HT_ ?_
                refine po 11 66 (Bs 12 17) HT_ ?_
                refine po 12 67 (Bs 13 17) HT_ ?_
                refine po 13 68 (Bs 14 17) HT_ ?_
                refine po 14 69 (Bs 15 17) HT_ ?_
                refine po 15 70 (Bs 16 17) HT_ ?_
                refine pu 16 71 (Bs 17 17) HT_ ?_
                refine done_ (done_of HT_.out (by kernel_rfl)) ?_
                go_wp2
                go_roundg gq
                case measure => exact Nat.lt_succ_self _
                case rel => exact ⟨i + 1, q2, way2, HQ2.out, by go_num, HQD, HWD, HE3, HI3, HC3, HBD⟩
            · obtain rfl : i = M := by omega
              have hdn : (st.next v).drop i = [] := List.drop_eq_nil_of_le (by have := HM.out; omega)
              have HE3 : Aside0 (Ben.bfs st.R st.next f q2 way2 = Ben.waysF k st.R st.next s) := ⟨by have h := HE.out; rw [hdn] at h; exact h⟩
              have HI3 : Aside0 (∃ y, Ben.Inv st.R st.next k s y [] q2 way2) := ⟨⟨v, by have h := HI.out; rw [hdn] at h; exact h⟩⟩
              have HGK3 : Aside0 (f ≤ k) := ⟨by have := HGK.out; omega⟩
              clear hdn hlt hi HE HI
              go_wp2
              go_roundg f
              case measure => exact Nat.lt_succ_self _
              case rel => exact ⟨q2, way2, HQ, HW, HE3, HI3, HC, HGK3, HB⟩
end Go.Proofs.YtmnhcbaocoofoaaDoor.P
