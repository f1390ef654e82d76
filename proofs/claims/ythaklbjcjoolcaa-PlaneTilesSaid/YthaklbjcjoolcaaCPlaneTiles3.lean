/- Proved here: what functions that the law reaches compute, and plain laws of that. Put together by a program; a part was printed by one (wip/printplus.py). -/
import Derived.Test.YthaklbjcjoolcaaCPlaneTiles2
import Derived.Test.YthaklbjcjoolcaaCPlaneTiles1
import Derived.Outline
import Derived.Deep.DeepMust
import Derived.Deep.LoopGhost
import Derived.Test.YthaklbjcjoolcaaBPlaneTiles1
import Derived.StillTailTactics
set_option linter.unusedVariables false
set_option linter.unusedSimpArgs false
namespace Go.Proofs.Ythaklbjcjoolcaa.Geo

def cyc : List Pt → List (Pt × Pt)
 | [] => []
 | a :: r => ed ((a :: r) ++ [a])
def Wd (N X : Int) : List Pt → Pt → Int
 | [], _ => 0
 | a :: r, z => pw N X ((a :: r) ++ [a]) z
theorem ed_snoc (A : List Pt) (p q : Pt) : ed (A ++ [p, q]) = ed (A ++ [p]) ++ [(p, q)] := by
 have := ed_split p [q] A; rw [this]; simp [ed]
theorem pw_snoc (N X : Int) (A : List Pt) (p q z : Pt) : pw N X (A ++ [p, q]) z = pw N X (A ++ [p]) z + w N X p q z := by
 have := pw_split N X p [q] z A; rw [this]; simp [pw]
theorem cyc_two (a b : Pt) (A B : List Pt) : cyc ((a :: A) ++ (b :: B)) = ed ((a :: A) ++ [b]) ++ ed ((b :: B) ++ [a]) := by
 have : cyc ((a :: A) ++ (b :: B)) = ed ((a :: A) ++ b :: (B ++ [a])) := by simp [cyc]
 rw [this, ed_split]; simp
theorem Wd_two (N X : Int) (a b : Pt) (A B : List Pt) (z : Pt) : Wd N X ((a :: A) ++ (b :: B)) z = pw N X ((a :: A) ++ [b]) z + pw N X ((b :: B) ++ [a]) z := by
 have : Wd N X ((a :: A) ++ (b :: B)) z = pw N X ((a :: A) ++ b :: (B ++ [a])) z := by simp [Wd]
 rw [this, pw_split]; simp
theorem mem_cyc_rot (A B : List Pt) (e : Pt × Pt) : e ∈ cyc (A ++ B) → e ∈ cyc (B ++ A) := by
 cases A with
 | nil => simp
 | cons a A =>
  cases B with
  | nil => simp
  | cons b B =>
   rw [cyc_two, cyc_two, List.mem_append, List.mem_append]; exact Or.symm
theorem Wd_rot (N X : Int) (A B : List Pt) (z : Pt) : Wd N X (A ++ B) z = Wd N X (B ++ A) z := by
 cases A with
 | nil => simp
 | cons a A =>
  cases B with
  | nil => simp
  | cons b B => rw [Wd_two, Wd_two]; omega
theorem ed_mem : ∀ (l : List Pt) (e : Pt × Pt), e ∈ ed l → e.1 ∈ l ∧ e.2 ∈ l
 | [], _, h => by simp [ed] at h
 | [_], _, h => by simp [ed] at h
 | a :: b :: r, e, h => by
  rw [ed, List.mem_cons] at h
  rcases h with rfl | h
  ·simp
  ·have := ed_mem (b :: r) e h
   exact ⟨List.mem_cons_of_mem _ this.1, List.mem_cons_of_mem _ this.2⟩
theorem ed_snd (a : Pt) (l : List Pt) (e : Pt × Pt) (h : e ∈ ed (a :: l)) : e.2 ∈ l := by
 cases l with
 | nil => simp [ed] at h
 | cons b r =>
  rw [ed, List.mem_cons] at h
  rcases h with rfl | h
  ·simp
  ·exact (ed_mem _ e h).2
theorem ed_fst (z : Pt) : ∀ (l : List Pt) (e : Pt × Pt), e ∈ ed (l ++ [z]) → e.1 ∈ l
 | [], e, h => by simp [ed] at h
 | [a], e, h => by simp [ed] at h; simp [h]
 | a :: b :: r, e, h => by
  rw [List.cons_append, List.cons_append, ed, List.mem_cons] at h
  rcases h with rfl | h
  ·simp
  ·exact List.mem_cons_of_mem _ (ed_fst z (b :: r) e h)
theorem cyc_mem (l : List Pt) (e : Pt × Pt) (h : e ∈ cyc l) : e.1 ∈ l ∧ e.2 ∈ l := by
 cases l with
 | nil => simp [cyc] at h
 | cons a r =>
  rw [cyc] at h
  refine ⟨ed_fst _ _ _ h, ?_⟩
  have := ed_snd a (r ++ [a]) e h
  simp at this ⊢; rcases this with h | h <;> simp [h]
theorem cyc_from (l : List Pt) (x : Pt) (h : x ∈ l) : ∃ y, (x, y) ∈ cyc l := by
 obtain ⟨A, B, rfl⟩ := List.append_of_mem h
 have : ∃ y, (x, y) ∈ cyc ((x :: B) ++ A) := by
  rw [List.cons_append, cyc]
  cases hl : B ++ A with
  | nil => exact ⟨x, by simp [ed]⟩
  | cons y r => exact ⟨y, by simp [ed]⟩
 obtain ⟨y, hy⟩ := this
 exact ⟨y, mem_cyc_rot _ _ _ hy⟩
theorem cyc_path (a z : Pt) (L : List Pt) : cyc (a :: (L ++ [z])) = ed (a :: (L ++ [z])) ++ [(z, a)] := by
 have : cyc (a :: (L ++ [z])) = ed ((a :: L) ++ [z, a]) := by simp [cyc]
 rw [this, ed_snoc]; rfl
theorem Wd_path (N X : Int) (a z : Pt) (L : List Pt) (q : Pt) : Wd N X (a :: (L ++ [z])) q = pw N X (a :: (L ++ [z])) q + w N X z a q := by
 have : Wd N X (a :: (L ++ [z])) q = pw N X ((a :: L) ++ [z, a]) q := by simp [Wd]
 rw [this, pw_snoc]; rfl

structure Sim (l : List Pt) : Prop where
 len : 3 ≤ l.length
 nd : l.Nodup
 na : ∀ e ∈ cyc l, ∀ f ∈ cyc l, e.2 ≠ f.1 → f.2 ≠ e.1 → e ≠ f → Dis e.1 e.2 f.1 f.2
 ad : ∀ e ∈ cyc l, ∀ f ∈ cyc l, e.2 = f.1 → ¬ On f.1 f.2 e.1 ∧ ¬ On e.1 e.2 f.2
theorem Sim.rot {A B : List Pt} (h : Sim (A ++ B)) : Sim (B ++ A) where
 len := by have := h.len; rw [List.length_append] at *; omega
 nd := by
  have := h.nd; rw [List.nodup_append] at *
  exact ⟨this.2.1, this.1, fun a ha b hb e => this.2.2 b hb a ha e.symm⟩
 na e he f hf := h.na e (mem_cyc_rot _ _ _ he) f (mem_cyc_rot _ _ _ hf)
 ad e he f hf := h.ad e (mem_cyc_rot _ _ _ he) f (mem_cyc_rot _ _ _ hf)
theorem Sim.off {l : List Pt} (h : Sim l) {e : Pt × Pt} (he : e ∈ cyc l) {q : Pt} (hq : q ∈ l) (h1 : q ≠ e.1) (h2 : q ≠ e.2) : ¬ On e.1 e.2 q := by
 obtain ⟨y, hy⟩ := cyc_from l q hq
 by_cases hye : y = e.1
 ·exact (h.ad _ hy e he hye).1
 ·exact (h.na _ hy e he hye (fun k => h2 k.symm) (fun k => h1 (by rw [← k]))).2.2.1

theorem Sim.sub {P : List Pt} (hP : Sim P) {a z : Pt} {L : List Pt} (hL : L ≠ []) (hsub : ∀ e ∈ ed (a :: (L ++ [z])), e ∈ cyc P) (nd : (a :: (L ++ [z])).Nodup)
  (hm : ∀ x ∈ a :: (L ++ [z]), x ∈ P)
  (h1 : ∀ f ∈ ed (a :: (L ++ [z])), f.1 ≠ a → f.1 ≠ z → f.2 ≠ a → f.2 ≠ z → Dis z a f.1 f.2) (h2 : ∀ q ∈ L, ¬ On z a q) : Sim (a :: (L ++ [z])) := by
 have hza : z ≠ a := by
  rw [List.nodup_cons] at nd; intro e; apply nd.1; simp [e]
 have haL : a ∉ L := by rw [List.nodup_cons] at nd; intro e; apply nd.1; simp [e]
 have hzL : z ∉ L := by
  rw [List.nodup_cons, List.nodup_append] at nd; intro e; exact nd.2.2.2 z e z (by simp) rfl
 have fst : ∀ f ∈ ed (a :: (L ++ [z])), f.1 ≠ z := by
  intro f hf e
  have := ed_fst z (a :: L) f hf
  rw [e, List.mem_cons] at this
  rcases this with h | h
  ·exact hza h
  ·exact hzL h
 have snd : ∀ f ∈ ed (a :: (L ++ [z])), f.2 ≠ a := by
  intro f hf e
  have := ed_snd a (L ++ [z]) f hf
  rw [e] at this
  simp at this
  rcases this with h | h
  ·exact haL h
  ·exact hza h.symm
 have saz : ∀ f ∈ ed (a :: (L ++ [z])), f.1 = a → f.2 ≠ z := by
  intro f hf e1 e2
  cases L with
  | nil => exact hL rfl
  | cons m L =>
   rw [List.cons_append, ed, List.mem_cons] at hf
   rcases hf with rfl | hf
   ·simp at e2; apply hzL; simp [e2]
   ·have := ed_fst z (m :: L) f hf
    rw [e1] at this; exact haL this
 have hmem : ∀ f ∈ cyc (a :: (L ++ [z])), f ∈ ed (a :: (L ++ [z])) ∨ f = (z, a) := by
  intro f hf; rw [cyc_path, List.mem_append] at hf
  rcases hf with h | h
  ·exact .inl h
  ·exact .inr (by simpa using h)
 refine ⟨?_, nd, ?_, ?_⟩
 ·cases L with
  | nil => exact absurd rfl hL
  | cons m L => simp
 ·intro e he f hf n1 n2 n3
  rcases hmem e he with he | rfl <;> rcases hmem f hf with hf | rfl
  ·exact hP.na e (hsub e he) f (hsub f hf) n1 n2 n3
  ·exact (h1 e he (fun k => n2 k.symm) (fst e he) (snd e he) n1).swap
  ·exact h1 f hf (fun k => n1 k.symm) (fst f hf) (snd f hf) n2
  ·exact absurd rfl n3
 ·intro e he f hf n1
  rcases hmem e he with he | rfl <;> rcases hmem f hf with hf | rfl
  ·exact hP.ad e (hsub e he) f (hsub f hf) n1
  ·-- e leads to z
   have e1 : e.1 ≠ a := fun k => saz e he k n1
   have hm1 := ed_mem _ _ he
   have hL1 : e.1 ∈ L := by
    have := ed_fst z (a :: L) e he
    rw [List.mem_cons] at this; exact this.resolve_left e1
   refine ⟨h2 _ hL1, ?_⟩
   exact hP.off (hsub e he) (hm a (by simp)) (fun k => e1 k.symm) (fun k => hza (n1.symm.trans k.symm))
  ·have n1' : a = f.1 := n1
   have e2 : f.2 ≠ z := saz f hf n1'.symm
   have hL1 : f.2 ∈ L := by
    have := ed_snd a (L ++ [z]) f hf
    simp at this; exact this.resolve_right e2
   refine ⟨?_, h2 _ hL1⟩
   exact hP.off (hsub f hf) (hm z (by simp)) (fun k => hza (by rw [n1', ← k])) (fun k => e2 k.symm)
  ·exact absurd n1.symm hza

def Sp (P : List Pt) (w : Pt) (R : List Pt) : Prop := ∃ A B, P = A ++ w :: B ∧ R = B ++ A
theorem Sp.head (w : Pt) (R : List Pt) : Sp (w :: R) w R := ⟨[], R, rfl, by simp⟩
theorem Sp.of_rot {A B : List Pt} {w : Pt} {R : List Pt} (h : Sp (A ++ B) w R) : Sp (B ++ A) w R := by
 obtain ⟨C, D, h1, h2⟩ := h
 rcases List.append_eq_append_iff.mp h1 with ⟨E, e1, e2⟩ | ⟨E, e1, e2⟩
 ·refine ⟨E, D ++ A, by rw [e2]; simp, by rw [h2, e1]; simp⟩
 ·cases E with
  | nil => refine ⟨[], D ++ C, ?_, by rw [h2]; simp⟩; simp at e1 e2; rw [e1, ← e2]; simp
  | cons x E =>
   simp at e2
   obtain ⟨rfl, e2⟩ := e2
   refine ⟨B ++ C, E, by rw [e1]; simp, by rw [h2, e2]; simp⟩
theorem Sp.sim {P : List Pt} {w : Pt} {R : List Pt} (h : Sp P w R) (hP : Sim P) : Sim (w :: R) := by
 obtain ⟨A, B, rfl, rfl⟩ := h; exact hP.rot
theorem Sp.len {P : List Pt} {w : Pt} {R : List Pt} (h : Sp P w R) : P.length = R.length + 1 := by
 obtain ⟨A, B, rfl, rfl⟩ := h; simp; omega
theorem Sp.mem {P : List Pt} {w : Pt} {R : List Pt} (h : Sp P w R) (x : Pt) : x ∈ P ↔ x = w ∨ x ∈ R := by
 obtain ⟨A, B, rfl, rfl⟩ := h; simp; constructor
 ·rintro (h | h | h) <;> simp [h]
 ·rintro (h | h | h) <;> simp [h]
theorem Sp.wd {P : List Pt} {w : Pt} {R : List Pt} (h : Sp P w R) (N X : Int) (z : Pt) : Wd N X P z = Wd N X (w :: R) z := by
 obtain ⟨A, B, rfl, rfl⟩ := h; exact Wd_rot N X A (w :: B) z
theorem Sp.cyc {P : List Pt} {w : Pt} {R : List Pt} (h : Sp P w R) (e : Pt × Pt) : e ∈ cyc P ↔ e ∈ Geo.cyc (w :: R) := by
 obtain ⟨A, B, rfl, rfl⟩ := h; exact ⟨mem_cyc_rot A (w :: B) e, mem_cyc_rot (w :: B) A e⟩
theorem cons_uniq {w : Pt} : ∀ {A B C D : List Pt}, w ∉ A → w ∉ C → A ++ w :: B = C ++ w :: D → A = C ∧ B = D
 | [], B, [], D, _, _, h => by simpa using h
 | [], B, c :: C, D, _, h2, h => by simp at h; exact absurd (by simp [h.1]) h2
 | a :: A, B, [], D, h1, _, h => by simp at h; exact absurd (by simp [h.1]) h1
 | a :: A, B, c :: C, D, h1, h2, h => by
  simp at h
  have := cons_uniq (fun k => h1 (by simp [k])) (fun k => h2 (by simp [k])) h.2
  exact ⟨by rw [h.1, this.1], this.2⟩
theorem Sp.uniq {P : List Pt} {w : Pt} {R Q : List Pt} (nd : P.Nodup) (h : Sp P w R) (k : Sp P w Q) : R = Q := by
 obtain ⟨A, B, rfl, rfl⟩ := h
 obtain ⟨C, D, e, rfl⟩ := k
 have n1 : w ∉ A := by
  rw [List.nodup_append] at nd; intro h; exact nd.2.2 w h w (by simp) rfl
 have n2 : w ∉ C := by
  rw [e, List.nodup_append] at nd; intro h; exact nd.2.2 w h w (by simp) rfl
 obtain ⟨rfl, rfl⟩ := cons_uniq n1 n2 e; rfl
theorem Sp.ex {P : List Pt} {w : Pt} (h : w ∈ P) : ∃ R, Sp P w R := by
 obtain ⟨A, B, rfl⟩ := List.append_of_mem h; exact ⟨B ++ A, A, B, rfl, rfl⟩
theorem ends2 {R : List Pt} (h : 2 ≤ R.length) : ∃ v M u, R = v :: (M ++ [u]) := by
 cases R with
 | nil => simp at h
 | cons v R =>
  have hR : R ≠ [] := by rintro rfl; simp at h
  exact ⟨v, R.dropLast, R.getLast hR, by rw [List.dropLast_concat_getLast]⟩

theorem tri_kd {N X : Int} (hX : X = 0 ∨ X = 1) {a b c z : Pt} (h : 0 < T a b c) (h1 : ht N b ≤ ht N z) (h2 : ht N b < ht N a) (h3 : ht N b < ht N c) (k : 0 < T b a z + X) : 0 < T b c z + X := by
 have e : T b c z * (ht N a - ht N b) = T b a z * (ht N c - ht N b) + T a b c * (ht N z - ht N b) := by unfold ht aff T; grind
 have m := mzz (Int.le_of_lt h) (show 0 ≤ ht N z - ht N b by omega)
 have m2 := mzz (show 0 ≤ T b a z by omega) (show 0 ≤ ht N c - ht N b by omega)
 rcases hX with rfl | rfl
 ·have m3 := mpp (show 0 < T b a z by omega) (show 0 < ht N c - ht N b by omega)
  have := ps (c := ht N a - ht N b) (x := T b c z) (by omega) (by omega)
  omega
 ·by_cases t : T b c z < 0
  ·have := mnp t (show 0 < ht N a - ht N b by omega); omega
  ·omega
theorem tri_ku {N X : Int} (hX : X = 0 ∨ X = 1) {a b c z : Pt} (h : 0 < T a b c) (h1 : ht N z < ht N a) (h2 : ht N b < ht N a) (h3 : ht N c < ht N a) (k : 0 < T b a z + X) : 0 < T c a z + X := by
 have e : T c a z * (ht N a - ht N b) = T b a z * (ht N a - ht N c) + T a b c * (ht N a - ht N z) := by unfold ht aff T; grind
 have m := mpp h (show 0 < ht N a - ht N z by omega)
 have m2 := mzz (show 0 ≤ T b a z by omega) (show 0 ≤ ht N a - ht N c by omega)
 have := ps (c := ht N a - ht N b) (x := T c a z) (by omega) (by omega)
 omega
theorem w_cases {N X : Int} (hX : X = 0 ∨ X = 1) (a b z : Pt) :
  (ht N a ≤ ht N z ∧ ht N z < ht N b ∧ (w N X a b z = if 0 < T a b z + X then 1 else 0)) ∨
  (ht N b ≤ ht N z ∧ ht N z < ht N a ∧ (w N X a b z = if 0 < T b a z + X then -1 else 0)) ∨
  ((ht N z < ht N a ∧ ht N z < ht N b ∨ ht N a ≤ ht N z ∧ ht N b ≤ ht N z) ∧ w N X a b z = 0) := by
 unfold w
 by_cases h1 : ht N a ≤ ht N z <;> by_cases h2 : ht N z < ht N b
 ·refine .inl ⟨h1, h2, ?_⟩
  rw [if_neg (c := ht N b ≤ ht N z ∧ ht N z < ht N a ∧ 0 < T b a z + X) (by omega)]
  by_cases h3 : 0 < T a b z + X <;> simp [h1, h2, h3]
 ·refine .inr (.inr ⟨.inr ⟨h1, by omega⟩, ?_⟩); rw [if_neg (by omega), if_neg (by omega)]
 ·refine .inr (.inr ⟨.inl ⟨by omega, h2⟩, ?_⟩); rw [if_neg (by omega), if_neg (by omega)]
 ·refine .inr (.inl ⟨by omega, by omega, ?_⟩)
  rw [if_neg (by omega)]
  by_cases h3 : 0 < T b a z + X
  ·rw [if_pos ⟨by omega, by omega, h3⟩, if_pos h3]
  ·rw [if_neg (fun c => h3 c.2.2), if_neg h3]
theorem tri1 {N X : Int} (hX : X = 0 ∨ X = 1) {a b c : Pt} (h : 0 < T a b c) (z : Pt) : 0 ≤ w N X a b z + w N X b c z + w N X c a z ∧ w N X a b z + w N X b c z + w N X c a z ≤ 1 := by
 have hb : 0 < T b c a := by rw [T_cyc]; exact h
 have hc : 0 < T c a b := by rw [T_cyc2]; exact h
 have d1 := fun p q r k => tri_kd (N := N) hX (z := z) h p q r k
 have d2 := fun p q r k => tri_kd (N := N) hX (z := z) hb p q r k
 have d3 := fun p q r k => tri_kd (N := N) hX (z := z) hc p q r k
 have u1 := fun p q r k => tri_ku (N := N) hX (z := z) h p q r k
 have u2 := fun p q r k => tri_ku (N := N) hX (z := z) hb p q r k
 have u3 := fun p q r k => tri_ku (N := N) hX (z := z) hc p q r k
 rcases w_cases (N := N) hX a b z with ⟨p1, p2, e1⟩ | ⟨p1, p2, e1⟩ | ⟨p1, e1⟩ <;>
 rcases w_cases (N := N) hX b c z with ⟨q1, q2, e2⟩ | ⟨q1, q2, e2⟩ | ⟨q1, e2⟩ <;>
 rcases w_cases (N := N) hX c a z with ⟨r1, r2, e3⟩ | ⟨r1, r2, e3⟩ | ⟨r1, e3⟩ <;> (try omega) <;> rw [e1, e2, e3] <;> clear e1 e2 e3
 all_goals (split <;> split <;> (try omega))
 all_goals (rename_i x y; first
  | exact absurd (d1 (by omega) (by omega) (by omega) (by assumption)) (by assumption)
  | exact absurd (d2 (by omega) (by omega) (by omega) (by assumption)) (by assumption)
  | exact absurd (d3 (by omega) (by omega) (by omega) (by assumption)) (by assumption)
  | exact absurd (u1 (by omega) (by omega) (by omega) (by assumption)) (by assumption)
  | exact absurd (u2 (by omega) (by omega) (by omega) (by assumption)) (by assumption)
  | exact absurd (u3 (by omega) (by omega) (by omega) (by assumption)) (by assumption))
theorem Wd_three (N X : Int) (a b c z : Pt) : Wd N X [a, b, c] z = w N X a b z + w N X b c z + w N X c a z := by simp [Wd, pw]; omega
theorem Wd_back3 (N X : Int) (a b c z : Pt) : Wd N X [c, b, a] z = - Wd N X [a, b, c] z := by
 rw [Wd_three, Wd_three, w_swap N X a b z, w_swap N X b c z, w_swap N X c a z]; omega
theorem triW {N X s : Int} (hX : X = 0 ∨ X = 1) (hs : s = 1 ∨ s = -1) {a b c : Pt} (h : 0 < s * T a b c) (z : Pt) : 0 ≤ s * Wd N X [a, b, c] z ∧ s * Wd N X [a, b, c] z ≤ 1 := by
 rcases hs with rfl | rfl
 ·rw [Int.one_mul] at *; rw [Wd_three]; exact tri1 hX h z
 ·have h' : 0 < T c b a := by rw [T_swap3]; omega
  have := tri1 (N := N) hX h' z
  have e := Wd_back3 N X a b c z
  rw [← Wd_three, e] at this; omega
theorem tri_in1 {N : Int} {a b c q : Pt} (h : 0 < T a b c) (i1 : 0 ≤ T a b q) (i2 : 0 ≤ T b c q) (i3 : 0 ≤ T c a q) (ha : ht N q ≠ ht N a) (hb : ht N q ≠ ht N b) (hc : ht N q ≠ ht N c) :
  ∃ X, (X = 0 ∨ X = 1) ∧ w N X a b q + w N X b c q + w N X c a q = 1 := by
 have e : T a b c = T b c q + T c a q + T a b q := by unfold T; grind
 have eh : T b c q * (ht N a - ht N q) + T c a q * (ht N b - ht N q) + T a b q * (ht N c - ht N q) = 0 := by unfold ht aff T; grind
 have z1 : ¬ (T a b q = 0 ∧ T b c q = 0) := by
  rintro ⟨k1, k2⟩; rw [k1, k2, Int.zero_mul, Int.zero_mul] at eh
  have : T c a q ≠ 0 := by omega
  have := Int.mul_ne_zero this (show ht N b - ht N q ≠ 0 by omega); omega
 have z2 : ¬ (T b c q = 0 ∧ T c a q = 0) := by
  rintro ⟨k1, k2⟩; rw [k1, k2, Int.zero_mul, Int.zero_mul] at eh
  have : T a b q ≠ 0 := by omega
  have := Int.mul_ne_zero this (show ht N c - ht N q ≠ 0 by omega); omega
 have z3 : ¬ (T c a q = 0 ∧ T a b q = 0) := by
  rintro ⟨k1, k2⟩; rw [k1, k2, Int.zero_mul, Int.zero_mul] at eh
  have : T b c q ≠ 0 := by omega
  have := Int.mul_ne_zero this (show ht N a - ht N q ≠ 0 by omega); omega
 have lo : ¬ (ht N q < ht N a ∧ ht N q < ht N b ∧ ht N q < ht N c) := by
  rintro ⟨k1, k2, k3⟩
  have m1 := mzz i2 (show 0 ≤ ht N a - ht N q by omega)
  have m2 := mzz i3 (show 0 ≤ ht N b - ht N q by omega)
  have m3 := mzz i1 (show 0 ≤ ht N c - ht N q by omega)
  have : T b c q = 0 ∨ 0 < T b c q := by omega
  rcases this with t | t
  ·have : T c a q = 0 ∨ 0 < T c a q := by omega
   rcases this with t2 | t2
   ·exact z2 ⟨t, t2⟩
   ·have := mpp t2 (show 0 < ht N b - ht N q by omega); omega
  ·have := mpp t (show 0 < ht N a - ht N q by omega); omega
 have hi : ¬ (ht N a < ht N q ∧ ht N b < ht N q ∧ ht N c < ht N q) := by
  rintro ⟨k1, k2, k3⟩
  have m1 := mzn i2 (show ht N a - ht N q ≤ 0 by omega)
  have m2 := mzn i3 (show ht N b - ht N q ≤ 0 by omega)
  have m3 := mzn i1 (show ht N c - ht N q ≤ 0 by omega)
  have : T b c q = 0 ∨ 0 < T b c q := by omega
  rcases this with t | t
  ·have : T c a q = 0 ∨ 0 < T c a q := by omega
   rcases this with t2 | t2
   ·exact z2 ⟨t, t2⟩
   ·have := mpn t2 (show ht N b - ht N q < 0 by omega); omega
  ·have := mpn t (show ht N a - ht N q < 0 by omega); omega
 have s1 := T_swap a b q; have s2 := T_swap b c q; have s3 := T_swap c a q
 have a0 := w_cases (N := N) (.inl rfl) a b q; have b0 := w_cases (N := N) (.inl rfl) b c q; have c0 := w_cases (N := N) (.inl rfl) c a q
 have a1 := w_cases (N := N) (.inr rfl) a b q; have b1 := w_cases (N := N) (.inr rfl) b c q; have c1 := w_cases (N := N) (.inr rfl) c a q
 clear eh e h
 rw [if_neg (c := 0 < T b a q + 0) (by omega), if_pos (c := 0 < T a b q + 1) (by omega)] at *
 rw [if_neg (c := 0 < T c b q + 0) (by omega), if_pos (c := 0 < T b c q + 1) (by omega)] at *
 rw [if_neg (c := 0 < T a c q + 0) (by omega), if_pos (c := 0 < T c a q + 1) (by omega)] at *
 by_cases k : w N 0 a b q + w N 0 b c q + w N 0 c a q = 1
 ·exact ⟨0, .inl rfl, k⟩
 ·refine ⟨1, .inr rfl, ?_⟩
  generalize w N 0 a b q = wa0 at *; generalize w N 0 b c q = wb0 at *; generalize w N 0 c a q = wc0 at *
  generalize w N 1 a b q = wa1 at *; generalize w N 1 b c q = wb1 at *; generalize w N 1 c a q = wc1 at *
  rcases a1 with ⟨p1, p2, e1⟩ | ⟨p1, p2, e1⟩ | ⟨p1, e1⟩ <;> rcases b1 with ⟨q1, q2, e2⟩ | ⟨q1, q2, e2⟩ | ⟨q1, e2⟩ <;> rcases c1 with ⟨r1, r2, e3⟩ | ⟨r1, r2, e3⟩ | ⟨r1, e3⟩ <;> (try (clear a0 b0 c0; omega)) <;>
  rcases a0 with ⟨f1, f2, g1⟩ | ⟨f1, f2, g1⟩ | ⟨f1, g1⟩ <;> (try (clear b0 c0; omega)) <;> rcases b0 with ⟨f3, f4, g2⟩ | ⟨f3, f4, g2⟩ | ⟨f3, g2⟩ <;> (try (clear c0; omega)) <;> rcases c0 with ⟨f5, f6, g3⟩ | ⟨f5, f6, g3⟩ | ⟨f5, g3⟩ <;> (try omega) <;>
  (repeat' split at *) <;> omega
theorem triIn {N s : Int} (hs : s = 1 ∨ s = -1) {u b v q : Pt} (h : 0 < s * T u b v) (i : InT s u b v q) (hu : ht N q ≠ ht N u) (hb : ht N q ≠ ht N b) (hv : ht N q ≠ ht N v) :
  ∃ X, (X = 0 ∨ X = 1) ∧ s * Wd N X [u, b, v] q = 1 := by
 obtain ⟨i1, i2, i3⟩ := i
 rcases hs with rfl | rfl
 ·rw [Int.one_mul] at *
  obtain ⟨X, hX, e⟩ := tri_in1 h i1 i2 i3 hu hb hv
  exact ⟨X, hX, by rw [Wd_three, Int.one_mul]; exact e⟩
 ·have s1 := T_swap u b q; have s2 := T_swap b v q; have s3 := T_swap v u q; have s4 := T_swap3 u b v
  obtain ⟨X, hX, e⟩ := tri_in1 (N := N) (a := v) (b := b) (c := u) (q := q) (by omega) (by omega) (by omega) (by omega) hv hb hu
  refine ⟨X, hX, ?_⟩
  have := Wd_back3 N X u b v q
  rw [Wd_three] at this; omega

def Inj (N : Int) (P : List Pt) : Prop := ∀ x ∈ P, ∀ y ∈ P, ht N x = ht N y → x = y
theorem Inj.ne {N : Int} {P : List Pt} (h : Inj N P) {x y : Pt} (hx : x ∈ P) (hy : y ∈ P) (n : x ≠ y) : ht N x ≠ ht N y := fun e => n (h x hx y hy e)
theorem Inj.mono {N : Int} {P Q : List Pt} (h : Inj N P) (k : ∀ x ∈ Q, x ∈ P) : Inj N Q := fun x hx y hy => h x (k x hx) y (k y hy)
def Ori (N s : Int) (P : List Pt) : Prop := (s = 1 ∨ s = -1) ∧ ∃ b v M u, Sp P b (v :: (M ++ [u])) ∧ (∀ q ∈ v :: (M ++ [u]), ht N b < ht N q) ∧ 0 < s * T u b v

theorem gl (v u : Pt) (M : List Pt) (h : v :: (M ++ [u]) ≠ []) : (v :: (M ++ [u])).getLast h = u := by
 show ((v :: M) ++ [u]).getLast _ = u
 exact List.getLast_concat
theorem gl? (v u : Pt) (M : List Pt) : (v :: (M ++ [u])).getLast? = some u := by
 show ((v :: M) ++ [u]).getLast? = some u
 exact List.getLast?_concat
theorem low_ex (N : Int) : ∀ P : List Pt, P ≠ [] → ∃ b ∈ P, ∀ q ∈ P, ht N b ≤ ht N q
 | [], h => absurd rfl h
 | [a], _ => ⟨a, by simp, by simp⟩
 | a :: c :: r, _ => by
  obtain ⟨b, hb, h⟩ := low_ex N (c :: r) (by simp)
  by_cases k : ht N a ≤ ht N b
  ·refine ⟨a, by simp, fun q hq => ?_⟩
   rw [List.mem_cons] at hq
   rcases hq with rfl | hq
   ·omega
   ·have := h q hq; omega
  ·refine ⟨b, List.mem_cons_of_mem _ hb, fun q hq => ?_⟩
   rw [List.mem_cons] at hq
   rcases hq with rfl | hq
   ·omega
   ·exact h q hq
theorem Sp.nd {P : List Pt} {w : Pt} {R : List Pt} (h : Sp P w R) (nd : P.Nodup) : (w :: R).Nodup := by
 obtain ⟨A, B, rfl, rfl⟩ := h
 have := nd
 rw [List.nodup_append] at this
 have h2 := this.2.1
 rw [← List.cons_append, List.nodup_append]
 exact ⟨h2, this.1, fun a ha b hb e => this.2.2 b hb a ha e.symm⟩
theorem Ori.ex {N : Int} {P : List Pt} (hP : Sim P) (hi : Inj N P) : ∃ s, Ori N s P := by
 obtain ⟨b, hb, hl⟩ := low_ex N P (by rintro rfl; have := hP.len; simp at this)
 obtain ⟨R, hR⟩ := Sp.ex hb
 have hlen := hR.len
 have hP3 := hP.len
 obtain ⟨v, M, u, rfl⟩ := ends2 (R := R) (by omega)
 have nd := hR.nd hP.nd
 rw [List.nodup_cons] at nd
 have low : ∀ q ∈ v :: (M ++ [u]), ht N b < ht N q := by
  intro q hq
  have hqP := (hR.mem q).mpr (.inr hq)
  have := hl q hqP
  have := hi.ne hb hqP (by rintro rfl; exact nd.1 hq)
  omega
 have S1 := hR.sim hP
 have e1 : (u, b) ∈ cyc (b :: v :: (M ++ [u])) := by
  have : b :: v :: (M ++ [u]) = b :: ((v :: M) ++ [u]) := rfl
  rw [this, cyc_path]; simp
 have e2 : (b, v) ∈ cyc (b :: v :: (M ++ [u])) := by
  have : b :: v :: (M ++ [u]) = b :: ((v :: M) ++ [u]) := rfl
  rw [this, cyc_path]; simp [ed]
 have ad := S1.ad _ e1 _ e2 rfl
 have hu := low u (by simp)
 have hv := low v (by simp)
 have ne : T u b v ≠ 0 := by
  intro h0
  by_cases k : ht N u ≤ ht N v
  ·exact ad.1 (on_of (-1) N 0 (by rw [T_cyc]; exact h0) hv (Int.le_of_lt hu) k)
  ·exact ad.2 (on_of' (-1) N 0 h0 hu (Int.le_of_lt hv) (Int.le_of_lt (Int.not_le.mp k)))
 rcases Int.lt_or_gt_of_ne ne with h | h
 ·exact ⟨-1, .inr rfl, b, v, M, u, hR, low, by omega⟩
 ·exact ⟨1, .inl rfl, b, v, M, u, hR, low, by omega⟩
theorem Ori.uniq {N s t : Int} {P : List Pt} (nd : P.Nodup) (h : Ori N s P) (k : Ori N t P) : s = t := by
 obtain ⟨hs, b, v, M, u, h1, h2, h3⟩ := h
 obtain ⟨ht, b', v', M', u', k1, k2, k3⟩ := k
 have hb : b = b' := by
  have m1 := (h1.mem b').mp ((k1.mem b').mpr (.inl rfl))
  have m2 := (k1.mem b).mp ((h1.mem b).mpr (.inl rfl))
  rcases m1 with rfl | m1
  ·rfl
  ·rcases m2 with rfl | m2
   ·rfl
   ·have := h2 _ m1; have := k2 _ m2; omega
 subst hb
 have e := Sp.uniq nd h1 k1
 rw [List.cons.injEq] at e
 obtain ⟨rfl, e⟩ := e
 have e2 := congrArg (·.getLast?) e
 simp at e2
 subst e2
 rcases hs with rfl | rfl <;> rcases ht with rfl | rfl <;> omega
theorem Ori.rot {N s : Int} {A B : List Pt} (h : Ori N s (A ++ B)) : Ori N s (B ++ A) := by
 obtain ⟨hs, b, v, M, u, h1, h2⟩ := h
 exact ⟨hs, b, v, M, u, h1.of_rot, h2⟩

theorem pw_low (N X : Int) (b : Pt) : ∀ l : List Pt, (∀ x ∈ l, ht N b < ht N x) → pw N X l b = 0
 | [], _ => rfl
 | [_], _ => rfl
 | x :: y :: r, h => by
  rw [pw_two, pw_low N X b (y :: r) (fun z hz => h z (List.mem_cons_of_mem _ hz))]
  have h1 := h x (by simp); have h2 := h y (by simp)
  unfold w; rw [if_neg (by omega), if_neg (by omega)]; rfl
theorem low_zero {N X : Int} (hX : X = 0 ∨ X = 1) {a b c p : Pt} {L : List Pt} (hl : ∀ x ∈ c :: (L ++ [p]), ht N b < ht N x) (ha : ht N b < ht N a) (hn : ∀ x ∈ c :: (L ++ [p]), ht N x ≠ ht N a)
  (D : ∀ e ∈ ed (c :: (L ++ [p])), Dis e.1 e.2 b a) (sg : 0 < T b c a ∧ 0 < T b p a ∨ T b c a < 0 ∧ T b p a < 0) : Wd N X (b :: c :: (L ++ [p])) a = 0 := by
 have e : b :: c :: (L ++ [p]) = b :: ((c :: L) ++ [p]) := rfl
 rw [e, Wd_path, List.cons_append, pw_two]
 have st := path_strip hX ha (L ++ [p]) c D (fun x hx => ⟨by have := hl x hx; omega, hn x hx⟩)
 rw [pw_low N X b _ hl] at st
 have hlast : (c :: (L ++ [p])).getLast (List.cons_ne_nil _ _) = p := gl _ _ _ _
 rw [hlast] at st
 have hc := hl c (by simp); have hp := hl p (by simp)
 have nc := hn c (by simp); have np := hn p (by simp)
 have s1 := T_swap2 b c a; have s2 := T_swap2 b p a
 have v1 : w N X b c a + S N b a c = if 0 < T b c a then 1 else 0 := by
  by_cases k : ht N a < ht N c
  ·rw [S_out (by omega)]
   by_cases t : 0 < T b c a
   ·rw [w_one ⟨by omega, k⟩ (by omega), if_pos t]; rfl
   ·rw [w_zero (by omega) (by omega), if_neg t]; rfl
  ·rw [w_out (by omega) (by omega)]
   by_cases t : 0 < T b c a
   ·rw [S_one ⟨hc, by omega⟩ (by omega), if_pos t]; rfl
   ·rw [S_zero (by omega), if_neg t]; rfl
 have v2 : w N X b p a + S N b a p = if 0 < T b p a then 1 else 0 := by
  by_cases k : ht N a < ht N p
  ·rw [S_out (by omega)]
   by_cases t : 0 < T b p a
   ·rw [w_one ⟨by omega, k⟩ (by omega), if_pos t]; rfl
   ·rw [w_zero (by omega) (by omega), if_neg t]; rfl
  ·rw [w_out (by omega) (by omega)]
   by_cases t : 0 < T b p a
   ·rw [S_one ⟨hp, by omega⟩ (by omega), if_pos t]; rfl
   ·rw [S_zero (by omega), if_neg t]; rfl
 rw [w_swap N X b p a]
 rcases sg with ⟨g1, g2⟩ | ⟨g1, g2⟩
 ·rw [if_pos g1] at v1; rw [if_pos g2] at v2; omega
 ·rw [if_neg (by omega)] at v1; rw [if_neg (by omega)] at v2; omega

theorem seg_const {N X : Int} (hX : X = 0 ∨ X = 1) {Q : List Pt} {q r : Pt} (D : ∀ e ∈ cyc Q, Dis e.1 e.2 q r) (hn : ∀ x ∈ Q, ht N x ≠ ht N q ∧ ht N x ≠ ht N r) (hqr : ht N q ≠ ht N r) : Wd N X Q q = Wd N X Q r := by
 cases Q with
 | nil => rfl
 | cons a Q =>
  have hn' : ∀ x ∈ a :: (Q ++ [a]), ht N x ≠ ht N q ∧ ht N x ≠ ht N r := by
   intro x hx; simp at hx; rcases hx with h | h | h <;> exact hn x (by simp [h])
  have hl : (a :: (Q ++ [a])).getLast (List.cons_ne_nil _ _) = a := gl _ _ _ _
  rcases Int.lt_or_gt_of_ne hqr with h | h
  ·have := path_strip hX h (Q ++ [a]) a D hn'
   rw [hl] at this
   show pw N X (a :: (Q ++ [a])) q = pw N X (a :: (Q ++ [a])) r; omega
  ·have := path_strip hX h (Q ++ [a]) a (fun e he => (D e he).flip2) (fun x hx => ⟨(hn' x hx).2, (hn' x hx).1⟩)
   rw [hl] at this
   show pw N X (a :: (Q ++ [a])) q = pw N X (a :: (Q ++ [a])) r; omega
theorem chain_head {N X : Int} (hX : X = 0 ∨ X = 1) {Q : List Pt} : ∀ (L : List Pt) (h : Pt), (∀ f ∈ ed (h :: L), ∀ e ∈ cyc Q, Dis e.1 e.2 f.1 f.2) → (∀ x ∈ Q, ∀ y ∈ h :: L, ht N x ≠ ht N y) → Inj N (h :: L) → (h :: L).Nodup →
  ∀ y ∈ h :: L, Wd N X Q y = Wd N X Q h
 | [], h, _, _, _, _, y, hy => by simp at hy; rw [hy]
 | k :: L, h, D, hn, hi, nd, y, hy => by
  rw [List.mem_cons] at hy
  rcases hy with rfl | hy
  ·rfl
  ·have ih := chain_head hX L k (fun f hf => D f (by rw [ed]; exact List.mem_cons_of_mem _ hf)) (fun x hx z hz => hn x hx z (List.mem_cons_of_mem _ hz)) (hi.mono (fun x hx => List.mem_cons_of_mem _ hx)) (by rw [List.nodup_cons] at nd; exact nd.2) y hy
   rw [ih]
   have hhk : h ≠ k := by rw [List.nodup_cons] at nd; intro e; apply nd.1; simp [e]
   exact (seg_const hX (D (h, k) (by rw [ed]; simp)) (fun x hx => ⟨hn x hx h (by simp), hn x hx k (by simp)⟩) (hi.ne (by simp) (by simp) hhk)).symm
theorem chain_const {N X : Int} (hX : X = 0 ∨ X = 1) {Q L : List Pt} (D : ∀ f ∈ ed L, ∀ e ∈ cyc Q, Dis e.1 e.2 f.1 f.2) (hn : ∀ x ∈ Q, ∀ y ∈ L, ht N x ≠ ht N y) (hi : Inj N L) (nd : L.Nodup) {y z : Pt} (hy : y ∈ L) (hz : z ∈ L) : Wd N X Q y = Wd N X Q z := by
 cases L with
 | nil => simp at hy
 | cons h L => rw [chain_head hX L h D hn hi nd y hy, chain_head hX L h D hn hi nd z hz]

theorem Wd_diag (N X : Int) (b p : Pt) (A B : List Pt) (z : Pt) : Wd N X (b :: (A ++ p :: B)) z = Wd N X (b :: (A ++ [p])) z + Wd N X (p :: (B ++ [b])) z := by
 have h1 : Wd N X (b :: (A ++ p :: B)) z = pw N X ((b :: A) ++ p :: (B ++ [b])) z := by simp [Wd]
 rw [h1, pw_split, Wd_path, Wd_path, w_swap N X b p z]; simp; omega
theorem Wd_ear (N X : Int) (a v u : Pt) (M : List Pt) (z : Pt) : Wd N X (a :: v :: (M ++ [u])) z = Wd N X [u, a, v] z + Wd N X (v :: (M ++ [u])) z := by
 have : a :: v :: (M ++ [u]) = a :: ((v :: M) ++ [u]) := rfl
 rw [this, Wd_path, Wd_path, Wd_three, List.cons_append, pw_two, w_swap N X u v z]; omega
theorem Wd_two0 (N X : Int) (a b z : Pt) : Wd N X [a, b] z = 0 := by
 simp only [Wd, pw, List.cons_append, List.nil_append]; rw [w_swap N X a b z]; omega

def Ear (s : Int) (a : Pt) (R : List Pt) : Prop := ∃ v u, R.head? = some v ∧ R.getLast? = some u ∧ 0 < s * T u a v ∧ ∀ q ∈ R, q ≠ u → q ≠ v → ¬ InT s u a v q
theorem Ear.of {s : Int} {a v u : Pt} {M : List Pt} (h : 0 < s * T u a v) (k : ∀ q ∈ M, ¬ InT s u a v q) : Ear s a (v :: (M ++ [u])) :=
 ⟨v, u, rfl, gl? _ _ _, h, fun q hq n1 n2 => by simp at hq; rcases hq with rfl | hq | rfl; exact absurd rfl n2; exact k q hq; exact absurd rfl n1⟩
theorem Ear.to {s : Int} {a v u : Pt} {M : List Pt} (nd : (v :: (M ++ [u])).Nodup) (h : Ear s a (v :: (M ++ [u]))) : 0 < s * T u a v ∧ ∀ q ∈ M, ¬ InT s u a v q := by
 obtain ⟨v', u', h1, h2, h3, h4⟩ := h
 rw [gl?] at h2; simp at h1 h2; subst h1; subst h2
 rw [List.nodup_cons, List.nodup_append] at nd
 exact ⟨h3, fun q hq => h4 q (by simp [hq]) (fun e => nd.2.2.2 q hq u (by simp) e) (fun e => nd.1 (by simp [← e, hq]))⟩
theorem on_InT {s : Int} {u b v q : Pt} (hD : 0 < s * T u b v) (ho : On u v q) : InT s u b v q := by
 have b1 := ho.btT s u b
 have b2 := ho.btT s b v
 rw [T_aba] at b1; rw [T_abb, T_cyc] at b2
 unfold Bt at b1 b2
 refine ⟨by omega, by omega, ?_⟩
 rw [T_swap, ho.1]; omega
theorem low_notin {N s : Int} {u a v b : Pt} (hD : 0 < s * T u a v) (hu : ht N b < ht N u) (ha : ht N b < ht N a) (hv : ht N b < ht N v) : ¬ InT s u a v b := by
 rintro ⟨h1, h2, h3⟩
 have e : s * T u a v = s * T a v b + s * T v u b + s * T u a b := tri_sum s u a v b
 have eh : (s * T a v b) * (ht N u - ht N b) + (s * T v u b) * (ht N a - ht N b) + (s * T u a b) * (ht N v - ht N b) = 0 := by unfold ht aff T; grind
 have m1 := mzz h2 (show 0 ≤ ht N u - ht N b by omega)
 have m2 := mzz h3 (show 0 ≤ ht N a - ht N b by omega)
 have m3 := mzz h1 (show 0 ≤ ht N v - ht N b by omega)
 have : 0 < s * T a v b ∨ 0 < s * T v u b ∨ 0 < s * T u a b := by omega
 rcases this with t | t | t
 ·have := mpp t (show 0 < ht N u - ht N b by omega); omega
 ·have := mpp t (show 0 < ht N a - ht N b by omega); omega
 ·have := mpp t (show 0 < ht N v - ht N b by omega); omega
theorem cyc_ends (a v u : Pt) (M : List Pt) : cyc (a :: v :: (M ++ [u])) = (a, v) :: (ed (v :: (M ++ [u])) ++ [(u, a)]) := by
 have : a :: v :: (M ++ [u]) = a :: ((v :: M) ++ [u]) := rfl
 rw [this, cyc_path, List.cons_append, ed]; rfl
theorem Ear.sim {s : Int} (hs : s = 1 ∨ s = -1) {a v u : Pt} {M : List Pt} (hP : Sim (a :: v :: (M ++ [u]))) (hM : M ≠ []) (h : Ear s a (v :: (M ++ [u]))) : Sim (v :: (M ++ [u])) := by
 have nd := hP.nd
 have nd1 := List.nodup_cons.mp nd
 have nd2 := List.nodup_cons.mp nd1.2
 have nd3 := List.nodup_append.mp nd2.2
 obtain ⟨hD, hE⟩ := h.to nd1.2
 have ce := cyc_ends a v u M
 have sub : ∀ e ∈ ed (v :: (M ++ [u])), e ∈ cyc (a :: v :: (M ++ [u])) := fun e he => by rw [ce]; simp [he]
 have ua : (u, a) ∈ cyc (a :: v :: (M ++ [u])) := by rw [ce]; simp
 have av : (a, v) ∈ cyc (a :: v :: (M ++ [u])) := by rw [ce]; simp
 refine hP.sub hM sub nd1.2 (fun x hx => List.mem_cons_of_mem _ hx) ?_ ?_
 ·intro f hf n1 n2 n3 n4
  have m := ed_mem _ f hf
  have mf1 : f.1 ∈ M := by have := m.1; simp at this; rcases this with h | h | h; exact absurd h n1; exact h; exact absurd h n2
  have mf2 : f.2 ∈ M := by have := m.2; simp at this; rcases this with h | h | h; exact absurd h n3; exact h; exact absurd h n4
  have fa1 : f.1 ≠ a := fun e => nd1.1 (e ▸ m.1)
  have fa2 : f.2 ≠ a := fun e => nd1.1 (e ▸ m.2)
  refine cut hs hD (hE _ mf1) (hE _ mf2) (fun _ _ => ?_) (fun _ _ => ?_) ?_ ?_
  ·exact hP.na f (sub f hf) (u, a) ua n4 (fun e => fa1 e.symm) (fun e => n2 (by rw [e]))
  ·exact hP.na f (sub f hf) (a, v) av fa2 (fun e => n1 e.symm) (fun e => fa1 (by rw [e]))
  ·exact hP.off (sub f hf) (by simp) (fun e => n2 e.symm) (fun e => n4 e.symm)
  ·exact hP.off (sub f hf) (by simp) (fun e => n1 e.symm) (fun e => n3 e.symm)
 ·intro q hq ho
  exact hE q hq (on_InT hD ho)

theorem adj1 {s : Int} (hs : s = 1 ∨ s = -1) {u b v m : Pt} (h1 : 0 < s * T u b v) (h2 : 0 < s * T b v m) (h3 : ¬ InT s b v m u) (D : Dis u b v m) : 0 < s * T u b m := by
  by_cases k : 0 < s * T u b m
  · exact k
  exfalso
  have e1 : s * T b v u = s * T u b v := by rw [T_cyc]
  have e2 : s * T m b u = - (s * T u b m) := by rw [T_swap3 u b m, Int.mul_neg]
  have hlt : s * T v m u < 0 := by
    by_cases t : 0 ≤ s * T v m u
    · exact absurd ⟨by omega, t, by omega⟩ h3
    · omega
  have e3 : s * T v m b = s * T b v m := by rw [T_cyc]
  by_cases z : s * T u b m = 0
  · have z' : T u b m = 0 := by rcases hs with rfl | rfl <;> omega
    exact D.2.1 (on_T (s := s) (u := v) (b := m) z' (by omega) (by rw [T_abb]; omega) (by rw [T_abb]; omega))
  · exact D.2.2.2.2 ⟨opp_s hs (.inr ⟨h1, by omega⟩), opp_s hs (.inl ⟨hlt, by omega⟩)⟩
theorem adj2 {s : Int} (hs : s = 1 ∨ s = -1) {u b v m : Pt} (h1 : 0 < s * T u b v) (h2 : 0 < s * T m u b) (h3 : ¬ InT s m u b v) (D : Dis b v m u) : 0 < s * T m b v := by
  by_cases k : 0 < s * T m b v
  · exact k
  exfalso
  have e2 : s * T b m v = - (s * T m b v) := by rw [T_swap m b v, Int.mul_neg]
  have hlt : s * T m u v < 0 := by
    by_cases t : 0 ≤ s * T m u v
    · exact absurd ⟨t, by omega, by omega⟩ h3
    · omega
  have e3 : s * T b v u = s * T u b v := by rw [T_cyc]
  have e4 : s * T b v m = s * T m b v := by rw [T_cyc]
  by_cases z : s * T m b v = 0
  · have z' : T b v m = 0 := by rw [T_cyc]; rcases hs with rfl | rfl <;> omega
    refine D.1 (On.swap (on_T (s := s) (u := m) (b := u) ?_ ?_ ?_ ?_))
    · rw [T_swap, z']; rfl
    · omega
    · rw [T_aba]; omega
    · rw [T_aba]; omega
  · exact D.2.2.2.2 ⟨opp_s hs (.inl ⟨by omega, by omega⟩), opp_s hs (.inr ⟨h2, hlt⟩)⟩
theorem tri4 {N s : Int} (hs : s = 1 ∨ s = -1) {u b v q : Pt} (h1 : 0 < s * T u b v) (h3 : ¬ InT s u b v q) (D1 : Dis q u b v) (D2 : Dis v q u b) (hu : ht N b < ht N u) (hv : ht N b < ht N v) (hq : ht N b < ht N q) (ne : T v q u ≠ 0) : 0 < s * T v q u := by
  by_cases k : 0 < s * T v q u
  · exact k
  exfalso
  have e0 : s * T v u q = - (s * T v q u) := by rw [T_swap2 v q u, Int.mul_neg]
  have hd : 0 < s * T v u q := by rcases hs with rfl | rfl <;> omega
  have ts := tri_sum s u b v q
  have eh : (s * T u b v) * (ht N q - ht N b) = (s * T b v q) * (ht N u - ht N b) + (s * T u b q) * (ht N v - ht N b) := by unfold ht aff T; grind
  have m0 := mpp h1 (show 0 < ht N q - ht N b by omega)
  have n1 : ¬ (s * T b v q ≤ 0 ∧ s * T u b q ≤ 0) := by
    rintro ⟨x, y⟩
    have := mnz x (show 0 ≤ ht N u - ht N b by omega)
    have := mnz y (show 0 ≤ ht N v - ht N b by omega)
    omega
  have n2 : ¬ (0 ≤ s * T b v q ∧ 0 ≤ s * T u b q) := fun x => h3 ⟨x.2, x.1, Int.le_of_lt hd⟩
  have f1 : s * T q u b = s * T u b q := by rw [T_cyc2 u b q]
  have f2 : s * T q u v = - (s * T v u q) := by rw [T_swap3 v u q, Int.mul_neg]
  have f3 : s * T b v u = s * T u b v := by rw [T_cyc]
  have f4 : s * T v q b = s * T b v q := by rw [T_cyc]
  by_cases t : s * T b v q < 0
  · exact D1.2.2.2.2 ⟨opp_s hs (.inr ⟨by omega, by omega⟩), opp_s hs (.inl ⟨by omega, by omega⟩)⟩
  · exact D2.2.2.2.2 ⟨opp_s hs (.inl ⟨by omega, by omega⟩), opp_s hs (.inr ⟨by omega, by omega⟩)⟩
theorem far_ex (s : Int) (u b v : Pt) : ∀ M : List Pt, (∃ q ∈ M, InT s u b v q) → ∃ p ∈ M, InT s u b v p ∧ ∀ q ∈ M, InT s u b v q → s * T v u q ≤ s * T v u p
  | [], h => by obtain ⟨q, hq, _⟩ := h; simp at hq
  | m :: M, h => by
    by_cases k : ∃ q ∈ M, InT s u b v q
    · obtain ⟨p, hp, hi, hm⟩ := far_ex s u b v M k
      by_cases c : InT s u b v m ∧ s * T v u p ≤ s * T v u m
      · refine ⟨m, by simp, c.1, fun q hq hiq => ?_⟩
        rw [List.mem_cons] at hq
        rcases hq with rfl | hq
        · omega
        · have := hm q hq hiq; omega
      · refine ⟨p, List.mem_cons_of_mem _ hp, hi, fun q hq hiq => ?_⟩
        rw [List.mem_cons] at hq
        rcases hq with rfl | hq
        · by_cases d : s * T v u p ≤ s * T v u q
          · exact absurd ⟨hiq, d⟩ c
          · omega
        · exact hm q hq hiq
    · obtain ⟨q, hq, hiq⟩ := h
      rw [List.mem_cons] at hq
      rcases hq with rfl | hq
      · exact ⟨q, by simp, hiq, fun z hz hiz => by
          rw [List.mem_cons] at hz
          rcases hz with rfl | hz
          · omega
          · exact absurd ⟨z, hz, hiz⟩ k⟩
      · exact absurd ⟨q, hq, hiq⟩ k
theorem tri_out1 {N X : Int} (hX : X = 0 ∨ X = 1) {a b c : Pt} (h : 0 < T a b c) (z : Pt) (k : 1 ≤ w N X a b z + w N X b c z + w N X c a z) : 0 ≤ T a b z ∧ 0 ≤ T b c z ∧ 0 ≤ T c a z := by
  have eh : T b c z * (ht N a - ht N z) + T c a z * (ht N b - ht N z) + T a b z * (ht N c - ht N z) = 0 := by unfold ht aff T; grind
  have e : T a b c = T b c z + T c a z + T a b z := by unfold T; grind
  have s1 := T_swap a b z; have s2 := T_swap b c z; have s3 := T_swap c a z
  have third : ∀ {x y t p q r : Int}, 0 ≤ x → 0 ≤ y → 0 < x + y + t → (0 < p ∧ 0 < q ∧ r ≤ 0 ∨ p ≤ 0 ∧ q ≤ 0 ∧ 0 < r) → x * p + y * q + t * r = 0 → 0 ≤ t := by
    intro x y t p q r hx hy hs ho he
    by_cases n : 0 ≤ t
    · exact n
    exfalso
    rcases ho with ⟨h1, h2, h3⟩ | ⟨h1, h2, h3⟩
    · have m1 := mzz hx (Int.le_of_lt h1); have m2 := mzz hy (Int.le_of_lt h2); have m3 := mnnz (show t ≤ 0 by omega) h3
      have : 0 < x ∨ 0 < y := by omega
      rcases this with g | g
      · have := mpp g h1; omega
      · have := mpp g h2; omega
    · have m1 := mzn hx h1; have m2 := mzn hy h2; have m3 := mnp (show t < 0 by omega) h3; omega
  have t1 : 0 ≤ T a b z → 0 ≤ T b c z → (0 < ht N c - ht N z ∧ 0 < ht N a - ht N z ∧ ht N b - ht N z ≤ 0 ∨ ht N c - ht N z ≤ 0 ∧ ht N a - ht N z ≤ 0 ∧ 0 < ht N b - ht N z) → 0 ≤ T c a z :=
    fun x y o => third x y (by omega) o (by omega)
  have t2 : 0 ≤ T b c z → 0 ≤ T c a z → (0 < ht N a - ht N z ∧ 0 < ht N b - ht N z ∧ ht N c - ht N z ≤ 0 ∨ ht N a - ht N z ≤ 0 ∧ ht N b - ht N z ≤ 0 ∧ 0 < ht N c - ht N z) → 0 ≤ T a b z :=
    fun x y o => third x y (by omega) o (by omega)
  have t3 : 0 ≤ T c a z → 0 ≤ T a b z → (0 < ht N b - ht N z ∧ 0 < ht N c - ht N z ∧ ht N a - ht N z ≤ 0 ∨ ht N b - ht N z ≤ 0 ∧ ht N c - ht N z ≤ 0 ∧ 0 < ht N a - ht N z) → 0 ≤ T b c z :=
    fun x y o => third x y (by omega) o (by omega)
  clear eh third
  rcases w_cases (N := N) hX a b z with ⟨p1, p2, e1⟩ | ⟨p1, p2, e1⟩ | ⟨p1, e1⟩ <;>
  rcases w_cases (N := N) hX b c z with ⟨q1, q2, e2⟩ | ⟨q1, q2, e2⟩ | ⟨q1, e2⟩ <;>
  rcases w_cases (N := N) hX c a z with ⟨r1, r2, e3⟩ | ⟨r1, r2, e3⟩ | ⟨r1, e3⟩ <;> (try (exfalso; clear t1 t2 t3; omega)) <;> rw [e1, e2, e3] at k <;> clear e1 e2 e3
  all_goals (split at k <;> split at k <;> (try (exfalso; clear t1 t2 t3; omega)))
  all_goals (first
    | (have g1 : 0 ≤ T a b z := by omega
       have g2 : 0 ≤ T b c z := by omega
       exact ⟨g1, g2, t1 g1 g2 (by omega)⟩)
    | (have g1 : 0 ≤ T b c z := by omega
       have g2 : 0 ≤ T c a z := by omega
       exact ⟨t2 g1 g2 (by omega), g1, g2⟩)
    | (have g1 : 0 ≤ T c a z := by omega
       have g2 : 0 ≤ T a b z := by omega
       exact ⟨g2, t3 g1 g2 (by omega), g1⟩))
theorem tri_out {N X s : Int} (hX : X = 0 ∨ X = 1) (hs : s = 1 ∨ s = -1) {u b v : Pt} (h : 0 < s * T u b v) (z : Pt) (k : 1 ≤ s * Wd N X [u, b, v] z) : InT s u b v z := by
  rcases hs with rfl | rfl
  · rw [Wd_three] at k; rw [Int.one_mul] at *
    have := tri_out1 hX h z k
    exact ⟨by omega, by omega, by omega⟩
  · have s1 := T_swap u b z; have s2 := T_swap b v z; have s3 := T_swap v u z; have s4 := T_swap3 u b v
    have e := Wd_back3 N X u b v z
    rw [Wd_three] at e
    have := tri_out1 (N := N) hX (a := v) (b := b) (c := u) (by omega) z (by omega)
    exact ⟨by omega, by omega, by omega⟩
theorem tri_zero {N X s : Int} (hX : X = 0 ∨ X = 1) (hs : s = 1 ∨ s = -1) {u b v : Pt} (h : 0 < s * T u b v) {z : Pt} (k : ¬ InT s u b v z) : Wd N X [u, b, v] z = 0 := by
  have := triW (N := N) hX hs h z
  by_cases c : 1 ≤ s * Wd N X [u, b, v] z
  · exact absurd (tri_out hX hs h z c) k
  · rcases hs with rfl | rfl <;> omega
theorem Sp.back {P : List Pt} {b w : Pt} {Q R : List Pt} (h : Sp P b Q) (k : Sp (b :: Q) w R) : Sp P w R := by
  obtain ⟨A, B, rfl, rfl⟩ := h; exact Sp.of_rot (A := b :: B) (B := A) k
theorem Wd_low {N X : Int} {b : Pt} {R : List Pt} (h : ∀ x ∈ R, ht N b < ht N x) : Wd N X R b = 0 := by
  cases R with
  | nil => rfl
  | cons a r => exact pw_low N X b _ (fun x hx => h x (by simp at hx ⊢; rcases hx with h | h | h <;> simp [h]))
theorem Wd_ear' {N X : Int} {a v u : Pt} {R : List Pt} (h : 2 ≤ R.length) (h1 : R.head? = some v) (h2 : R.getLast? = some u) (z : Pt) : Wd N X (a :: R) z = Wd N X [u, a, v] z + Wd N X R z := by
  obtain ⟨v', M, u', rfl⟩ := ends2 h
  rw [gl?] at h2; simp at h1 h2; subst h1; subst h2
  exact Wd_ear N X a _ _ M z

theorem case2 {N s : Int} (hs : s = 1 ∨ s = -1) {b p : Pt} {A B : List Pt} (nd : (b :: (A ++ p :: B)).Nodup) (hi : Inj N (b :: (A ++ p :: B)))
    (hB : ∀ X, X = 0 ∨ X = 1 → ∀ q ∈ B, Wd N X (b :: (A ++ [p])) q = 0) (hA : ∀ X, X = 0 ∨ X = 1 → ∀ q ∈ A, Wd N X (p :: (B ++ [b])) q = 0)
    {a : Pt} {R1 : List Pt} (h1 : Sp (b :: (A ++ [p])) a R1) (n1 : a ≠ p) (n2 : a ≠ b) (hA0 : A ≠ []) (he : Ear s a R1) (hw : ∀ X, X = 0 ∨ X = 1 → Wd N X R1 a = 0)
    (hR : ∀ X, X = 0 ∨ X = 1 → ∀ z, 0 ≤ s * Wd N X R1 z) :
    ∃ R, Sp (b :: (A ++ p :: B)) a R ∧ a ∈ A ∧ Ear s a R ∧ ∀ X, X = 0 ∨ X = 1 → Wd N X R a = 0 := by
  have aA : a ∈ A := by
    have := (h1.mem a).mpr (.inl rfl)
    simp at this; rcases this with h | h | h
    · exact absurd h n2
    · exact h
    · exact absurd h n1
  have nd1 : (b :: (A ++ [p])).Nodup := by
    refine List.Nodup.sublist ?_ nd
    exact List.Sublist.cons_cons _ (List.Sublist.append_left (List.Sublist.cons_cons _ (List.nil_sublist _)) _)
  obtain ⟨C, D, rfl⟩ := List.append_of_mem aA
  have hR1 : R1 = (D ++ [p]) ++ (b :: C) := Sp.uniq nd1 h1 ⟨b :: C, D ++ [p], by simp, rfl⟩
  refine ⟨(D ++ p :: B) ++ (b :: C), ⟨b :: C, D ++ p :: B, by simp, rfl⟩, aA, ?_, ?_⟩
  · obtain ⟨v1, u1, e1, e2, hp, hq⟩ := he
    have lenR : 2 ≤ R1.length := by rw [hR1]; simp; omega
    have v1m : v1 ∈ R1 := List.mem_of_head? e1
    have u1m : u1 ∈ R1 := List.mem_of_getLast? e2
    refine ⟨v1, u1, ?_, ?_, hp, ?_⟩
    · rw [hR1] at e1; cases D <;> simpa using e1
    · rw [hR1, List.getLast?_append] at e2; rw [List.getLast?_append]
      have : (b :: C).getLast? ≠ none := by simp
      cases hc : (b :: C).getLast? with
      | none => exact absurd hc this
      | some y => rw [hc] at e2; simpa using e2
    · intro q hqm q1 q2 hin
      by_cases qB : q ∈ B
      · have sub : ∀ x ∈ R1, x ∈ b :: (C ++ a :: D ++ p :: B) := by
          intro x hx; rw [hR1] at hx; simp at hx ⊢; rcases hx with h | h | h | h <;> simp [h]
        have qP : q ∈ b :: (C ++ a :: D ++ p :: B) := by simp [qB]
        have qa : q ≠ a := by
          rintro rfl
          rw [List.nodup_cons, List.nodup_append] at nd
          exact nd.2.2.2 q aA q (by simp [qB]) rfl
        obtain ⟨X, hX, hw1⟩ := triIn (N := N) hs hp hin (hi.ne qP (sub _ u1m) q1) (hi.ne qP (by simp) qa) (hi.ne qP (sub _ v1m) q2)
        have z := hB X hX q qB
        rw [h1.wd N X q, Wd_ear' lenR e1 e2] at z
        have := hR X hX q
        have : s * (Wd N X [u1, a, v1] q + Wd N X R1 q) = 0 := by rw [z, Int.mul_zero]
        rw [Int.mul_add] at this; omega
      · refine hq q ?_ q1 q2 hin
        rw [hR1]; simp at hqm ⊢
        rcases hqm with h | h | h | h | h
        · simp [h]
        · simp [h]
        · exact absurd h qB
        · simp [h]
        · simp [h]
  · intro X hX
    have r1 := Wd_rot N X (D ++ p :: B) (b :: C) a
    have r2 := Wd_rot N X (D ++ [p]) (b :: C) a
    have e1 : (b :: C) ++ (D ++ p :: B) = b :: ((C ++ D) ++ p :: B) := by simp
    have e2 : (b :: C) ++ (D ++ [p]) = b :: ((C ++ D) ++ [p]) := by simp
    rw [e1, Wd_diag] at r1
    rw [e2, ← hR1, hw X hX] at r2
    rw [r1, ← r2, hA X hX a aA]; rfl
theorem keep_other {N s : Int} (hs : s = 1 ∨ s = -1) {b v u a : Pt} {M R : List Pt} (hP : Sim (b :: v :: (M ++ [u]))) (hM : M ≠ []) (low : ∀ q ∈ v :: (M ++ [u]), ht N b < ht N q) (hD : 0 < s * T u b v)
    (hR : Sp (b :: v :: (M ++ [u])) a R) (hab : a ≠ b) (he : Ear s a R) : Ori N s R := by
  have aR : a ∈ v :: (M ++ [u]) := by
    have := (hR.mem a).mpr (.inl rfl)
    rw [List.mem_cons] at this; exact this.resolve_left hab
  have ndR := (List.nodup_cons.mp hP.nd).2
  have nb := (List.nodup_cons.mp hP.nd).1
  have nv := (List.nodup_cons.mp ndR).1
  have nu := (List.nodup_append.mp (List.nodup_cons.mp ndR).2).2.2
  have ce := cyc_ends b v u M
  obtain ⟨C, D, e⟩ := List.append_of_mem aR
  have hRR : R = D ++ b :: C := Sp.uniq hP.nd hR ⟨b :: C, D, by rw [e]; rfl, rfl⟩
  subst hRR
  refine ⟨hs, ?_⟩
  cases C with
  | nil =>
    simp at e
    obtain ⟨rfl, rfl⟩ := e
    cases M with
    | nil => exact absurd rfl hM
    | cons m M =>
      have he' : Ear s v (m :: ((M ++ [u]) ++ [b])) := by simpa using he
      have ndx : (m :: ((M ++ [u]) ++ [b])).Nodup := by
        have := (List.nodup_cons.mp ndR).2
        have h2 : ((m :: (M ++ [u])) ++ [b]).Nodup := by
          rw [List.nodup_append]
          refine ⟨this, by simp, fun x hx y hy e => ?_⟩
          simp at hy; subst hy; subst e
          exact nb (List.mem_cons_of_mem _ hx)
        simpa using h2
      obtain ⟨q1, q2⟩ := he'.to ndx
      have mu : m ≠ u := nu m (by simp) u (by simp)
      have D1 := hP.na (u, b) (by rw [ce]; simp) (v, m) (by rw [ce]; simp [ed]) (fun k => nb (by rw [show b = v from k]; simp)) mu (fun k => nv (by have := congrArg Prod.fst k; simp at this; rw [← this]; simp))
      refine ⟨b, m, M, u, ⟨m :: (M ++ [u]), [], by simp, by simp⟩, fun q hq => low q (List.mem_cons_of_mem _ hq), adj1 hs hD q1 (q2 u (by simp)) D1⟩
  | cons c C =>
    simp at e
    obtain ⟨rfl, e⟩ := e
    by_cases hDn : D = []
    · subst hDn
      have e' : M ++ [u] = C ++ [a] := e
      obtain ⟨rfl, e2⟩ := List.append_inj' e' rfl
      simp at e2; subst e2
      obtain ⟨M', m, rfl⟩ : ∃ M' m, M = M' ++ [m] := ⟨M.dropLast, M.getLast hM, by rw [List.dropLast_concat_getLast]⟩
      have he' : Ear s u (b :: ((v :: M') ++ [m])) := by simpa using he
      have ndx : (b :: ((v :: M') ++ [m])).Nodup := by
        have h0 : (b :: ((v :: (M' ++ [m])) ++ [u])).Nodup := by simpa using hP.nd
        rw [List.nodup_cons] at h0 ⊢
        refine ⟨fun k => h0.1 (by simp at k ⊢; rcases k with k | k | k <;> simp [k]), ?_⟩
        have := (List.nodup_append.mp h0.2).1; simpa using this
      obtain ⟨q1, q2⟩ := he'.to ndx
      have mv : v ≠ m := fun k => nv (by rw [k]; simp)
      have mem2 : (m, u) ∈ cyc (b :: v :: (M' ++ [m] ++ [u])) := by
        have h0 : v :: (M' ++ [m] ++ [u]) = (v :: M') ++ [m, u] := by simp
        rw [ce, h0, ed_snoc]; simp
      have D1 := hP.na (b, v) (by rw [ce]; simp) (m, u) mem2 mv (fun k => nb (by rw [show b = u from k.symm]; simp)) (fun k => nb (by rw [show b = m from congrArg Prod.fst k]; simp))
      refine ⟨b, v, M', m, ⟨[], v :: (M' ++ [m]), by simp, by simp⟩, fun q hq => low q (by simp at hq ⊢; rcases hq with k | k | k <;> simp [k]), adj2 hs hD q1 (q2 v (by simp)) D1⟩
    · obtain ⟨D', d, rfl⟩ : ∃ D' d, D = D' ++ [d] := ⟨D.dropLast, D.getLast hDn, by rw [List.dropLast_concat_getLast]⟩
      have e' : M ++ [u] = (C ++ a :: D') ++ [d] := by rw [e]; simp
      obtain ⟨rfl, e2⟩ := List.append_inj' e' rfl
      simp at e2; subst e2
      refine ⟨b, v, C ++ D', u, ⟨D' ++ [u], v :: C, by simp, by simp⟩, fun q hq => low q (by simp at hq ⊢; rcases hq with k | k | k | k <;> simp [k]), hD⟩

theorem cyc_diag (b p : Pt) (A B : List Pt) : cyc (b :: (A ++ p :: B)) = ed (b :: (A ++ [p])) ++ ed (p :: (B ++ [b])) := by
 have : cyc (b :: (A ++ p :: B)) = ed ((b :: A) ++ p :: (B ++ [b])) := by simp [cyc]
 rw [this, ed_split]; rfl
theorem ed_cons_sub (a : Pt) (l : List Pt) (e : Pt × Pt) (h : e ∈ ed l) : e ∈ ed (a :: l) := by
 cases l with
 | nil => simp [ed] at h
 | cons b r => rw [ed]; exact List.mem_cons_of_mem _ h
theorem ed_snoc_sub (z : Pt) : ∀ (l : List Pt) (e : Pt × Pt), e ∈ ed l → e ∈ ed (l ++ [z])
 | [], _, h => by simp [ed] at h
 | [_], _, h => by simp [ed] at h
 | a :: b :: r, e, h => by
  rw [ed, List.mem_cons] at h
  rw [List.cons_append, List.cons_append, ed, List.mem_cons]
  rcases h with h | h
  ·exact .inl h
  ·exact .inr (ed_snoc_sub z (b :: r) e h)
theorem diag_on {s : Int} {u b v p q : Pt} (ha : 0 < s * T b v p) (hb : 0 < s * T u b p) (hq : q ≠ p)
  (hh : 0 ≤ s * T u b q → 0 ≤ s * T b v q → s * T v u q ≤ s * T v u p) : ¬ On b p q := by
 have ts := tri_sum s u b v p
 have db : s * T v u b = s * T u b v := by rw [T_cyc2 u b v]
 intro ho
 have b1 := ho.btT s v u
 have b2 := ho.btT s u b
 have b3 := ho.btT s b v
 rw [T_abb] at b2; rw [T_aba] at b3
 unfold Bt at b1 b2 b3
 have hle := hh (by omega) (by omega)
 exact hq (ho.eq_end (s := s) (x := v) (y := u) (u := 0) (v := 0) (by omega) (by omega))
theorem parts_nd {b p : Pt} {A B : List Pt} (nd : (b :: (A ++ p :: B)).Nodup) : b ∉ A ∧ b ≠ p ∧ b ∉ B ∧ p ∉ A ∧ p ∉ B ∧ (∀ x ∈ A, ∀ y ∈ B, x ≠ y) ∧ A.Nodup ∧ B.Nodup := by
 rw [List.nodup_cons, List.nodup_append, List.nodup_cons] at nd
 obtain ⟨h1, h2, ⟨h3, h4⟩, h5⟩ := nd
 simp at h1
 exact ⟨h1.1, h1.2.1, h1.2.2, fun k => h5 p k p (by simp) rfl, h3, fun x hx y hy => h5 x hx y (by simp [hy]), h2, h4⟩

theorem diag_parts {N s : Int} (hs : s = 1 ∨ s = -1) {b v u : Pt} {M : List Pt} (hP : Sim (b :: v :: (M ++ [u]))) (hi : Inj N (b :: v :: (M ++ [u]))) (low : ∀ q ∈ v :: (M ++ [u]), ht N b < ht N q) (hD : 0 < s * T u b v)
  (hin : ∃ q ∈ M, InT s u b v q) :
  ∃ p M1 M2, M = M1 ++ p :: M2 ∧ Sim (b :: ((v :: M1) ++ [p])) ∧ Ori N s (b :: ((v :: M1) ++ [p])) ∧ Sim (p :: ((M2 ++ [u]) ++ [b])) ∧ Ori N s (p :: ((M2 ++ [u]) ++ [b])) ∧
   (∀ X, X = 0 ∨ X = 1 → ∀ q ∈ M2 ++ [u], Wd N X (b :: ((v :: M1) ++ [p])) q = 0) ∧ (∀ X, X = 0 ∨ X = 1 → ∀ q ∈ v :: M1, Wd N X (p :: ((M2 ++ [u]) ++ [b])) q = 0) := by
 obtain ⟨p, hpM, hpi, hpm⟩ := far_ex s u b v M hin
 obtain ⟨M1, M2, rfl⟩ := List.append_of_mem hpM
 have ePL : b :: v :: (M1 ++ p :: M2 ++ [u]) = b :: ((v :: M1) ++ p :: (M2 ++ [u])) := by simp
 rw [ePL] at hP hi
 obtain ⟨hbA, hbp, hbB, hpA, hpB, hAB, ndA, ndB⟩ := parts_nd hP.nd
 have hcyc := cyc_diag b p (v :: M1) (M2 ++ [u])
 have ce := cyc_ends b v u (M1 ++ p :: M2)
 rw [ePL] at ce
 have m_ub : (u, b) ∈ cyc (b :: ((v :: M1) ++ p :: (M2 ++ [u]))) := by rw [ce]; simp
 have m_bv : (b, v) ∈ cyc (b :: ((v :: M1) ++ p :: (M2 ++ [u]))) := by rw [ce]; simp
 have hvp : v ≠ p := fun e => hpA (by simp [e])
 have hup : u ≠ p := fun e => hpB (by simp [e])
 have huv : u ≠ v := fun e => hAB v (by simp) u (by simp) e.symm
 have hub : u ≠ b := fun e => hbB (by simp [← e])
 have hvb : v ≠ b := fun e => hbA (by simp [← e])
 have ts := tri_sum s u b v p
 obtain ⟨i1, i2, i3⟩ := hpi
 have aff1 : s * T b v u = s * T u b v := by rw [T_cyc]
 have ha : 0 < s * T b v p := by
  by_cases k : s * T b v p = 0
  ·exfalso
   have z : T b v p = 0 := by rcases hs with rfl | rfl <;> omega
   exact hP.off m_bv (by simp) hbp.symm hvp.symm (on_T (s := s) (u := u) (b := b) (x := b) (y := v) z (by rw [T_abb]; omega) (by rw [T_abb]; omega) (by omega))
  ·omega
 have hb : 0 < s * T u b p := by
  by_cases k : s * T u b p = 0
  ·exfalso
   have z : T u b p = 0 := by rcases hs with rfl | rfl <;> omega
   refine hP.off m_ub (by simp) hup.symm hbp.symm (On.swap (on_T (s := s) (u := b) (b := v) (x := b) (y := u) ?_ ?_ ?_ ?_))
   ·rw [T_swap, z]; rfl
   ·rw [T_aba]; omega
   ·rw [T_aba]; omega
   ·omega
  ·omega
 have hd : 0 ≤ s * T v u p := i3
 have far : ∀ x ∈ b :: ((v :: M1) ++ p :: (M2 ++ [u])), x ≠ b → 0 ≤ s * T u b x → 0 ≤ s * T b v x → s * T v u x ≤ s * T v u p := by
  intro x hx nxb k1 k2
  by_cases c : 0 ≤ s * T v u x
  ·by_cases xv : x = v
   ·subst xv; rw [T_aba]; omega
   ·by_cases xu : x = u
    ·subst xu; rw [T_abb]; omega
    ·refine hpm x ?_ ⟨k1, k2, c⟩
     simp at hx ⊢
     rcases hx with h | h | h | h | h | h
     ·exact absurd h nxb
     ·exact absurd h xv
     ·simp [h]
     ·simp [h]
     ·simp [h]
     ·exact absurd h xu
  ·omega
 have hdis : ∀ f ∈ cyc (b :: ((v :: M1) ++ p :: (M2 ++ [u]))), f.1 ≠ b → f.1 ≠ p → f.2 ≠ b → f.2 ≠ p → Dis b p f.1 f.2 := by
  intro f hf n1 n2 n3 n4
  have m := cyc_mem _ f hf
  refine diag hs hD ha hb hd n2 n4 (far _ m.1 n1) (far _ m.2 n3) (fun _ k => ?_) (fun k _ => ?_) ?_ ?_
  ·exact hP.na f hf (u, b) m_ub k (fun e => n1 e.symm) (fun e => n3 (by rw [e]))
  ·exact hP.na f hf (b, v) m_bv n3 (fun e => k e.symm) (fun e => n1 (by rw [e]))
  ·exact hP.off hf (by simp) (fun e => n1 e.symm) (fun e => n3 e.symm)
  ·exact hP.off hf (by simp) (fun e => n2 e.symm) (fun e => n4 e.symm)
 have hon : ∀ q ∈ b :: ((v :: M1) ++ p :: (M2 ++ [u])), q ≠ b → q ≠ p → ¬ On b p q := fun q hq n1 n2 => diag_on ha hb n2 (far q hq n1)
 have sub1 : ∀ e ∈ ed (b :: ((v :: M1) ++ [p])), e ∈ cyc (b :: ((v :: M1) ++ p :: (M2 ++ [u]))) := fun e he => by rw [hcyc]; simp only [List.mem_append]; exact .inl he
 have sub2 : ∀ e ∈ ed (p :: ((M2 ++ [u]) ++ [b])), e ∈ cyc (b :: ((v :: M1) ++ p :: (M2 ++ [u]))) := fun e he => by rw [hcyc]; simp only [List.mem_append]; exact .inr he
 have nd1 : (b :: ((v :: M1) ++ [p])).Nodup := by
  rw [List.nodup_cons, List.nodup_append]
  exact ⟨fun k => by rw [List.mem_append] at k; rcases k with k | k; exact hbA k; simp at k; exact hbp k, ndA, by simp, fun x hx y hy e => by simp at hy; subst hy; subst e; exact hpA hx⟩
 have nd2 : (p :: ((M2 ++ [u]) ++ [b])).Nodup := by
  rw [List.nodup_cons, List.nodup_append]
  exact ⟨fun k => by rw [List.mem_append] at k; rcases k with k | k; exact hpB k; simp at k; exact hbp k.symm, ndB, by simp, fun x hx y hy e => by simp at hy; subst hy; subst e; exact hbB hx⟩
 have mem1 : ∀ x ∈ b :: ((v :: M1) ++ [p]), x ∈ b :: ((v :: M1) ++ p :: (M2 ++ [u])) := by
  intro x hx; simp at hx ⊢; rcases hx with h | h | h | h <;> simp [h]
 have mem2 : ∀ x ∈ p :: ((M2 ++ [u]) ++ [b]), x ∈ b :: ((v :: M1) ++ p :: (M2 ++ [u])) := by
  intro x hx; simp at hx ⊢; rcases hx with h | h | h | h <;> simp [h]
 have lowP : ∀ x ∈ b :: ((v :: M1) ++ p :: (M2 ++ [u])), x ≠ b → ht N b < ht N x := by
  intro x hx n
  refine low x ?_
  simp at hx ⊢; rcases hx with h | h | h | h | h | h
  ·exact absurd h n
  all_goals simp [h]
 refine ⟨p, M1, M2, rfl, ?_, ?_, ?_, ?_, ?_, ?_⟩
 ·refine hP.sub (by simp) sub1 nd1 mem1 (fun f hf n1 n2 n3 n4 => (hdis f (sub1 f hf) n1 n2 n3 n4).flip) (fun q hq ho => ?_)
  exact hon q (by simp at hq ⊢; rcases hq with h | h <;> simp [h]) (fun e => hbA (e ▸ hq)) (fun e => hpA (e ▸ hq)) ho.swap
 ·refine ⟨hs, b, v, M1, p, ⟨[], v :: (M1 ++ [p]), by simp, by simp⟩, fun q hq => ?_, by rw [← T_cyc]; exact ha⟩
  refine lowP q (mem1 q (List.mem_cons_of_mem _ (by simpa using hq))) (fun e => ?_)
  subst e; exact (List.nodup_cons.mp nd1).1 (by simpa using hq)
 ·refine hP.sub (by simp) sub2 nd2 mem2 (fun f hf n1 n2 n3 n4 => hdis f (sub2 f hf) n2 n1 n4 n3) (fun q hq ho => ?_)
  exact hon q (by simp at hq ⊢; rcases hq with h | h <;> simp [h]) (fun e => hbB (e ▸ hq)) (fun e => hpB (e ▸ hq)) ho
 ·refine ⟨hs, b, p, M2, u, ⟨p :: (M2 ++ [u]), [], by simp, by simp⟩, fun q hq => ?_, hb⟩
  refine lowP q (mem2 q ?_) (fun e => ?_)
  ·simp at hq ⊢; rcases hq with h | h | h <;> simp [h]
  ·subst e; simp at hq
   rcases hq with h | h | h
   ·exact hbp h
   ·exact hbB (by simp [h])
   ·exact hub h.symm
 ·intro X hX q hq
  have hu : Wd N X (b :: v :: (M1 ++ [p])) u = 0 := by
   refine low_zero hX (fun x hx => lowP x (mem1 x (List.mem_cons_of_mem _ (by simpa using hx))) (fun e => ?_)) (lowP u (by simp) hub) (fun x hx => hi.ne (mem1 x (List.mem_cons_of_mem _ (by simpa using hx))) (by simp) ?_) (fun e he => ?_) (by
    have e1 : s * T b p u = s * T u b p := by rw [T_cyc]
    rcases hs with rfl | rfl <;> omega)
   ·subst e; exact (List.nodup_cons.mp nd1).1 (by simpa using hx)
   ·rintro rfl; simp at hx; rcases hx with h | h | h
    ·exact huv h
    ·exact hAB x (by simp [h]) x (by simp) rfl
    ·exact hup h
   ·have hec : e ∈ ed (b :: ((v :: M1) ++ [p])) := ed_cons_sub b (v :: (M1 ++ [p])) e he
    have me := ed_mem _ e he
    have e2u : e.2 ≠ u := by
     intro k; have := me.2; rw [k] at this; simp at this; rcases this with h | h | h
     ·exact huv h
     ·exact hAB u (by simp [h]) u (by simp) rfl
     ·exact hup h
    have e1u : e.1 ≠ u := by
     intro k; have := me.1; rw [k] at this; simp at this; rcases this with h | h | h
     ·exact huv h
     ·exact hAB u (by simp [h]) u (by simp) rfl
     ·exact hup h
    have e1b : b ≠ e.1 := by
     intro k; have := me.1; rw [← k] at this
     exact (List.nodup_cons.mp nd1).1 (by simpa using this)
    exact (hP.na e (sub1 e hec) (u, b) m_ub e2u e1b (fun k => e1u (by rw [k]))).flip2
  rw [show b :: ((v :: M1) ++ [p]) = b :: v :: (M1 ++ [p]) from rfl, ← hu]
  refine chain_const hX (L := M2 ++ [u]) (fun f hf e he => ?_) (fun x hx y hy => ?_) (hi.mono (fun x hx => by simp at hx ⊢; rcases hx with h | h <;> simp [h])) ndB hq (by simp)
  ·have hf2 : f ∈ ed (p :: ((M2 ++ [u]) ++ [b])) := ed_cons_sub p _ f (ed_snoc_sub b _ f hf)
   have mf := ed_mem _ f hf
   have fB1 : ∀ x, x ∈ b :: ((v :: M1) ++ [p]) → x ≠ f.1 ∧ x ≠ f.2 := by
    intro x hx
    have : ∀ y ∈ M2 ++ [u], x ≠ y := by
     intro y hy e; subst e
     simp only [List.mem_cons, List.mem_append] at hx
     rcases hx with h | (h | h) | h
     ·exact hbB (h ▸ hy)
     ·exact hAB x (by simp [h]) x hy rfl
     ·exact hAB x (by simp [h]) x hy rfl
     ·simp at h; exact hpB (h ▸ hy)
    exact ⟨this _ mf.1, this _ mf.2⟩
   rw [show b :: v :: (M1 ++ [p]) = b :: ((v :: M1) ++ [p]) from rfl, cyc_path, List.mem_append] at he
   rcases he with he | he
   ·have me := ed_mem _ e he
    exact hP.na e (sub1 e he) f (sub2 f hf2) (fB1 _ me.2).1 (fun k => (fB1 _ me.1).2 k.symm) (fun k => (fB1 _ me.1).1 (by rw [k]))
   ·simp at he; subst he
    have q1 := fB1 b (by simp); have q2 := fB1 p (by simp)
    exact (hdis f (sub2 f hf2) q1.1.symm q2.1.symm q1.2.symm q2.2.symm).flip
  ·refine hi.ne (mem1 x hx) (by simp at hy ⊢; rcases hy with h | h <;> simp [h]) ?_
   rintro rfl
   simp only [List.mem_cons, List.mem_append] at hx
   rcases hx with h | h | h | h
   ·exact hbB (h ▸ hy)
   ·exact hAB x (by simp [h]) x hy rfl
   ·exact hAB x (by simp [h]) x hy rfl
   ·simp at h; exact hpB (h ▸ hy)
 ·intro X hX q hq
  have hv : Wd N X (b :: p :: (M2 ++ [u])) v = 0 := by
   refine low_zero hX (fun x hx => lowP x (mem2 x (by simp at hx ⊢; rcases hx with h | h | h <;> simp [h])) (fun e => ?_)) (lowP v (by simp) hvb) (fun x hx => hi.ne (mem2 x (by simp at hx ⊢; rcases hx with h | h | h <;> simp [h])) (by simp) ?_) (fun e he => ?_) (by
    have e1 : s * T b p v = - (s * T b v p) := by rw [T_swap2 b v p, Int.mul_neg]
    have e2 : s * T b u v = - (s * T b v u) := by rw [T_swap2 b v u, Int.mul_neg]
    rcases hs with rfl | rfl <;> omega)
   ·subst e; simp at hx; rcases hx with h | h | h
    ·exact hbp h
    ·exact hbB (by simp [h])
    ·exact hub h.symm
   ·rintro rfl; simp at hx; rcases hx with h | h | h
    ·exact hvp h
    ·exact hAB x (by simp) x (by simp [h]) rfl
    ·exact huv h.symm
   ·have hec : e ∈ ed (p :: ((M2 ++ [u]) ++ [b])) := by
     have := ed_snoc_sub b _ e he; simpa using this
    have me := ed_mem _ e he
    have e2b : e.2 ≠ b := by
     intro k; have := me.2; rw [k] at this; simp at this; rcases this with h | h | h
     ·exact hbp h
     ·exact hbB (by simp [h])
     ·exact hub h.symm
    have e1b : e.1 ≠ b := by
     intro k; have := me.1; rw [k] at this; simp at this; rcases this with h | h | h
     ·exact hbp h
     ·exact hbB (by simp [h])
     ·exact hub h.symm
    have e1v : v ≠ e.1 := by
     intro k; have := me.1; rw [← k] at this; simp at this; rcases this with h | h | h
     ·exact hvp h
     ·exact hAB v (by simp) v (by simp [h]) rfl
     ·exact huv h.symm
    exact hP.na e (sub2 e hec) (b, v) m_bv e2b e1v (fun k => e1b (by rw [k]))
  have hrot : ∀ z, Wd N X (p :: ((M2 ++ [u]) ++ [b])) z = Wd N X (b :: p :: (M2 ++ [u])) z := fun z => by
   have := Wd_rot N X (p :: (M2 ++ [u])) [b] z; simpa using this
  rw [hrot, ← hv, ← hrot, ← hrot]
  refine chain_const hX (L := v :: M1) (fun f hf e he => ?_) (fun x hx y hy => ?_) (hi.mono (fun x hx => by simp at hx ⊢; rcases hx with h | h <;> simp [h])) ndA hq (by simp)
  ·have hf2 : f ∈ ed (b :: ((v :: M1) ++ [p])) := ed_cons_sub b _ f (ed_snoc_sub p _ f hf)
   have mf := ed_mem _ f hf
   have fA1 : ∀ x, x ∈ p :: ((M2 ++ [u]) ++ [b]) → x ≠ f.1 ∧ x ≠ f.2 := by
    intro x hx
    have : ∀ y ∈ v :: M1, x ≠ y := by
     intro y hy e; subst e
     rw [List.mem_cons, List.mem_append] at hx
     rcases hx with h | h | h
     ·exact hpA (h ▸ hy)
     ·exact hAB x hy x h rfl
     ·simp at h; exact hbA (h ▸ hy)
    exact ⟨this _ mf.1, this _ mf.2⟩
   rw [cyc_path, List.mem_append] at he
   rcases he with he | he
   ·have me := ed_mem _ e he
    exact hP.na e (sub2 e he) f (sub1 f hf2) (fA1 _ me.2).1 (fun k => (fA1 _ me.1).2 k.symm) (fun k => (fA1 _ me.1).1 (by rw [k]))
   ·simp at he; subst he
    have q1 := fA1 b (by simp); have q2 := fA1 p (by simp)
    exact hdis f (sub1 f hf2) q1.1.symm q2.1.symm q1.2.symm q2.2.symm
  ·refine hi.ne (mem2 x hx) (by simp at hy ⊢; rcases hy with h | h <;> simp [h]) ?_
   rintro rfl
   rw [List.mem_cons, List.mem_append] at hx
   rcases hx with h | h | h
   ·exact hpA (h ▸ hy)
   ·exact hAB x hy x h rfl
   ·simp at h; exact hbA (h ▸ hy)

theorem Ear.sim' {s : Int} (hs : s = 1 ∨ s = -1) {a : Pt} {R : List Pt} (hP : Sim (a :: R)) (hl : 4 ≤ (a :: R).length) (h : Ear s a R) : Sim R := by
 simp at hl
 obtain ⟨v, M, u, rfl⟩ := ends2 (R := R) (by omega)
 refine h.sim hs hP ?_
 rintro rfl; simp at hl
def Main (N s : Int) (P : List Pt) : Prop :=
 (4 ≤ P.length → ∀ a R, Sp P a R → Ear s a R → Ori N s R) ∧
 (∀ X, X = 0 ∨ X = 1 → ∀ z, 0 ≤ s * Wd N X P z) ∧
 (∀ e ∈ cyc P, ∃ a R, Sp P a R ∧ a ≠ e.1 ∧ a ≠ e.2 ∧ Ear s a R ∧ ∀ X, X = 0 ∨ X = 1 → Wd N X R a = 0)

theorem ear_pos {N s : Int} (hs : s = 1 ∨ s = -1) {P : List Pt} (hP : Sim P) (hi : Inj N P) {n : Nat} (hn : P.length ≤ n) (ih : ∀ Q : List Pt, Q.length < n → Sim Q → Inj N Q → ∀ t, Ori N t Q → Main N t Q)
  (hK : 4 ≤ P.length → ∀ a R, Sp P a R → Ear s a R → Ori N s R) {a : Pt} {R : List Pt} (h : Sp P a R) (he : Ear s a R) : ∀ X, X = 0 ∨ X = 1 → ∀ z, 0 ≤ s * Wd N X R z := by
 intro X hX z
 have hlen := h.len
 have hP3 := hP.len
 have hS := h.sim hP
 by_cases h4 : 4 ≤ P.length
 ·have hSR := he.sim' hs hS (by simp; omega)
  exact (ih R (by omega) hSR (hi.mono (fun x hx => (h.mem x).mpr (.inr hx))) s (hK h4 a R h he)).2.1 X hX z
 ·obtain ⟨v, M, u, rfl⟩ := ends2 (R := R) (by omega)
  simp at hlen
  have : M = [] := by cases M with
   | nil => rfl
   | cons m M => simp at hlen; omega
  subst this
  rw [List.nil_append, Wd_two0]; omega
theorem Sp.ear_wd {N X s : Int} {P : List Pt} {a : Pt} {R : List Pt} (h : Sp P a R) (hl : 2 ≤ R.length) (he : Ear s a R) (z : Pt) : ∃ u v, 0 < s * T u a v ∧ Wd N X P z = Wd N X [u, a, v] z + Wd N X R z := by
 obtain ⟨v, u, e1, e2, hp, _⟩ := he
 exact ⟨u, v, hp, by rw [h.wd, Wd_ear' hl e1 e2]⟩

theorem main (N : Int) : ∀ n : Nat, ∀ P : List Pt, P.length = n → Sim P → Inj N P → ∀ s, Ori N s P → Main N s P := by
 intro n
 induction n using Nat.strongRecOn with
 | ind n ih0 =>
 intro P hn hP hi s ho
 have ih : ∀ Q : List Pt, Q.length < n → Sim Q → Inj N Q → ∀ t, Ori N t Q → Main N t Q := fun Q hq => ih0 Q.length hq Q rfl
 obtain ⟨hs, b, v, M, u, hb, low, hD⟩ := ho
 have hP0 := hb.sim hP
 have hi0 : Inj N (b :: v :: (M ++ [u])) := hi.mono (fun x hx => (hb.mem x).mpr (by simpa using hx))
 have hlen := hb.len
 have hlen3 := hP.len
 have nd0 := hP0.nd
 have ndR := (List.nodup_cons.mp nd0).2
 have nb := (List.nodup_cons.mp nd0).1
 have ce := cyc_ends b v u M
 have mP0 : ∀ x, x ∈ v :: (M ++ [u]) → x ∈ b :: v :: (M ++ [u]) := fun x hx => List.mem_cons_of_mem _ hx
 have hiR : Inj N (v :: (M ++ [u])) := hi0.mono mP0
 have hMn : 4 ≤ P.length → M ≠ [] := by rintro h rfl; simp at hlen; omega
 have hK0 : 4 ≤ P.length → Ear s b (v :: (M ++ [u])) → Ori N s (v :: (M ++ [u])) := by
  intro h4 he
  have hM := hMn h4
  have hSR := he.sim hs hP0 hM
  obtain ⟨t, hot⟩ := Ori.ex hSR hiR
  obtain ⟨q1, q2⟩ := he.to ndR
  suffices hst : t = s by rw [← hst]; exact hot
  by_cases h5 : P.length = 4
  ·-- four corners
   obtain ⟨q, rfl⟩ : ∃ q, M = [q] := by
    cases M with
    | nil => exact absurd rfl hM
    | cons q M => cases M with
     | nil => exact ⟨q, rfl⟩
     | cons r M => simp at hlen; omega
   have D1 : Dis q u b v := hP0.na (q, u) (by rw [ce]; simp [ed]) (b, v) (by rw [ce]; simp) (fun e => nb (by rw [show b = u from e.symm]; simp)) (fun e => by
    have e' : v = q := e
    subst e'; simp at ndR) (fun e => nb (by rw [show b = q from (congrArg Prod.fst e).symm]; simp))
   have D2 : Dis v q u b := hP0.na (v, q) (by rw [ce]; simp [ed]) (u, b) (by rw [ce]; simp) (fun e => by
    have e' : q = u := e
    subst e'; simp at ndR) (fun e => nb (by rw [show b = v from e]; simp)) (fun e => nb (by rw [show b = q from (congrArg Prod.snd e).symm]; simp))
   obtain ⟨ht, c, v', M', u', k1, k2, k3⟩ := hot
   have kl := k1.len
   simp at kl
   have kM : M' = [] := by cases M' with
    | nil => rfl
    | cons m M' => simp at kl
   subst kM
   have key : T v q u = T u' c v' := by
    have three : ∀ {x1 x2 x3 c v' u' : Pt}, Sp [x1, x2, x3] c [v', u'] → T x1 x2 x3 = T u' c v' := by
     intro x1 x2 x3 c v' u' h
     obtain ⟨A, B, e1, e2⟩ := h
     cases A with
     | nil => simp at e1 e2; obtain ⟨rfl, rfl⟩ := e1; simp at e2; obtain ⟨rfl, rfl⟩ := e2; exact (T_cyc2 _ _ _).symm
     | cons a1 A =>
      cases A with
      | nil => simp at e1 e2; obtain ⟨rfl, rfl, rfl⟩ := e1; simp at e2; obtain ⟨rfl, rfl⟩ := e2; rfl
      | cons a2 A =>
       cases A with
       | nil => simp at e1 e2; obtain ⟨rfl, rfl, rfl, rfl⟩ := e1; simp at e2; obtain ⟨rfl, rfl⟩ := e2; exact (T_cyc _ _ _).symm
       | cons a3 A => simp at e1
    exact three k1
   have ne : T v q u ≠ 0 := by rw [key]; rcases ht with rfl | rfl <;> omega
   have := tri4 hs hD (q2 q (by simp)) D1 D2 (low u (by simp)) (low v (by simp)) (low q (by simp)) ne
   rw [key] at this
   rcases hs with rfl | rfl <;> rcases ht with rfl | rfl <;> omega
  ·-- five or more: another ear first
   have hlR : (v :: (M ++ [u])).length = P.length - 1 := by omega
   obtain ⟨a, R', s1, n1, n2, he', _⟩ := (ih _ (by omega) hSR hiR t hot).2.2 (u, v) (by rw [cyc_path]; simp)
   have aM : a ∈ M := by
    have := (s1.mem a).mpr (.inl rfl)
    simp at this; rcases this with h | h | h
    ·exact absurd h n2
    ·exact h
    ·exact absurd h n1
   obtain ⟨C, D, rfl⟩ := List.append_of_mem aM
   have hR' : R' = (D ++ [u]) ++ (v :: C) := Sp.uniq ndR s1 ⟨v :: C, D ++ [u], by simp, rfl⟩
   subst hR'
   have ht := hot.1
   have nba : b ≠ a := fun e => nb (by rw [e]; simp)
   have s2 : Sp (b :: v :: (C ++ a :: D ++ [u])) a ((D ++ [u]) ++ (b :: v :: C)) := ⟨b :: v :: C, D ++ [u], by simp, rfl⟩
   have he2 : Ear t a ((D ++ [u]) ++ (b :: v :: C)) := by
    obtain ⟨v1, u1, e1, e2, hp, hq⟩ := he'
    have v1m : v1 ∈ (D ++ [u]) ++ (v :: C) := List.mem_of_head? e1
    have u1m : u1 ∈ (D ++ [u]) ++ (v :: C) := List.mem_of_getLast? e2
    have sub : ∀ x ∈ (D ++ [u]) ++ (v :: C), x ∈ v :: (C ++ a :: D ++ [u]) := by
     intro x hx; simp at hx ⊢; rcases hx with h | h | h | h <;> simp [h]
    refine ⟨v1, u1, ?_, ?_, hp, ?_⟩
    ·cases D <;> simpa using e1
    ·rw [List.getLast?_append] at e2 ⊢
     rw [show b :: v :: C = [b] ++ (v :: C) from rfl, List.getLast?_append]
     cases hc : (v :: C).getLast? with
     | none => simp at hc
     | some y => rw [hc] at e2; simpa using e2
    ·intro q hqm k1 k2 hin
     by_cases qb : q = b
     ·subst qb
      exact low_notin hp (low _ (sub _ u1m)) (low a (by simp)) (low _ (sub _ v1m)) hin
     ·refine hq q ?_ k1 k2 hin
      simp at hqm ⊢; rcases hqm with h | h | h | h | h
      ·simp [h]
      ·simp [h]
      ·exact absurd h qb
      ·simp [h]
      ·simp [h]
   have S2 := he2.sim' ht (s2.sim hP0) (by simp at hlen hlR ⊢; omega)
   have o2 : Ori N s ((D ++ [u]) ++ (b :: v :: C)) := by
    refine ⟨hs, b, v, C ++ D, u, ⟨D ++ [u], v :: C, rfl, by simp⟩, fun q hq => low q (by simp at hq ⊢; rcases hq with h | h | h | h <;> simp [h]), hD⟩
   have i2 : Inj N ((D ++ [u]) ++ (b :: v :: C)) := hi0.mono (fun x hx => by simp at hx ⊢; rcases hx with h | h | h | h | h <;> simp [h])
   have hl2 : ((D ++ [u]) ++ (b :: v :: C)).length = P.length - 1 := by simp at hlen ⊢; omega
   have s3 : Sp ((D ++ [u]) ++ (b :: v :: C)) b ((v :: C) ++ (D ++ [u])) := ⟨D ++ [u], v :: C, rfl, rfl⟩
   have e3 : Ear s b ((v :: C) ++ (D ++ [u])) := by
    have : (v :: C) ++ (D ++ [u]) = v :: ((C ++ D) ++ [u]) := by simp
    rw [this]
    exact Ear.of hD (fun q hq => q2 q (by simp at hq ⊢; rcases hq with h | h <;> simp [h]))
   have o3 := (ih _ (by omega) S2 i2 s o2).1 (by omega) b _ s3 e3
   have o4 := (ih _ (by omega) hSR hiR t hot).1 (by omega) a _ s1 he'
   have nd3 : ((v :: C) ++ (D ++ [u])).Nodup := by
    refine List.Nodup.sublist ?_ ndR
    have : v :: (C ++ a :: D ++ [u]) = (v :: C) ++ ([a] ++ (D ++ [u])) := by simp
    rw [this]
    exact List.Sublist.append_left (List.sublist_append_right _ _) _
   exact Ori.uniq nd3 o4.rot o3
 have hK : 4 ≤ P.length → ∀ a R, Sp P a R → Ear s a R → Ori N s R := by
  intro h4 a R h he
  have h' : Sp (b :: v :: (M ++ [u])) a R := by
   obtain ⟨A, B, e1, e2⟩ := hb
   have : b :: v :: (M ++ [u]) = (b :: B) ++ A := by rw [List.cons_append, ← e2]
   rw [this]; rw [e1] at h; exact h.of_rot
  by_cases hab : a = b
  ·subst hab
   have := Sp.uniq nd0 h' (Sp.head a _)
   subst this; exact hK0 h4 he
  ·exact keep_other hs hP0 (hMn h4) low hD h' hab he
 have hE : ∀ e ∈ cyc P, ∃ a R, Sp P a R ∧ a ≠ e.1 ∧ a ≠ e.2 ∧ Ear s a R ∧ ∀ X, X = 0 ∨ X = 1 → Wd N X R a = 0 := by
  intro e he
  have he0 := (hb.cyc e).mp he
  suffices h : ∃ a R, Sp (b :: v :: (M ++ [u])) a R ∧ a ≠ e.1 ∧ a ≠ e.2 ∧ Ear s a R ∧ ∀ X, X = 0 ∨ X = 1 → Wd N X R a = 0 by
   obtain ⟨a, R, h1, h2⟩ := h
   exact ⟨a, R, hb.back h1, h2⟩
  by_cases hM : M = []
  ·subst hM
   simp at ndR nb
   by_cases c1 : b ≠ e.1 ∧ b ≠ e.2
   ·exact ⟨b, _, Sp.head b _, c1.1, c1.2, Ear.of (M := []) hD (by simp), fun X _ => Wd_two0 N X _ _ _⟩
   by_cases c2 : v ≠ e.1 ∧ v ≠ e.2
   ·refine ⟨v, [u, b], ⟨[b], [u], rfl, rfl⟩, c2.1, c2.2, Ear.of (M := []) (by rw [T_cyc]; exact hD) (by simp), fun X _ => Wd_two0 N X _ _ _⟩
   by_cases c3 : u ≠ e.1 ∧ u ≠ e.2
   ·refine ⟨u, [b, v], ⟨[b, v], [], rfl, rfl⟩, c3.1, c3.2, Ear.of (M := []) (by rw [T_cyc2]; exact hD) (by simp), fun X _ => Wd_two0 N X _ _ _⟩
   exfalso
   have d1 : b = e.1 ∨ b = e.2 := by
    by_cases k : b = e.1
    ·exact .inl k
    ·by_cases k2 : b = e.2
     ·exact .inr k2
     ·exact absurd ⟨k, k2⟩ c1
   have d2 : v = e.1 ∨ v = e.2 := by
    by_cases k : v = e.1
    ·exact .inl k
    ·by_cases k2 : v = e.2
     ·exact .inr k2
     ·exact absurd ⟨k, k2⟩ c2
   have d3 : u = e.1 ∨ u = e.2 := by
    by_cases k : u = e.1
    ·exact .inl k
    ·by_cases k2 : u = e.2
     ·exact .inr k2
     ·exact absurd ⟨k, k2⟩ c3
   rcases d1 with d1 | d1 <;> rcases d2 with d2 | d2 <;> rcases d3 with d3 | d3
   ·exact nb.1 (d1.trans d2.symm)
   ·exact nb.1 (d1.trans d2.symm)
   ·exact nb.2 (d1.trans d3.symm)
   ·exact ndR (d2.trans d3.symm)
   ·exact ndR (d2.trans d3.symm)
   ·exact nb.2 (d1.trans d3.symm)
   ·exact nb.1 (d1.trans d2.symm)
   ·exact nb.1 (d1.trans d2.symm)
  ·have h4 : 4 ≤ P.length := by
    cases M with
    | nil => exact absurd rfl hM
    | cons m M => simp at hlen; omega
   by_cases hin : ∃ q ∈ M, InT s u b v q
   ·obtain ⟨p, M1, M2, rfl, S1, o1, S2, o2, hB, hA⟩ := diag_parts hs hP0 hi0 low hD hin
    have ePL : b :: v :: (M1 ++ p :: M2 ++ [u]) = b :: ((v :: M1) ++ p :: (M2 ++ [u])) := by simp
    rw [ePL] at he0 nd0 hi0 ⊢
    obtain ⟨hbA, hbp, hbB, hpA, hpB, hAB, ndA, ndB⟩ := parts_nd nd0
    have i1 : Inj N (b :: ((v :: M1) ++ [p])) := hi0.mono (fun x hx => by simp at hx ⊢; rcases hx with h | h | h | h <;> simp [h])
    have i2 : Inj N (p :: ((M2 ++ [u]) ++ [b])) := hi0.mono (fun x hx => by simp at hx ⊢; rcases hx with h | h | h | h <;> simp [h])
    have l1 : (b :: ((v :: M1) ++ [p])).length < n := by simp at hlen ⊢; omega
    have l2 : (p :: ((M2 ++ [u]) ++ [b])).length < n := by simp at hlen ⊢; omega
    have m1 := ih _ l1 S1 i1 s o1
    have m2 := ih _ l2 S2 i2 s o2
    rw [cyc_diag, List.mem_append] at he0
    rcases he0 with he0 | he0
    ·obtain ⟨a, R1, k1, k2, k3, k4, k5⟩ := m2.2.2 (b, p) (by rw [cyc_path]; simp)
     have pos := ear_pos hs S2 i2 (Nat.le_of_lt l2) ih m2.1 k1 k4
     have hrotP : p :: ((M2 ++ [u]) ++ b :: (v :: M1)) = (p :: (M2 ++ [u])) ++ (b :: (v :: M1)) := rfl
     have nd' : (p :: ((M2 ++ [u]) ++ b :: (v :: M1))).Nodup := by
      have h0 : ((b :: v :: M1) ++ (p :: (M2 ++ [u]))).Nodup := nd0
      rw [List.nodup_append] at h0
      rw [hrotP, List.nodup_append]
      exact ⟨h0.2.1, h0.1, fun x hx y hy e => h0.2.2 y hy x hx e.symm⟩
     have i' : Inj N (p :: ((M2 ++ [u]) ++ b :: (v :: M1))) := hi0.mono (fun x hx => by simp at hx ⊢; rcases hx with h | h | h | h | h | h <;> simp [h])
     obtain ⟨R, j1, j2, j3, j4⟩ := case2 hs nd' i' hA hB k1 k2 k3 (by simp) k4 k5 pos
     have me := ed_mem _ e he0
     have off : ∀ x ∈ b :: ((v :: M1) ++ [p]), a ≠ x := by
      rintro x hx rfl
      rw [List.mem_cons, List.mem_append] at hx
      rcases hx with h | h | h
      ·exact hbB (h ▸ j2)
      ·exact hAB a h a j2 rfl
      ·simp at h; exact hpB (h ▸ j2)
     exact ⟨a, R, Sp.of_rot (A := p :: (M2 ++ [u])) (B := b :: (v :: M1)) j1, off _ me.1, off _ me.2, j3, j4⟩
    ·obtain ⟨a, R1, k1, k2, k3, k4, k5⟩ := m1.2.2 (p, b) (by rw [cyc_path]; simp)
     have pos := ear_pos hs S1 i1 (Nat.le_of_lt l1) ih m1.1 k1 k4
     obtain ⟨R, j1, j2, j3, j4⟩ := case2 hs nd0 hi0 hB hA k1 k2 k3 (by simp) k4 k5 pos
     have me := ed_mem _ e he0
     have off : ∀ x ∈ p :: ((M2 ++ [u]) ++ [b]), a ≠ x := by
      rintro x hx rfl
      rw [List.mem_cons, List.mem_append] at hx
      rcases hx with h | h | h
      ·exact hpA (h ▸ j2)
      ·exact hAB a j2 a h rfl
      ·simp at h; exact hbA (h ▸ j2)
     exact ⟨a, R, j1, off _ me.1, off _ me.2, j3, j4⟩
   ·have emp : ∀ q ∈ M, ¬ InT s u b v q := fun q hq h => hin ⟨q, hq, h⟩
    have heb : Ear s b (v :: (M ++ [u])) := Ear.of hD emp
    by_cases c1 : b ≠ e.1 ∧ b ≠ e.2
    ·exact ⟨b, _, Sp.head b _, c1.1, c1.2, heb, fun X _ => Wd_low low⟩
    ·-- an ear of the rest
     have hSR := heb.sim hs hP0 hM
     have oR := hK0 h4 heb
     obtain ⟨a, R', s1, n1, n2, he', hw'⟩ := (ih _ (by omega) hSR hiR s oR).2.2 (u, v) (by rw [cyc_path]; simp)
     have aM : a ∈ M := by
      have := (s1.mem a).mpr (.inl rfl)
      simp at this; rcases this with h | h | h
      ·exact absurd h n2
      ·exact h
      ·exact absurd h n1
     have ab : a ≠ b := fun e => nb (by rw [← e]; simp [aM])
     have off : a ≠ e.1 ∧ a ≠ e.2 := by
      rw [ce, List.mem_cons, List.mem_append] at he0
      rcases he0 with rfl | h | h
      ·exact ⟨ab, n2⟩
      ·exfalso
       have me := ed_mem _ e h
       exact c1 ⟨fun k => nb (by rw [k]; exact me.1), fun k => nb (by rw [k]; exact me.2)⟩
      ·simp at h; subst h; exact ⟨n1, ab⟩
     have hnin := emp a aM
     obtain ⟨C, D, rfl⟩ := List.append_of_mem aM
     have hR' : R' = (D ++ [u]) ++ (v :: C) := Sp.uniq ndR s1 ⟨v :: C, D ++ [u], by simp, rfl⟩
     subst hR'
     refine ⟨a, (D ++ [u]) ++ (b :: v :: C), ⟨b :: v :: C, D ++ [u], by simp, rfl⟩, off.1, off.2, ?_, ?_⟩
     ·obtain ⟨v1, u1, e1, e2, hp, hq⟩ := he'
      have v1m : v1 ∈ (D ++ [u]) ++ (v :: C) := List.mem_of_head? e1
      have u1m : u1 ∈ (D ++ [u]) ++ (v :: C) := List.mem_of_getLast? e2
      have sub : ∀ x ∈ (D ++ [u]) ++ (v :: C), x ∈ v :: (C ++ a :: D ++ [u]) := by
       intro x hx; simp at hx ⊢; rcases hx with h | h | h | h <;> simp [h]
      refine ⟨v1, u1, ?_, ?_, hp, ?_⟩
      ·cases D <;> simpa using e1
      ·rw [List.getLast?_append] at e2 ⊢
       rw [show b :: v :: C = [b] ++ (v :: C) from rfl, List.getLast?_append]
       cases hc : (v :: C).getLast? with
       | none => simp at hc
       | some y => rw [hc] at e2; simpa using e2
      ·intro q hqm k1 k2 hin2
       by_cases qb : q = b
       ·subst qb
        exact low_notin hp (low _ (sub _ u1m)) (low a (by simp)) (low _ (sub _ v1m)) hin2
       ·refine hq q ?_ k1 k2 hin2
        simp at hqm ⊢; rcases hqm with h | h | h | h | h
        ·simp [h]
        ·simp [h]
        ·exact absurd h qb
        ·simp [h]
        ·simp [h]
     ·intro X hX
      have r1 := Wd_rot N X (D ++ [u]) (b :: v :: C) a
      have r2 := Wd_rot N X (D ++ [u]) (v :: C) a
      have e1 : (b :: v :: C) ++ (D ++ [u]) = b :: v :: ((C ++ D) ++ [u]) := by simp
      have e2 : (v :: C) ++ (D ++ [u]) = v :: ((C ++ D) ++ [u]) := by simp
      rw [e1, Wd_ear] at r1
      rw [e2, hw' X hX] at r2
      rw [r1, ← r2, tri_zero hX hs hD hnin]; rfl
 refine ⟨hK, ?_, hE⟩
 intro X hX z
 obtain ⟨a, R, h1, _, _, h4, _⟩ := hE (u, b) ((hb.cyc _).mpr (by rw [ce]; simp))
 have pos := ear_pos hs hP hi (by omega) ih hK h1 h4 X hX z
 have hl2 := h1.len
 obtain ⟨u1, v1, hp, e⟩ := h1.ear_wd (N := N) (X := X) (by omega) h4 z
 have := (triW (N := N) hX hs hp z).1
 rw [e, Int.mul_add]; omega

def c2d (a b : Pt) : Int := a.1 * b.2 - b.1 * a.2
def pa : List Pt → Int
 | a :: b :: r => c2d a b + pa (b :: r)
 | _ => 0
def Ar : List Pt → Int
 | [] => 0
 | a :: r => pa ((a :: r) ++ [a])
theorem pa_two (a b : Pt) (r : List Pt) : pa (a :: b :: r) = c2d a b + pa (b :: r) := rfl
theorem pa_split (p : Pt) (B : List Pt) : ∀ A, pa (A ++ p :: B) = pa (A ++ [p]) + pa (p :: B)
 | [] => by simp [pa]
 | [a] => by simp [pa]
 | a :: b :: r => by
  have := pa_split p B (b :: r)
  simp only [List.cons_append] at this ⊢
  rw [pa_two, pa_two, this]; omega
theorem Ar_two (a b : Pt) (A B : List Pt) : Ar ((a :: A) ++ (b :: B)) = pa ((a :: A) ++ [b]) + pa ((b :: B) ++ [a]) := by
 have : Ar ((a :: A) ++ (b :: B)) = pa ((a :: A) ++ b :: (B ++ [a])) := by simp [Ar]
 rw [this, pa_split]; simp
theorem Ar_rot (A B : List Pt) : Ar (A ++ B) = Ar (B ++ A) := by
 cases A with
 | nil => simp
 | cons a A =>
  cases B with
  | nil => simp
  | cons b B => rw [Ar_two, Ar_two]; omega
theorem c2d_swap (a b : Pt) : c2d b a = - c2d a b := by unfold c2d; omega
theorem Ar_path (a z : Pt) (L : List Pt) : Ar (a :: (L ++ [z])) = pa (a :: (L ++ [z])) + c2d z a := by
 have : Ar (a :: (L ++ [z])) = pa ((a :: L) ++ z :: [a]) := by simp [Ar]
 rw [this, pa_split]; simp [pa]
theorem T_c2d (u a v : Pt) : T u a v = c2d u a + c2d a v + c2d v u := by unfold T c2d; grind
theorem Ar_ear (a v u : Pt) (M : List Pt) : Ar (a :: v :: (M ++ [u])) = T u a v + Ar (v :: (M ++ [u])) := by
 have : a :: v :: (M ++ [u]) = a :: ((v :: M) ++ [u]) := rfl
 rw [this, Ar_path, Ar_path, T_c2d, List.cons_append, pa_two, c2d_swap u v]; omega
theorem Ar_two0 (a b : Pt) : Ar [a, b] = 0 := by
 simp only [Ar, pa, List.cons_append, List.nil_append]; rw [c2d_swap a b]; omega
theorem Ar_ear' {a v u : Pt} {R : List Pt} (h : 2 ≤ R.length) (h1 : R.head? = some v) (h2 : R.getLast? = some u) : Ar (a :: R) = T u a v + Ar R := by
 obtain ⟨v', M, u', rfl⟩ := ends2 h
 rw [gl?] at h2; simp at h1 h2; subst h1; subst h2
 exact Ar_ear a _ _ M
theorem two_of {R : List Pt} (h : R.length = 2) : ∃ v u, R = [v, u] := by
 match R, h with
 | [v, u], _ => exact ⟨v, u, rfl⟩

theorem main' {N s : Int} {P : List Pt} (hP : Sim P) (hi : Inj N P) (ho : Ori N s P) : Main N s P := main N P.length P rfl hP hi s ho
theorem area_pos (N : Int) : ∀ n : Nat, ∀ P : List Pt, P.length = n → Sim P → Inj N P → ∀ s, Ori N s P → 0 < s * Ar P := by
 intro n
 induction n using Nat.strongRecOn with
 | ind n ih =>
 intro P hn hP hi s ho
 obtain ⟨hK, _, hE⟩ := main' hP hi ho
 have h3 := hP.len
 obtain ⟨x, hx⟩ : ∃ x, x ∈ P := by cases P with
  | nil => simp at h3
  | cons x r => exact ⟨x, by simp⟩
 obtain ⟨y, hy⟩ := cyc_from P x hx
 obtain ⟨a, R, h1, _, _, he, _⟩ := hE _ hy
 have hl := h1.len
 obtain ⟨v, u, e1, e2, hp, hq⟩ := he
 have hl2 : 2 ≤ R.length := by omega
 have eA : Ar P = T u a v + Ar R := by
  obtain ⟨A, B, rfl, rfl⟩ := h1
  rw [Ar_rot A (a :: B)]
  exact Ar_ear' hl2 e1 e2
 by_cases h4 : 4 ≤ P.length
 ·have hSR := Ear.sim' ho.1 (h1.sim hP) (by simp; omega) ⟨v, u, e1, e2, hp, hq⟩
  have := ih R.length (by omega) R rfl hSR (hi.mono (fun x hx => (h1.mem x).mpr (.inr hx))) s (hK h4 a R h1 ⟨v, u, e1, e2, hp, hq⟩)
  rw [eA, Int.mul_add]; omega
 ·obtain ⟨v', u', rfl⟩ := two_of (R := R) (by omega)
  rw [eA, Ar_two0]; simpa using hp

inductive ES (s : Int) : List Pt → List (Pt × Pt × Pt) → Prop
 | last (v u : Pt) : ES s [v, u] []
 | cut (A : List Pt) (a : Pt) (B : List Pt) (v u : Pt) (ts : List (Pt × Pt × Pt)) : (B ++ A).head? = some v → (B ++ A).getLast? = some u → 0 < s * T u a v →
   (∀ q ∈ B ++ A, q ≠ u → q ≠ v → ¬ InT s u a v q) → 2 ≤ (B ++ A).length → ES s (A ++ B) ts → ES s (A ++ a :: B) ((u, a, v) :: ts)
theorem ES.len {s : Int} {P : List Pt} {ts : List (Pt × Pt × Pt)} (h : ES s P ts) : P.length = ts.length + 2 := by
 induction h with
 | last => rfl
 | cut A a B v u ts _ _ _ _ _ _ ih => simp at ih ⊢; omega
def sumT : List (Pt × Pt × Pt) → Int
 | [] => 0
 | t :: ts => T t.1 t.2.1 t.2.2 + sumT ts
theorem ES.area {s : Int} {P : List Pt} {ts : List (Pt × Pt × Pt)} (h : ES s P ts) : sumT ts = Ar P := by
 induction h with
 | last v u => rw [Ar_two0]; rfl
 | cut A a B v u ts h1 h2 _ _ h5 _ ih =>
  rw [Ar_rot A (a :: B)]
  show _ = Ar (a :: (B ++ A))
  rw [Ar_ear' h5 h1 h2, sumT, ih, Ar_rot A B]
def sumW (N X : Int) (z : Pt) : List (Pt × Pt × Pt) → Int
 | [] => 0
 | t :: ts => Wd N X [t.1, t.2.1, t.2.2] z + sumW N X z ts
theorem ES.wd {s : Int} {P : List Pt} {ts : List (Pt × Pt × Pt)} (h : ES s P ts) (N X : Int) (z : Pt) : sumW N X z ts = Wd N X P z := by
 induction h with
 | last v u => rw [Wd_two0]; rfl
 | cut A a B v u ts h1 h2 _ _ h5 _ ih =>
  rw [Wd_rot N X A (a :: B)]
  show _ = Wd N X (a :: (B ++ A)) z
  rw [Wd_ear' h5 h1 h2, sumW, ih, Wd_rot N X A B]
theorem ES.pos {s : Int} {P : List Pt} {ts : List (Pt × Pt × Pt)} (h : ES s P ts) : ∀ t ∈ ts, 0 < s * T t.1 t.2.1 t.2.2 := by
 induction h with
 | last v u => simp
 | cut A a B v u ts h1 h2 h3 _ h5 _ ih =>
  intro t ht
  rw [List.mem_cons] at ht
  rcases ht with rfl | ht
  ·exact h3
  ·exact ih t ht
theorem ES.mem {s : Int} {P : List Pt} {ts : List (Pt × Pt × Pt)} (h : ES s P ts) : ∀ t ∈ ts, t.1 ∈ P ∧ t.2.1 ∈ P ∧ t.2.2 ∈ P := by
 induction h with
 | last v u => simp
 | cut A a B v u ts h1 h2 h3 _ h5 _ ih =>
  intro t ht
  rw [List.mem_cons] at ht
  rcases ht with rfl | ht
  ·have m1 := List.mem_of_head? h1
   have m2 := List.mem_of_getLast? h2
   simp at m1 m2 ⊢
   exact ⟨by rcases m2 with h | h <;> simp [h], by rcases m1 with h | h <;> simp [h]⟩
  ·have := ih t ht
   simp at this ⊢
   obtain ⟨a1, a2, a3⟩ := this
   exact ⟨by rcases a1 with h | h <;> simp [h], by rcases a2 with h | h <;> simp [h], by rcases a3 with h | h <;> simp [h]⟩
def isd (x y : Pt) (t : Pt × Pt × Pt) : Int := (if x = t.1 ∧ y = t.2.1 then 1 else 0) + (if x = t.2.1 ∧ y = t.2.2 then 1 else 0) + (if x = t.2.2 ∧ y = t.1 then 1 else 0)
def sd (x y : Pt) : List (Pt × Pt × Pt) → Int
 | [] => 0
 | t :: ts => isd x y t + sd x y ts
theorem sd_out {s : Int} {P : List Pt} {ts : List (Pt × Pt × Pt)} (h : ES s P ts) {x y : Pt} (k : x ∉ P ∨ y ∉ P) : sd x y ts = 0 := by
 have hm := h.mem
 clear h
 induction ts with
 | nil => rfl
 | cons t ts ih =>
  have m := hm t (by simp)
  rw [sd, ih (fun t ht => hm t (List.mem_cons_of_mem _ ht))]
  unfold isd
  rw [if_neg (fun c => by rcases k with k | k; exact k (c.1 ▸ m.1); exact k (c.2 ▸ m.2.1)), if_neg (fun c => by rcases k with k | k; exact k (c.1 ▸ m.2.1); exact k (c.2 ▸ m.2.2)), if_neg (fun c => by rcases k with k | k; exact k (c.1 ▸ m.2.2); exact k (c.2 ▸ m.1))]; rfl
theorem ES.sides {s : Int} {P : List Pt} {ts : List (Pt × Pt × Pt)} (h : ES s P ts) (nd : P.Nodup) (h3 : 3 ≤ P.length) :
  (∀ e ∈ cyc P, sd e.1 e.2 ts = 1 ∧ sd e.2 e.1 ts = 0) ∧ (∀ x y, (x, y) ∉ cyc P → (y, x) ∉ cyc P → sd x y ts = sd y x ts) := by
 induction h with
 | last v u => simp at h3
 | cut A a B v u ts h1 h2 hp hq h5 hes ih =>
  have hrot : ∀ e, e ∈ cyc (A ++ a :: B) ↔ e ∈ cyc (a :: (B ++ A)) := fun e => ⟨mem_cyc_rot A (a :: B) e, mem_cyc_rot (a :: B) A e⟩
  have ndr : (a :: (B ++ A)).Nodup := by
   have := nd
   rw [List.nodup_append] at this
   rw [← List.cons_append, List.nodup_append]
   exact ⟨this.2.1, this.1, fun x hx y hy e => this.2.2 y hy x hx e.symm⟩
  have na := (List.nodup_cons.mp ndr).1
  have ndR := (List.nodup_cons.mp ndr).2
  have na' : a ∉ A ++ B := fun k => na (by simp at k ⊢; exact k.symm)
  have out1 : ∀ y, sd a y ts = 0 := fun y => sd_out hes (.inl na')
  have out2 : ∀ y, sd y a ts = 0 := fun y => sd_out hes (.inr na')
  obtain ⟨v', M, u', hR⟩ := ends2 h5
  rw [hR] at h1 h2 ndR ndr na
  rw [gl?] at h2; simp at h1 h2; subst h1; subst h2
  have ce := cyc_ends a v' u' M
  have nv := (List.nodup_cons.mp ndR).1
  have nuv : u' ≠ v' := fun e => nv (by rw [← e]; simp)
  have nau : a ≠ u' := fun e => na (by rw [e]; simp)
  have nav : a ≠ v' := fun e => na (by rw [e]; simp)
  have isd_a : ∀ y, isd a y (u', a, v') = if y = v' then 1 else 0 := by
   intro y; unfold isd
   rw [if_neg (fun c => nau c.1), if_neg (c := a = v' ∧ y = u') (fun c => nav c.1)]
   by_cases k : y = v' <;> simp [k]
  have isd_a2 : ∀ y, isd y a (u', a, v') = if y = u' then 1 else 0 := by
   intro y; unfold isd
   rw [if_neg (c := y = a ∧ a = v') (fun c => nav c.2), if_neg (c := y = v' ∧ a = u') (fun c => nau c.2)]
   by_cases k : y = u' <;> simp [k]
  have isd_o : ∀ x y, x ≠ a → y ≠ a → isd x y (u', a, v') = if x = v' ∧ y = u' then 1 else 0 := by
   intro x y n1 n2; unfold isd
   rw [if_neg (fun c => n2 c.2), if_neg (c := x = a ∧ y = v') (fun c => n1 c.1)]; simp
  by_cases hM : M = []
  ·-- the last triangle
   subst hM
   have hts : ts = [] := by
    have l1 := hes.len
    have l2 : (B ++ A).length = 2 := by rw [hR]; rfl
    have : ts.length = 0 := by simp at l1 l2; omega
    exact List.length_eq_zero_iff.mp this
   subst hts
   have e0 : cyc (a :: v' :: ([] ++ [u'])) = [(a, v'), (v', u'), (u', a)] := by rw [ce]; rfl
   constructor
   ·intro e he
    rw [hrot, hR, e0] at he
    simp at he
    rcases he with rfl | rfl | rfl
    ·simp only [sd]; rw [isd_a, isd_a2, if_pos rfl, if_neg nuv.symm]; exact ⟨rfl, rfl⟩
    ·simp only [sd]; rw [isd_o _ _ nav.symm nau.symm, isd_o _ _ nau.symm nav.symm, if_pos ⟨rfl, rfl⟩, if_neg (fun c => nuv c.1)]; exact ⟨rfl, rfl⟩
    ·simp only [sd]; rw [isd_a, isd_a2, if_pos rfl, if_neg nuv]; exact ⟨rfl, rfl⟩
   ·intro x y k1 k2
    rw [hrot, hR, e0] at k1 k2
    simp at k1 k2
    simp only [sd]
    by_cases xa : x = a
    ·subst xa; rw [isd_a, isd_a2, if_neg (fun c => (k1.1 rfl) c), if_neg (fun c => (k2.2.2 c) rfl)]
    ·by_cases ya : y = a
     ·subst ya; rw [isd_a, isd_a2, if_neg (fun c => (k1.2.2 c) rfl), if_neg (fun c => (k2.1 rfl) c)]
     ·rw [isd_o _ _ xa ya, isd_o _ _ ya xa, if_neg (fun c => k1.2.1 c.1 c.2), if_neg (fun c => k2.2.1 c.1 c.2)]
  ·have hrot2 : ∀ e, e ∈ cyc (A ++ B) ↔ e ∈ cyc (B ++ A) := fun e => ⟨mem_cyc_rot A B e, mem_cyc_rot B A e⟩
   have nd2 : (A ++ B).Nodup := by
    have h0 : (B ++ A).Nodup := by rw [hR]; exact ndR
    rw [List.nodup_append] at h0 ⊢
    exact ⟨h0.2.1, h0.1, fun x hx y hy e => h0.2.2 y hy x hx e.symm⟩
   have len2 : 3 ≤ (A ++ B).length := by
    have : (B ++ A).length = M.length + 2 := by rw [hR]; simp
    have hM1 : 1 ≤ M.length := by cases M with
     | nil => exact absurd rfl hM
     | cons m M => simp
    simp at this ⊢; omega
   obtain ⟨i1, i2⟩ := ih nd2 len2
   have cR : cyc (B ++ A) = ed (v' :: (M ++ [u'])) ++ [(u', v')] := by rw [hR, cyc_path]
   have f1 : ∀ e ∈ ed (v' :: (M ++ [u'])), e.1 ≠ u' := by
    intro e he k
    have := ed_fst u' (v' :: M) e he
    rw [k, List.mem_cons] at this
    rcases this with h | h
    ·exact nuv h
    ·exact (List.nodup_append.mp (List.nodup_cons.mp ndR).2).2.2 u' h u' (by simp) rfl
   have f2 : (v', u') ∉ ed (v' :: (M ++ [u'])) := by
    intro he
    cases M with
    | nil => exact hM rfl
    | cons m M =>
     rw [List.cons_append, ed, List.mem_cons] at he
     rcases he with he | he
     ·have k : u' = m := congrArg Prod.snd he
      exact (List.nodup_append.mp (List.nodup_cons.mp ndR).2).2.2 m (by simp) u' (by simp) k.symm
     ·exact nv (by have := (ed_mem _ _ he).1; simpa using this)
   constructor
   ·intro e he
    rw [hrot, hR, ce] at he
    simp only [List.mem_cons, List.mem_append, List.not_mem_nil, or_false] at he
    rcases he with rfl | he | rfl
    ·simp only [sd]; rw [isd_a, isd_a2, out1, out2, if_pos rfl, if_neg nuv.symm]; exact ⟨rfl, rfl⟩
    ·have me := ed_mem _ e he
     have e1a : e.1 ≠ a := fun k => na (k ▸ me.1)
     have e2a : e.2 ≠ a := fun k => na (k ▸ me.2)
     have := i1 e ((hrot2 e).mpr (by rw [cR]; simp [he]))
     simp only [sd]
     rw [isd_o _ _ e1a e2a, isd_o _ _ e2a e1a, if_neg (fun c => f2 (by have q : e = (v', u') := Prod.ext c.1 c.2; rw [← q]; exact he)), if_neg (fun c => f1 e he c.2), this.1, this.2]; exact ⟨rfl, rfl⟩
    ·simp only [sd]; rw [isd_a, isd_a2, out1, out2, if_pos rfl, if_neg nuv]; exact ⟨rfl, rfl⟩
   ·intro x y k1 k2
    rw [hrot, hR, ce] at k1 k2
    simp only [List.mem_cons, List.mem_append, List.not_mem_nil, or_false, not_or] at k1 k2
    simp only [sd]
    by_cases xa : x = a
    ·subst xa
     rw [isd_a, isd_a2, out1, out2, if_neg (fun c => k1.1 (by rw [c])), if_neg (fun c => k2.2.2 (by rw [c]))]
    ·by_cases ya : y = a
     ·subst ya
      rw [isd_a, isd_a2, out1, out2, if_neg (fun c => k1.2.2 (by rw [c])), if_neg (fun c => k2.1 (by rw [c]))]
     ·rw [isd_o _ _ xa ya, isd_o _ _ ya xa]
      by_cases c1 : x = v' ∧ y = u'
      ·obtain ⟨rfl, rfl⟩ := c1
       have := i1 (y, x) ((hrot2 _).mpr (by rw [cR]; simp))
       rw [if_pos (c := x = x ∧ y = y) ⟨rfl, rfl⟩, if_neg (c := y = x ∧ x = y) (fun c => nuv c.1), this.1, this.2]; rfl
      ·by_cases c2 : y = v' ∧ x = u'
       ·obtain ⟨rfl, rfl⟩ := c2
        have := i1 (x, y) ((hrot2 _).mpr (by rw [cR]; simp))
        rw [if_pos (c := y = y ∧ x = x) ⟨rfl, rfl⟩, if_neg (c := x = y ∧ y = x) (fun c => nuv c.1), this.1, this.2]; rfl
       ·rw [if_neg c1, if_neg c2, i2 x y (fun k => ?_) (fun k => ?_)]
        ·rw [hrot2, cR, List.mem_append] at k
         rcases k with k | k
         ·exact k1.2.1 k
         ·simp at k; exact c2 ⟨k.2, k.1⟩
        ·rw [hrot2, cR, List.mem_append] at k
         rcases k with k | k
         ·exact k2.2.1 k
         ·simp at k; exact c1 ⟨k.2, k.1⟩

def ix (P : List Pt) (i : Nat) : Pt := P.getD i (0, 0)
theorem ix_eq (P : List Pt) (i : Nat) (h : i < P.length) : ix P i = P[i] := by unfold ix; rw [List.getD_eq_getElem?_getD, List.getElem?_eq_getElem h, Option.getD_some]
theorem ix_mem (P : List Pt) (i : Nat) (h : i < P.length) : ix P i ∈ P := by rw [ix_eq P i h]; exact List.getElem_mem h
theorem ed_idx : ∀ (l : List Pt) (e : Pt × Pt), e ∈ ed l ↔ ∃ i, i + 1 < l.length ∧ e = (ix l i, ix l (i + 1))
 | [], e => by simp [ed]
 | [a], e => by simp [ed]
 | a :: b :: r, e => by
  rw [ed, List.mem_cons, ed_idx (b :: r) e]
  constructor
  ·rintro (rfl | ⟨i, hi, rfl⟩)
   ·exact ⟨0, by simp, rfl⟩
   ·exact ⟨i + 1, by simp at hi ⊢; omega, rfl⟩
  ·rintro ⟨i, hi, rfl⟩
   cases i with
   | zero => exact .inl rfl
   | succ i => exact .inr ⟨i, by simp at hi ⊢; omega, rfl⟩
theorem ix_app_l (P Q : List Pt) (i : Nat) (h : i < P.length) : ix (P ++ Q) i = ix P i := by
 rw [ix_eq _ _ (by simp; omega), ix_eq _ _ h, List.getElem_append_left h]
theorem ix_app_r (P : List Pt) (a : Pt) (Q : List Pt) : ix (P ++ a :: Q) P.length = a := by
 rw [ix_eq _ _ (by simp)]; simp
theorem cyc_idx (P : List Pt) (e : Pt × Pt) : e ∈ cyc P ↔ ∃ i, i < P.length ∧ e = (ix P i, ix P ((i + 1) % P.length)) := by
 cases P with
 | nil => simp [cyc]
 | cons a r =>
  rw [cyc, ed_idx]
  have hlen : ((a :: r) ++ [a]).length = (a :: r).length + 1 := by simp
  have key : ∀ i, i < (a :: r).length → ix ((a :: r) ++ [a]) (i + 1) = ix (a :: r) ((i + 1) % (a :: r).length) := by
   intro i hi
   by_cases c : i + 1 < (a :: r).length
   ·rw [ix_app_l _ _ _ c, Nat.mod_eq_of_lt c]
   ·have e : i + 1 = (a :: r).length := by omega
    rw [e, Nat.mod_self, ix_app_r]; rfl
  constructor
  ·rintro ⟨i, hi, rfl⟩
   have hi' : i < (a :: r).length := by omega
   exact ⟨i, hi', by rw [ix_app_l _ _ _ hi', key i hi']⟩
  ·rintro ⟨i, hi, rfl⟩
   exact ⟨i, by omega, by rw [ix_app_l _ _ _ hi, key i hi]⟩
theorem sim_of_idx {P : List Pt} (h3 : 3 ≤ P.length)
  (h1 : ∀ i, i < P.length → ix P i ≠ ix P ((i + 1) % P.length) ∧ ¬ On (ix P ((i + 1) % P.length)) (ix P (((i + 1) % P.length + 1) % P.length)) (ix P i) ∧ ¬ On (ix P i) (ix P ((i + 1) % P.length)) (ix P (((i + 1) % P.length + 1) % P.length)))
  (h2 : ∀ i k, i + 2 ≤ k → k < P.length → (k + 1) % P.length ≠ i → Dis (ix P i) (ix P ((i + 1) % P.length)) (ix P k) (ix P ((k + 1) % P.length))) : Sim P := by
 have lt : ∀ i k, i < k → k < P.length → ix P i ≠ ix P k := by
  intro i k hik hk e
  have m1 : (i + 1) % P.length = i + 1 := Nat.mod_eq_of_lt (by omega)
  by_cases c : k = i + 1
  ·subst c; have := (h1 i (by omega)).1; rw [m1] at this; exact this e
  ·by_cases d : (k + 1) % P.length = i
   ·have := (h1 k hk).1; rw [d] at this; exact this e.symm
   ·have := (h2 i k (by omega) hk d).1; rw [← e] at this; exact this (on_left _ _)
 have inj : ∀ i k, i < P.length → k < P.length → ix P i = ix P k → i = k := by
  intro i k hi hk e
  rcases Nat.lt_trichotomy i k with h | h | h
  ·exact absurd e (lt i k h hk)
  ·exact h
  ·exact absurd e.symm (lt k i h hi)
 refine ⟨h3, ?_, ?_, ?_⟩
 ·rw [List.Nodup, List.pairwise_iff_getElem]
  intro i k hi hk hik e
  refine lt i k hik hk ?_
  rw [ix_eq P i hi, ix_eq P k hk]; exact e
 ·intro e he f hf n1 n2 n3
  rw [cyc_idx] at he hf
  obtain ⟨i, hi, rfl⟩ := he; obtain ⟨k, hk, rfl⟩ := hf
  simp only at n1 n2 ⊢
  rcases Nat.lt_trichotomy i k with h | h | h
  ·have m1 : (i + 1) % P.length = i + 1 := Nat.mod_eq_of_lt (by omega)
   refine h2 i k ?_ hk (fun c => n2 (by rw [c]))
   by_cases c : k = i + 1
   ·subst c; rw [m1] at n1; exact absurd rfl n1
   ·omega
  ·subst h; exact absurd rfl n3
  ·have m1 : (k + 1) % P.length = k + 1 := Nat.mod_eq_of_lt (by omega)
   refine (h2 k i ?_ hi (fun c => n1 (by rw [c]))).swap
   by_cases c : i = k + 1
   ·subst c; rw [m1] at n2; exact absurd rfl n2
   ·omega
 ·intro e he f hf n1
  rw [cyc_idx] at he hf
  obtain ⟨i, hi, rfl⟩ := he; obtain ⟨k, hk, rfl⟩ := hf
  simp only at n1 ⊢
  have := inj _ _ (Nat.mod_lt _ (by omega)) hk n1
  subst this
  exact (h1 i hi).2
theorem split_head (A : List Pt) (a : Pt) (B : List Pt) (h : 1 ≤ (B ++ A).length) : (B ++ A).head? = some (ix (A ++ a :: B) ((A.length + 1) % (A ++ a :: B).length)) := by
 cases B with
 | nil =>
  have e : (A.length + 1) % (A ++ [a]).length = 0 := by simp
  rw [e]
  cases A with
  | nil => simp at h
  | cons x A => rfl
 | cons b B =>
  have e : (A.length + 1) % (A ++ a :: b :: B).length = A.length + 1 := Nat.mod_eq_of_lt (by simp)
  rw [e, ix_eq _ _ (by simp)]
  simp
theorem split_last (A : List Pt) (a : Pt) (B : List Pt) (h : 1 ≤ (B ++ A).length) : (B ++ A).getLast? = some (ix (A ++ a :: B) ((A.length + (A ++ a :: B).length - 1) % (A ++ a :: B).length)) := by
 cases A with
 | nil =>
  cases B with
  | nil => simp at h
  | cons b B =>
   have e : (([] : List Pt).length + ([] ++ a :: b :: B).length - 1) % ([] ++ a :: b :: B).length = B.length + 1 := by
    simp only [List.length_nil, List.nil_append, List.length_cons]
    rw [Nat.mod_eq_of_lt (by omega)]; omega
   rw [e, ix_eq _ _ (by simp)]
   simp [List.getLast?_eq_getElem?]
 | cons x A =>
  have e : ((x :: A).length + ((x :: A) ++ a :: B).length - 1) % ((x :: A) ++ a :: B).length = A.length := by
   have : (x :: A).length + ((x :: A) ++ a :: B).length - 1 = A.length + ((x :: A) ++ a :: B).length := by simp; omega
   rw [this, Nat.add_mod_right, Nat.mod_eq_of_lt (by simp; omega)]
  rw [e, ix_eq _ _ (by simp; omega), List.getLast?_append]
  have : (x :: A).getLast? = some ((x :: A)[A.length]'(by simp)) := by
   rw [List.getLast?_eq_getElem?]; simp
  rw [this]
  simp only [Option.some_or, Option.some.injEq]
  rw [List.getElem_append_left (by simp)]

def EarI (s : Int) (P : List Pt) (k : Nat) : Prop :=
 0 < s * T (ix P ((k + P.length - 1) % P.length)) (ix P k) (ix P ((k + 1) % P.length)) ∧
 ∀ q ∈ P, q ≠ ix P ((k + P.length - 1) % P.length) → q ≠ ix P k → q ≠ ix P ((k + 1) % P.length) → ¬ InT s (ix P ((k + P.length - 1) % P.length)) (ix P k) (ix P ((k + 1) % P.length)) q
theorem split_at (P : List Pt) (k : Nat) (h : k < P.length) : P = P.take k ++ ix P k :: P.drop (k + 1) := by
 rw [ix_eq P k h]; simp
theorem EarI.ear {s : Int} {P : List Pt} (nd : P.Nodup) {k : Nat} (hk : k < P.length) (h2 : 3 ≤ P.length) (h : EarI s P k) : Ear s (ix P k) (P.drop (k + 1) ++ P.take k) := by
 have e := split_at P k hk
 have hlen : (P.take k).length = k := by rw [List.length_take]; omega
 have hl2 : 1 ≤ (P.drop (k + 1) ++ P.take k).length := by simp; omega
 have e1 := split_head (P.take k) (ix P k) (P.drop (k + 1)) hl2
 have e2 := split_last (P.take k) (ix P k) (P.drop (k + 1)) hl2
 rw [← e, hlen] at e1 e2
 refine ⟨_, _, e1, e2, h.1, fun q hq n1 n2 => ?_⟩
 have hqP : q ∈ P := by
  rw [List.mem_append] at hq
  rcases hq with hq | hq
  ·exact List.mem_of_mem_drop hq
  ·exact List.mem_of_mem_take hq
 refine h.2 q hqP n1 (fun c => ?_) n2
 subst c
 rw [e, List.nodup_append] at nd
 rw [List.mem_append] at hq
 rcases hq with hq | hq
 ·exact (List.nodup_cons.mp nd.2.1).1 hq
 ·exact nd.2.2 _ hq _ (by simp) rfl
structure Good (N s : Int) (P : List Pt) : Prop where
 sim : Sim P
 inj : Inj N P
 ori : Ori N s P
theorem Good.sgn {N s : Int} {P : List Pt} (h : Good N s P) : s = 1 ∨ s = -1 := h.ori.1
theorem Good.cut {N s : Int} {P : List Pt} (h : Good N s P) {k : Nat} (hk : k < P.length) (h4 : 4 ≤ P.length) (he : EarI s P k) : Good N s (P.take k ++ P.drop (k + 1)) := by
 have hear := he.ear h.sim.nd hk (by omega)
 have sp : Sp P (ix P k) (P.drop (k + 1) ++ P.take k) := ⟨P.take k, P.drop (k + 1), split_at P k hk, rfl⟩
 have S := hear.sim' h.sgn (sp.sim h.sim) (by have := sp.len; simp at this ⊢; omega)
 have O := (main' h.sim h.inj h.ori).1 h4 _ _ sp hear
 refine ⟨S.rot, h.inj.mono (fun x hx => ?_), O.rot⟩
 rw [List.mem_append] at hx
 rcases hx with hx | hx
 ·exact List.mem_of_mem_take hx
 ·exact List.mem_of_mem_drop hx
theorem Good.ear {N s : Int} {P : List Pt} (h : Good N s P) : ∃ k, k < P.length ∧ EarI s P k := by
 have h3 := h.sim.len
 obtain ⟨x, hx⟩ : ∃ x, x ∈ P := ⟨ix P 0, ix_mem P 0 (by omega)⟩
 obtain ⟨y, hy⟩ := cyc_from P x hx
 obtain ⟨a, R, ⟨A, B, e, rfl⟩, _, _, he, _⟩ := (main' h.sim h.inj h.ori).2.2 _ hy
 subst e
 have hl2 : 1 ≤ (B ++ A).length := by simp at h3 ⊢; omega
 have e1 := split_head A a B hl2
 have e2 := split_last A a B hl2
 obtain ⟨v, u, f1, f2, hp, hq⟩ := he
 rw [e1] at f1; rw [e2] at f2
 simp only [Option.some.injEq] at f1 f2
 refine ⟨A.length, by simp, ?_⟩
 unfold EarI
 rw [f1, f2, ix_app_r]
 refine ⟨hp, fun q hqm n1 n2 n3 => hq q ?_ n1 n3⟩
 simp at hqm ⊢
 rcases hqm with h | h | h
 ·exact .inr h
 ·exact absurd h n2
 ·exact .inl h
theorem Good.area {N s : Int} {P : List Pt} (h : Good N s P) : 0 < s * Ar P := area_pos N _ P rfl h.sim h.inj s h.ori
theorem Good.es_cut {N s : Int} {P : List Pt} (h : Good N s P) {k : Nat} (hk : k < P.length) (he : EarI s P k) {ts : List (Pt × Pt × Pt)} (hes : ES s (P.take k ++ P.drop (k + 1)) ts) :
  ES s P ((ix P ((k + P.length - 1) % P.length), ix P k, ix P ((k + 1) % P.length)) :: ts) := by
 have e := split_at P k hk
 have h3 := h.sim.len
 have hlen : (P.take k).length = k := by rw [List.length_take]; omega
 have hl2 : 2 ≤ (P.drop (k + 1) ++ P.take k).length := by simp; omega
 have e1 := split_head (P.take k) (ix P k) (P.drop (k + 1)) (by omega)
 have e2 := split_last (P.take k) (ix P k) (P.drop (k + 1)) (by omega)
 rw [← e, hlen] at e1 e2
 obtain ⟨v, u, f1, f2, hp, hq⟩ := he.ear h.sim.nd hk h3
 have q1 := e1.symm.trans f1
 have q2 := e2.symm.trans f2
 simp only [Option.some.injEq] at q1 q2
 subst q1; subst q2
 have c := ES.cut (P.take k) (ix P k) (P.drop (k + 1)) _ _ ts e1 e2 hp hq hl2 hes
 have : ES s P _ := e.symm ▸ c
 exact this
theorem good_of {N : Int} {P : List Pt} (h : Sim P) (hi : Inj N P) : ∃ s, Good N s P := by
 obtain ⟨s, hs⟩ := Ori.ex h hi; exact ⟨s, h, hi, hs⟩
theorem inj_of {N B : Int} (hN : 2 * B < N) {P : List Pt} (h : ∀ p ∈ P, -B ≤ p.1 ∧ p.1 ≤ B) : Inj N P := by
 intro x hx y hy e
 have bx := h x hx; have b_y := h y hy
 unfold ht aff at e
 have e2 : N * (x.2 - y.2) = x.1 - y.1 := by rw [Int.mul_sub]; omega
 have : x.2 = y.2 := by
  rcases Int.lt_trichotomy (x.2 - y.2) 0 with k | k | k
  ·have := mzn (show 0 ≤ N by omega) (show x.2 - y.2 + 1 ≤ 0 by omega)
   rw [Int.mul_add, Int.mul_one] at this; omega
  ·omega
  ·have := mzz (show 0 ≤ N by omega) (show 0 ≤ x.2 - y.2 - 1 by omega)
   rw [Int.mul_sub N _ 1, Int.mul_one] at this; omega
 refine Prod.ext ?_ this
 rw [this, Int.sub_self, Int.mul_zero] at e2; omega
end Go.Proofs.Ythaklbjcjoolcaa.Geo
namespace Go.Proofs.Ythaklbjcjoolcaa.P
open Go.RowKit YthaklbjcjoolcaaW.PrintWords YthaklbjcjoolcaaW.PrintLast YthaklbjcjoolcaaW.PrintMore
def gp (p : S31) : Geo.Pt := (p.f0, p.f1)
theorem gp_inj {p q : S31} (h : gp p = gp q) : p = q := by
 have e1 := congrArg Prod.fst h; have e2 := congrArg Prod.snd h
 cases p; cases q; simp [gp] at e1 e2; simp [e1, e2]
theorem T_crs (a b c : S31) : Geo.T (gp a) (gp b) (gp c) = crs a b c := rfl
theorem btw3 (a b r : Int) : (mn a b ≤ r ∧ r ≤ mx a b) ↔ (a ≤ r ∧ r ≤ b ∨ b ≤ r ∧ r ≤ a) := by unfold mn mx; split <;> omega
theorem on_gp {a b p : S31} : Geo.On (gp a) (gp b) (gp p) ↔ onB a b p = true := by
 have e : onB a b p = true ↔ crs a b p = 0 ∧ (mn a.f0 b.f0 ≤ p.f0 ∧ p.f0 ≤ mx a.f0 b.f0) ∧ (mn a.f1 b.f1 ≤ p.f1 ∧ p.f1 ≤ mx a.f1 b.f1) := by
  unfold onB; simp only [Bool.and_eq_true, decide_eq_true_eq, and_assoc]
 rw [e, btw3, btw3]; exact Iff.rfl
theorem sgn_mul_neg {x y : Int} (h : Geo.opp x y) : sgn x * sgn y < 0 := by
 have hx := sgn_bd x; have hy := sgn_bd y
 rcases h with ⟨h1, h2⟩ | ⟨h1, h2⟩
 ·have e1 := sgn_neg.mpr h1; have e2 := sgn_pos.mpr h2
  have : sgn x = -1 := by omega
  have : sgn y = 1 := by omega
  rw [‹sgn x = -1›, ‹sgn y = 1›]; decide
 ·have e1 := sgn_pos.mpr h1; have e2 := sgn_neg.mpr h2
  have : sgn x = 1 := by omega
  have : sgn y = -1 := by omega
  rw [‹sgn x = 1›, ‹sgn y = -1›]; decide
theorem dis_gp {a b c d : S31} (h : meetB a b c d = false) : Geo.Dis (gp a) (gp b) (gp c) (gp d) := by
 unfold meetB at h
 simp only [Bool.or_eq_false_iff, Bool.and_eq_false_iff, decide_eq_false_iff_not] at h
 obtain ⟨h1, h2, h3, h4, h5⟩ := h
 have no : ∀ {x y z : S31}, onB x y z = false → ¬ Geo.On (gp x) (gp y) (gp z) := fun e o => by rw [on_gp.mp o] at e; cases e
 refine ⟨no h1, no h2, no h3, no h4, fun o => ?_⟩
 rcases h5 with h | h
 ·exact h (sgn_mul_neg o.1)
 ·exact h (sgn_mul_neg o.2)
theorem ix_gp (l : List S31) (i : Nat) (h : i < l.length) : Geo.ix (l.map gp) i = gp (pt l i) := by
 rw [Geo.ix_eq _ _ (by rw [List.length_map]; exact h), pt_eq l i h]; simp
theorem rowB_at (l : List S31) (i : Nat) : ∀ n k, rowB l i n k = true → ∀ j, k ≤ j → j < k + n → nx l j ≠ i → meetB (pt l i) (pt l (nx l i)) (pt l j) (pt l (nx l j)) = false
 | 0, k, _, j, h1, h2, _ => by omega
 | n + 1, k, h, j, h1, h2, h3 => by
  unfold rowB at h
  rw [Bool.and_eq_true] at h
  by_cases e : j = k
  ·subst e
   have := h.1
   rw [decide_eq_false h3, Bool.false_or, Bool.not_eq_true'] at this
   exact this
  ·exact rowB_at l i n (k + 1) h.2 j (by omega) (by omega) h3
theorem simB_at (l : List S31) : ∀ n i, simB l n i = true → ∀ j, i ≤ j → j < i + n → eqE l j = false ∧ xB l j = false ∧ rowB l j (l.length - (j + 2)) (j + 2) = true
 | 0, i, _, j, h1, h2 => by omega
 | n + 1, i, h, j, h1, h2 => by
  unfold simB at h
  simp only [Bool.and_eq_true, Bool.not_eq_true'] at h
  obtain ⟨⟨a1, a2, a3⟩, a4⟩ := h
  by_cases e : j = i
  ·subst e; exact ⟨a1, a2, a3⟩
  ·exact simB_at l n (i + 1) a4 j (by omega) (by omega)
theorem sim_gp {l : List S31} (h : simpleS l = true) : Geo.Sim (l.map gp) := by
 unfold simpleS at h
 simp only [Bool.and_eq_true, decide_eq_true_eq] at h
 obtain ⟨⟨⟨h3, h5⟩, hok⟩, hs⟩ := h
 have hat := simB_at l l.length 0 hs
 have hlen : (l.map gp).length = l.length := List.length_map ..
 refine Geo.sim_of_idx (by rw [hlen]; exact h3) ?_ ?_
 ·intro i hi
  rw [hlen] at hi ⊢
  obtain ⟨a1, a2, _⟩ := hat i (by omega) (by omega)
  have n1 : (i + 1) % l.length < l.length := Nat.mod_lt _ (by omega)
  have n2 : ((i + 1) % l.length + 1) % l.length < l.length := Nat.mod_lt _ (by omega)
  rw [ix_gp l i hi, ix_gp l _ n1, ix_gp l _ n2]
  unfold xB at a2
  rw [Bool.or_eq_false_iff] at a2
  refine ⟨fun e => ?_, fun o => ?_, fun o => ?_⟩
  ·have e' := gp_inj e
   unfold eqE at a1
   have : pt l i = pt l (nx l i) := e'
   rw [← this] at a1; simp at a1
  ·rw [on_gp] at o; have := a2.1; unfold nx at this; rw [o] at this; cases this
  ·rw [on_gp] at o; have := a2.2; unfold nx at this; rw [o] at this; cases this
 ·intro i k hik hk hne
  rw [hlen] at hk hne ⊢
  have n1 : (i + 1) % l.length < l.length := Nat.mod_lt _ (by omega)
  have n2 : (k + 1) % l.length < l.length := Nat.mod_lt _ (by omega)
  rw [ix_gp l i (by omega), ix_gp l k hk, ix_gp l _ n1, ix_gp l _ n2]
  have := (hat i (by omega) (by omega)).2.2
  exact dis_gp (rowB_at l i _ _ this k hik (by omega) hne)
theorem simple_ok {l : List S31} (h : simpleS l = true) : 3 ≤ l.length ∧ l.length ≤ 512 ∧ allOk l = true := by
 unfold simpleS at h
 simp only [Bool.and_eq_true, decide_eq_true_eq] at h
 exact ⟨h.1.1.1, h.1.1.2, h.1.2⟩
def NH : Int := 1048576
theorem inj_gp {l : List S31} (h : allOk l = true) : Geo.Inj NH (l.map gp) := by
 refine Geo.inj_of (B := 4096) (by unfold NH; omega) ?_
 intro p hp
 rw [List.mem_map] at hp
 obtain ⟨q, hq, rfl⟩ := hp
 have := List.all_eq_true.1 h q hq
 unfold okPt at this
 rw [decide_eq_true_eq] at this
 exact this.1
theorem good_gp {l : List S31} (h : simpleS l = true) : ∃ s, Geo.Good NH s (l.map gp) := Geo.good_of (sim_gp h) (inj_gp (simple_ok h).2.2)

def nat_at (L : List Nat) (i : Nat) : Nat := L.getD i 0
theorem nat_at_eq (L : List Nat) (i : Nat) (h : i < L.length) : nat_at L i = L[i] := by unfold nat_at; rw [List.getD_eq_getElem?_getD, List.getElem?_eq_getElem h, Option.getD_some]
def prv (n k : Nat) : Nat := (k + n - 1) % n
def nxt2 (n k : Nat) : Nat := (k + 1) % n
def inB (way : Int) (a b c p : S31) : Bool := (!decide (p = a) && (!decide (p = b) && !decide (p = c))) && (!decide (sgn (crs a b p) = -way) && (!decide (sgn (crs b c p) = -way) && !decide (sgn (crs c a p) = -way)))
def earB (l : List S31) (L : List Nat) (k : Nat) (way : Int) : Bool :=
 decide (sgn (crs (pt l (nat_at L (prv L.length k))) (pt l (nat_at L k)) (pt l (nat_at L (nxt2 L.length k)))) = way) &&
 L.all fun i => !inB way (pt l (nat_at L (prv L.length k))) (pt l (nat_at L k)) (pt l (nat_at L (nxt2 L.length k))) (pt l i)
def tri3 (L : List Nat) (k : Nat) : S58 := ⟨nat_at L (prv L.length k), nat_at L k, nat_at L (nxt2 L.length k)⟩
def trL (l : List S31) (way : Int) : Nat → List Nat → Nat → Option (List S58)
 | 0, _, _ => none
 | f + 1, L, at_ => if 3 ≤ L.length then (if earB l L (at_ % L.length) way = true then (trL l way f (L.eraseIdx (at_ % L.length)) (at_ + 1)).map (tri3 L (at_ % L.length) :: ·) else trL l way f L (at_ + 1)) else some []
def pL (l : List S31) (L : List Nat) : List Geo.Pt := L.map fun i => gp (pt l i)
theorem pL_len (l : List S31) (L : List Nat) : (pL l L).length = L.length := List.length_map ..
theorem pL_ix (l : List S31) (L : List Nat) (i : Nat) (h : i < L.length) : Geo.ix (pL l L) i = gp (pt l (nat_at L i)) := by
 rw [Geo.ix_eq _ _ (by rw [pL_len]; exact h), nat_at_eq L i h]; unfold pL; simp
theorem nat_mem {L : List Nat} {i : Nat} (h : i < L.length) : nat_at L i ∈ L := by rw [nat_at_eq L i h]; exact List.getElem_mem _
theorem pL_erase (l : List S31) (L : List Nat) (k : Nat) : pL l (L.eraseIdx k) = (pL l L).take k ++ (pL l L).drop (k + 1) := by
 unfold pL
 rw [List.eraseIdx_eq_take_drop_succ, List.map_append, List.map_take, List.map_drop]
theorem sgn_way {x s : Int} (hs : s = 1 ∨ s = -1) : sgn x = s ↔ 0 < s * x := by
 have h1 := sgn_bd x
 have h2 := @sgn_pos x; have h3 := @sgn_neg x
 rcases hs with rfl | rfl <;> omega
theorem sgn_nway {x s : Int} (hs : s = 1 ∨ s = -1) : ¬ sgn x = -s ↔ 0 ≤ s * x := by
 have h1 := sgn_bd x
 have h2 := @sgn_pos x; have h3 := @sgn_neg x
 rcases hs with rfl | rfl <;> omega
theorem earB_iff {l : List S31} {L : List Nat} {k : Nat} {s : Int} (hs : s = 1 ∨ s = -1) (hk : k < L.length) : earB l L k s = true ↔ Geo.EarI s (pL l L) k := by
 have n0 : 0 < L.length := by omega
 have h1 : prv L.length k < L.length := Nat.mod_lt _ n0
 have h2 : nxt2 L.length k < L.length := Nat.mod_lt _ n0
 unfold earB Geo.EarI
 rw [pL_len, pL_ix l L k hk]
 have e1 : Geo.ix (pL l L) ((k + L.length - 1) % L.length) = gp (pt l (nat_at L (prv L.length k))) := pL_ix l L _ h1
 have e2 : Geo.ix (pL l L) ((k + 1) % L.length) = gp (pt l (nat_at L (nxt2 L.length k))) := pL_ix l L _ h2
 rw [e1, e2, Bool.and_eq_true, decide_eq_true_eq, T_crs, sgn_way hs, List.all_eq_true]
 generalize pt l (nat_at L (prv L.length k)) = a
 generalize pt l (nat_at L k) = b
 generalize pt l (nat_at L (nxt2 L.length k)) = c
 refine and_congr Iff.rfl ?_
 constructor
 ·intro h q hq n1 n2 n3 hin
  unfold pL at hq
  rw [List.mem_map] at hq
  obtain ⟨i, hi, rfl⟩ := hq
  have hf := h i hi
  rw [Bool.not_eq_true'] at hf
  obtain ⟨j1, j2, j3⟩ := hin
  rw [T_crs] at j1 j2 j3
  have : inB s a b c (pt l i) = true := by
   unfold inB
   simp only [Bool.and_eq_true, Bool.not_eq_true', decide_eq_false_iff_not]
   exact ⟨⟨fun e => n1 (by rw [e]), fun e => n2 (by rw [e]), fun e => n3 (by rw [e])⟩, (sgn_nway hs).mpr j1, (sgn_nway hs).mpr j2, (sgn_nway hs).mpr j3⟩
  rw [hf] at this; cases this
 ·intro h i hi
  rw [Bool.not_eq_true']
  cases hb : inB s a b c (pt l i) with
  | false => rfl
  | true =>
   exfalso
   unfold inB at hb
   simp only [Bool.and_eq_true, Bool.not_eq_true', decide_eq_false_iff_not] at hb
   obtain ⟨⟨n1, n2, n3⟩, j1, j2, j3⟩ := hb
   exact h (gp (pt l i)) (List.mem_map.mpr ⟨i, hi, rfl⟩) (fun e => n1 (gp_inj e)) (fun e => n2 (gp_inj e)) (fun e => n3 (gp_inj e)) ⟨(sgn_nway hs).mp j1, (sgn_nway hs).mp j2, (sgn_nway hs).mp j3⟩
def p3 (l : List S31) (t : S58) : Geo.Pt × Geo.Pt × Geo.Pt := (gp (pt l t.f0.toNat), gp (pt l t.f1.toNat), gp (pt l t.f2.toNat))
theorem p3_tri (l : List S31) (L : List Nat) (k : Nat) : p3 l (tri3 L k) = (gp (pt l (nat_at L (prv L.length k))), gp (pt l (nat_at L k)), gp (pt l (nat_at L (nxt2 L.length k)))) := by
 unfold p3 tri3; simp
theorem tr_ex {l : List S31} {s : Int} : ∀ m (L : List Nat) at_, L.length = m → 3 ≤ m → Geo.Good NH s (pL l L) → ∃ f ts, f ≤ m * m ∧ trL l s f L at_ = some ts ∧ Geo.ES s (pL l L) (ts.map (p3 l)) ∧ (∀ t ∈ ts, ∃ a b c : Nat, t = ⟨a, b, c⟩ ∧ a ∈ L ∧ b ∈ L ∧ c ∈ L) := by
 intro m
 induction m using Nat.strongRecOn with
 | ind m ih =>
 intro L at0 hm h3 hG
 have hs := hG.sgn
 obtain ⟨k0, hk0, he0⟩ := hG.ear
 rw [pL_len] at hk0
 suffices H : ∀ d at_, (at_ + d) % L.length = k0 → ∃ f ts, f ≤ d + 1 + (if 4 ≤ m then (m - 1) * (m - 1) else 1) ∧ trL l s f L at_ = some ts ∧ Geo.ES s (pL l L) (ts.map (p3 l)) ∧ (∀ t ∈ ts, ∃ a b c : Nat, t = ⟨a, b, c⟩ ∧ a ∈ L ∧ b ∈ L ∧ c ∈ L) by
  obtain ⟨f, ts, h1, h2⟩ := H ((k0 + L.length - at0 % L.length) % L.length) at0 (by
   have hlt : at0 % L.length < L.length := Nat.mod_lt _ (by omega)
   rw [Nat.add_mod, Nat.mod_mod]
   by_cases c : at0 % L.length ≤ k0
   ·have e : (k0 + L.length - at0 % L.length) % L.length = k0 - at0 % L.length := by
     rw [show k0 + L.length - at0 % L.length = (k0 - at0 % L.length) + L.length by omega, Nat.add_mod_right, Nat.mod_eq_of_lt (by omega)]
    rw [e, show at0 % L.length + (k0 - at0 % L.length) = k0 by omega, Nat.mod_eq_of_lt hk0]
   ·have e : (k0 + L.length - at0 % L.length) % L.length = k0 + L.length - at0 % L.length := Nat.mod_eq_of_lt (by omega)
    rw [e, show at0 % L.length + (k0 + L.length - at0 % L.length) = k0 + L.length by omega, Nat.add_mod_right, Nat.mod_eq_of_lt hk0])
  refine ⟨f, ts, ?_, h2⟩
  have hd : (k0 + L.length - at0 % L.length) % L.length < L.length := Nat.mod_lt _ (by omega)
  by_cases c : 4 ≤ m
  ·rw [if_pos c] at h1
   obtain ⟨j, rfl⟩ : ∃ j, m = j + 1 := ⟨m - 1, by omega⟩
   have e : (j + 1) * (j + 1) = j * j + 2 * j + 1 := by grind
   rw [Nat.add_sub_cancel] at h1
   omega
  ·rw [if_neg c] at h1
   have : m = 3 := by omega
   subst this; omega
 intro d
 induction d with
 | zero =>
  intro at_ hat
  have hkk : at_ % L.length = k0 := hat
  have hear : earB l L (at_ % L.length) s = true := (earB_iff hs (by omega)).mpr (by rw [hkk]; exact he0)
  have hk : at_ % L.length < L.length := by omega
  rw [hkk] at hk
  by_cases c : 4 ≤ m
  ·have hG2 := hG.cut (k := k0) (by rw [pL_len]; exact hk) (by rw [pL_len]; omega) he0
   rw [← pL_erase] at hG2
   obtain ⟨f, ts, h1, h2, h5, h6⟩ := ih (m - 1) (by omega) (L.eraseIdx k0) (at_ + 1) (by rw [List.length_eraseIdx, if_pos hk]; omega) (by omega) hG2
   refine ⟨f + 1, tri3 L k0 :: ts, by rw [if_pos c]; omega, ?_, ?_, ?_⟩
   ·rw [trL, if_pos (by omega), if_pos hear, hkk, h2]; rfl
   ·rw [List.map_cons, p3_tri]
    rw [pL_erase] at h5
    have := hG.es_cut (by rw [pL_len]; exact hk) he0 h5
    rw [pL_len, pL_ix l L k0 hk, pL_ix l L _ (Nat.mod_lt _ (by omega)), pL_ix l L _ (Nat.mod_lt _ (by omega))] at this
    exact this
   ·intro t ht
    rw [List.mem_cons] at ht
    rcases ht with rfl | ht
    ·refine ⟨_, _, _, rfl, ?_, ?_, ?_⟩
     ·exact nat_mem (Nat.mod_lt _ (by omega))
     ·exact nat_mem hk
     ·exact nat_mem (Nat.mod_lt _ (by omega))
    ·obtain ⟨a, b, c, e, m1, m2, m3⟩ := h6 t ht
     exact ⟨a, b, c, e, List.mem_of_mem_eraseIdx m1, List.mem_of_mem_eraseIdx m2, List.mem_of_mem_eraseIdx m3⟩
  ·have hm3 : L.length = 3 := by omega
   obtain ⟨v, u, hvu⟩ : ∃ v u, L.eraseIdx k0 = [v, u] := by
    have : (L.eraseIdx k0).length = 2 := by rw [List.length_eraseIdx, if_pos hk]; omega
    match L.eraseIdx k0, this with
    | [v, u], _ => exact ⟨v, u, rfl⟩
   refine ⟨2, [tri3 L k0], by rw [if_neg c]; omega, ?_, ?_, ?_⟩
   ·rw [trL, if_pos (by omega), if_pos hear, hkk, hvu, trL, if_neg (by simp)]; rfl
   ·rw [List.map_cons, p3_tri]
    have h5 : Geo.ES s ((pL l L).take k0 ++ (pL l L).drop (k0 + 1)) [] := by
     rw [← pL_erase, hvu]; exact Geo.ES.last _ _
    have := hG.es_cut (by rw [pL_len]; exact hk) he0 h5
    rw [pL_len, pL_ix l L k0 hk, pL_ix l L _ (Nat.mod_lt _ (by omega)), pL_ix l L _ (Nat.mod_lt _ (by omega))] at this
    exact this
   ·intro t ht
    simp at ht; subst ht
    refine ⟨_, _, _, rfl, ?_, ?_, ?_⟩
    ·exact nat_mem (Nat.mod_lt _ (by omega))
    ·exact nat_mem hk
    ·exact nat_mem (Nat.mod_lt _ (by omega))
 | succ d ihd =>
  intro at_ hat
  obtain ⟨f, ts, h1, h2, h5, h6⟩ := ihd (at_ + 1) (by rw [show at_ + 1 + d = at_ + (d + 1) by omega]; exact hat)
  by_cases hear : earB l L (at_ % L.length) s = true
  ·have hk : at_ % L.length < L.length := Nat.mod_lt _ (by omega)
   have he := (earB_iff hs hk).mp hear
   by_cases c : 4 ≤ m
   ·have hG2 := hG.cut (by rw [pL_len]; exact hk) (by rw [pL_len]; omega) he
    rw [← pL_erase] at hG2
    obtain ⟨f, ts, h1, h2, h5, h6⟩ := ih (m - 1) (by omega) (L.eraseIdx (at_ % L.length)) (at_ + 1) (by rw [List.length_eraseIdx, if_pos hk]; omega) (by omega) hG2
    refine ⟨f + 1, tri3 L (at_ % L.length) :: ts, by rw [if_pos c]; omega, ?_, ?_, ?_⟩
    ·rw [trL, if_pos (by omega), if_pos hear, h2]; rfl
    ·rw [List.map_cons, p3_tri]
     rw [pL_erase] at h5
     have := hG.es_cut (by rw [pL_len]; exact hk) he h5
     rw [pL_len, pL_ix l L _ hk, pL_ix l L _ (Nat.mod_lt _ (by omega)), pL_ix l L _ (Nat.mod_lt _ (by omega))] at this
     exact this
    ·intro t ht
     rw [List.mem_cons] at ht
     rcases ht with rfl | ht
     ·refine ⟨_, _, _, rfl, ?_, ?_, ?_⟩
      ·exact nat_mem (Nat.mod_lt _ (by omega))
      ·exact nat_mem hk
      ·exact nat_mem (Nat.mod_lt _ (by omega))
     ·obtain ⟨a, b, c, e, m1, m2, m3⟩ := h6 t ht
      exact ⟨a, b, c, e, List.mem_of_mem_eraseIdx m1, List.mem_of_mem_eraseIdx m2, List.mem_of_mem_eraseIdx m3⟩
   ·obtain ⟨v, u, hvu⟩ : ∃ v u, L.eraseIdx (at_ % L.length) = [v, u] := by
     have : (L.eraseIdx (at_ % L.length)).length = 2 := by rw [List.length_eraseIdx, if_pos hk]; omega
     match L.eraseIdx (at_ % L.length), this with
     | [v, u], _ => exact ⟨v, u, rfl⟩
    refine ⟨2, [tri3 L (at_ % L.length)], by rw [if_neg c]; omega, ?_, ?_, ?_⟩
    ·rw [trL, if_pos (by omega), if_pos hear, hvu, trL, if_neg (by simp)]; rfl
    ·rw [List.map_cons, p3_tri]
     have h5 : Geo.ES s ((pL l L).take (at_ % L.length) ++ (pL l L).drop (at_ % L.length + 1)) [] := by
      rw [← pL_erase, hvu]; exact Geo.ES.last _ _
     have := hG.es_cut (by rw [pL_len]; exact hk) he h5
     rw [pL_len, pL_ix l L _ hk, pL_ix l L _ (Nat.mod_lt _ (by omega)), pL_ix l L _ (Nat.mod_lt _ (by omega))] at this
     exact this
    ·intro t ht
     simp at ht; subst ht
     refine ⟨_, _, _, rfl, ?_, ?_, ?_⟩
     ·exact nat_mem (Nat.mod_lt _ (by omega))
     ·exact nat_mem hk
     ·exact nat_mem (Nat.mod_lt _ (by omega))
  ·refine ⟨f + 1, ts, by omega, ?_, h5, h6⟩
   rw [trL, if_pos (by omega), if_neg hear, h2]
end Go.Proofs.Ythaklbjcjoolcaa.P
namespace Go.Proofs.Ythaklbjcjoolcaa.P
open Go.RowKit YthaklbjcjoolcaaW.PrintWords YthaklbjcjoolcaaW.PrintLast YthaklbjcjoolcaaW.PrintMore
attribute [local go_sem high] eqA31
def ints (L : List Nat) : List Int := L.map fun i : Nat => (i : Int)
theorem ints_len (L : List Nat) : (ints L).length = L.length := List.length_map ..
theorem rd_ints (L : List Nat) (i : Nat) (h : i < L.length) : rd (ints L) (i : Int) = (nat_at L i : Int) := by
  unfold rd ints
  rw [Int.toNat_natCast, List.getD_eq_getElem?_getD, List.getElem?_map, List.getElem?_eq_getElem h, nat_at_eq L i h]; rfl
theorem rd31 (l : List S31) (i : Nat) : rd_T31 l (i : Int) = pt l i := by unfold rd_T31 pt; rw [Int.toNat_natCast]
theorem lt_N {a n m : Nat} (h : a < n) (e : m = n) : ((a : Nat) : Int) < ((m : Nat) : Int) := by omega
theorem mod_a {k n : Nat} (hk : k < n) (hn : n ≤ 512) : Int.tmod (wrap64 (((k : Nat) : Int) + ((n : Nat) : Int) - 1)) ((n : Nat) : Int) = ((prv n k : Nat) : Int) := by
  rw [w64i (by omega) (by omega), show ((k : Nat) : Int) + ((n : Nat) : Int) - 1 = ((k + n - 1 : Nat) : Int) by omega]; rfl
theorem mod_b {k n : Nat} (hk : k < n) (hn : n ≤ 512) : Int.tmod (wrap64 (((k : Nat) : Int) + 1)) ((n : Nat) : Int) = ((nxt2 n k : Nat) : Int) := by
  rw [w64i (by omega) (by omega), show ((k : Nat) : Int) + 1 = ((k + 1 : Nat) : Int) by omega]; rfl
theorem mod_c {k n : Nat} (hk : k < n) (hn : n ≤ 512) : Int.tmod (((k : Nat) : Int) + ((n : Nat) : Int) - 1) ((n : Nat) : Int) = ((prv n k : Nat) : Int) := by
  rw [show ((k : Nat) : Int) + ((n : Nat) : Int) - 1 = ((k + n - 1 : Nat) : Int) by omega]; rfl
theorem mod_d {k n : Nat} (hk : k < n) (hn : n ≤ 512) : Int.tmod (((k : Nat) : Int) + 1) ((n : Nat) : Int) = ((nxt2 n k : Nat) : Int) := by
  rw [show ((k : Nat) : Int) + 1 = ((k + 1 : Nat) : Int) by omega]; rfl
theorem mod_w1 {k n : Nat} (hk : k < n) (hn : n ≤ 512) : IntKind.i64.wrap (((k : Nat) : Int) + ((n : Nat) : Int)) = ((k : Nat) : Int) + ((n : Nat) : Int) := IntWalk.i64_in _ (by omega)
theorem mod_w3 {k n : Nat} (hk : k < n) (hn : n ≤ 512) : IntKind.i64.wrap (((k : Nat) : Int) + 1) = ((k : Nat) : Int) + 1 := IntWalk.i64_in _ (by omega)
theorem succ_n {b n : Nat} (h : b < n) (hn : n ≤ 512) : wrap64 (((b : Nat) : Int) + 1) = ((b + 1 : Nat) : Int) := w64i (by omega) (by omega)
def B3 (g1 g2 g3 : Nat) (a b c : S31) (W : World) : Prop := Bx W g1 a.f0 a.f1 ∧ Bx W g2 b.f0 b.f1 ∧ Bx W g3 c.f0 c.f1
theorem B3.below {g1 g2 g3 : Nat} {a b c : S31} {W W' : World} (h : B3 g1 g2 g3 a b c W) (k : Below W.heap.size W W') : B3 g1 g2 g3 a b c W' := ⟨blk_below h.1 k, blk_below h.2.1 k, blk_below h.2.2 k⟩
theorem B3.wr {g1 g2 g3 g : Nat} {a b c : S31} {W W' : World} {x y : Int} (h : B3 g1 g2 g3 a b c W) (n : g1 ≠ g ∧ g2 ≠ g ∧ g3 ≠ g) (k : Wr W W' g x y) : B3 g1 g2 g3 a b c W' := ⟨k.bx n.1 h.1, k.bx n.2.1 h.2.1, k.bx n.2.2 h.2.2⟩
theorem B3.ne {g1 g2 g3 g : Nat} {a b c : S31} {W : World} (h : B3 g1 g2 g3 a b c W) (e : g = W.heap.size) : g1 ≠ g ∧ g2 ≠ g ∧ g3 ≠ g := by
  have h1 := blk_lt h.1; have h2 := blk_lt h.2.1; have h3 := blk_lt h.2.2
  omega
theorem Bx.cells {W : World} {g : Nat} {x y : Int} (h : Bx W g x y) : W.cell? ⟨g, 0, none⟩ = some (.int .i64 x) ∧ W.cell? ⟨g, 1, none⟩ = some (.int .i64 y) := ⟨(blk_cell h 0).trans rfl, (blk_cell h 1).trans rfl⟩
theorem inB_eq {way : Int} (hw : way = 1 ∨ way = -1) (a b c p : S31) : inB way a b c p = (((!(p.f0 == a.f0) || !(p.f1 == a.f1)) && ((!(p.f0 == b.f0) || !(p.f1 == b.f1)) && (!(p.f0 == c.f0) || !(p.f1 == c.f1)))) &&
    ((sgn (crs a b p) != wrap64 (-way)) && ((sgn (crs b c p) != wrap64 (-way)) && (sgn (crs c a p) != wrap64 (-way))))) := by
  have e : ∀ q : S31, (!(p.f0 == q.f0) || !(p.f1 == q.f1)) = !decide (p = q) := fun q => by
    by_cases h : p = q
    · rw [h]; simp
    · rw [decide_eq_false h]
      by_cases h0 : p.f0 = q.f0
      · by_cases h1 : p.f1 = q.f1
        · exact absurd (by cases p; cases q; simp at h0 h1; simp [h0, h1]) h
        · simp [h1]
      · simp [h0]
  have en : wrap64 (-way) = -way := w64i (by omega) (by omega)
  have t : ∀ x : Int, (x != wrap64 (-way)) = !decide (x = -way) := fun x => by
    rw [en]; by_cases h : x = -way
    · rw [decide_eq_true h, h]; simp
    · rw [decide_eq_false h]; simpa using h
  rw [e, e, e, t, t, t]; rfl
theorem bools6 (a b c x y z : Bool) : a = false ∨ (a = true ∧ b = false) ∨ (a = true ∧ b = true ∧ c = false) ∨ (a = true ∧ b = true ∧ c = true ∧ x = false) ∨ (a = true ∧ b = true ∧ c = true ∧ x = true ∧ y = false) ∨ (a = true ∧ b = true ∧ c = true ∧ x = true ∧ y = true ∧ z = false) ∨ (a = true ∧ b = true ∧ c = true ∧ x = true ∧ y = true ∧ z = true) := by
  cases a <;> cases b <;> cases c <;> cases x <;> cases y <;> cases z <;> simp
theorem ear_no {L : List Nat} {f : Nat → Bool} {j : Nat} (hj : j < L.length) (h : f (nat_at L j) = true) : (L.all fun i => !f i) = false := by
  rw [List.all_eq_false]; exact ⟨_, nat_mem hj, by rw [h]; decide⟩
theorem ear_all {L : List Nat} {f : Nat → Bool} (h : ∀ j, j < L.length → f (nat_at L j) = false) : (L.all fun i => !f i) = true := by
  rw [List.all_eq_true]
  intro x hx
  obtain ⟨j, hj, e⟩ := List.getElem_of_mem hx
  have := h j hj
  rw [nat_at_eq L j hj, e] at this
  rw [this]; rfl
def earR.T2 : Bool × List (List Nat × List Nat) := (true, [([], []), ([], []), ([], []), ([], []), ([2, 3], [2, 3]), ([4], [4]), ([], []), ([5, 6], [5, 6]), ([1, 7], [1, 7]), ([8], [8]), ([0, 9], [0, 9]), ([10], [10]), ([], []), ([], []), ([], []), ([13, 14], [13, 14]), ([15], [15]), ([12, 16], [12, 16]), ([17], [17]), ([], []), ([], []), ([], []), ([21], [21]), ([], []), ([22, 23], [22, 23]), ([20, 24], [20, 24]), ([25], [25]), ([19, 26], [19, 26]), ([27], [27]), ([], []), ([], []), ([], []), ([29, 11, 0, 1, 2, 3, 4, 5, 6, 7, 8, 9, 10, 11, 29, 30, 31], [11, 29]), ([30, 18, 32, 0, 1, 2, 3, 4, 5, 6, 7, 8, 9, 10, 11, 12, 13, 14, 15, 16, 17, 18, 29, 30, 31, 32], [18, 30]), ([31, 28, 33, 0, 1, 2, 3, 4, 5, 6, 7, 8, 9, 10, 11, 12, 13, 14, 15, 16, 17, 18, 19, 20, 21, 22, 23, 24, 25, 26, 27, 28, 29, 30, 31, 32, 33], [28, 31])])
def earR.B2 : List Nat := [0, 0, 0, 0, 12, 28, 0, 124, 254, 510, 1023, 2047, 0, 0, 0, 24576, 57344, 126976, 258048, 0, 0, 0, 2097152, 0, 14680064, 32505856, 66060288, 133693440, 267911168, 0, 0, 0, 3758100479, 8053587967, 17179869183]
theorem earR.tab2 : rtab .any (opsOf Try.f78 2) = earR.T2 := by kernel_rfl
theorem earR.bits2 : waitsOk earR.T2.2 earR.B2 = true := by kernel_rfl
set_option maxHeartbeats 8000000 in
set_option maxRecDepth 100000 in
theorem isear_calls (A0 : Option Addr) (c0 : Nat) (l0 : List S31) (A1 : Option Addr) (c1 : Nat) (L : List Nat) (k : Nat) (way : Int) (w : World) (hr0 : Kd.C k31 w A0 l0.length l0) (hc0 : l0.length ≤ c0) (hr1 : Kd.C (Kd.int .i64) w A1 (ints L).length (ints L)) (hc1 : (ints L).length ≤ c1)
    (hok : allOk l0 = true) (hL : ∀ i ∈ L, i < l0.length) (hs : L.length ≤ 512) (hw : way = 1 ∨ way = -1) (hk : k < L.length) :
    Calls Try.prog 78 #[.slice A0 l0.length c0, .slice A1 (ints L).length c1, .int .i64 (k : Nat), .int .i64 way] w fun e w' => e = .returned (.bool (earB l0 L k way)) ∧ Below w.heap.size w w' := by
  have hlen : (ints L).length = L.length := ints_len L
  have n1 : prv L.length k < L.length := Nat.mod_lt _ (by omega)
  have n2 : nxt2 L.length k < L.length := Nat.mod_lt _ (by omega)
  have hk31 := Kd.at_int hr1 ((k : Nat) : Int) (Int.natCast_nonneg _) (lt_N hk hlen)
  obtain ⟨ad, rfl, _⟩ := hk31
  have hy2 := hL _ (nat_mem hk)
  obtain ⟨ap, rfl, _⟩ := at_T31 hr0 ((nat_at L k : Nat) : Int) (Int.natCast_nonneg _) (lt_N hy2 rfl)
  have HI := Aside0.mk (show ∀ W, Below w.heap.size w W → ∀ i, i < L.length → W.cell? (ad.add i) = some (.int .i64 ((nat_at L i : Nat) : Int)) from fun W hb i hi => by
    obtain ⟨ad2, e2, hx⟩ := Kd.at_int hr1 ((i : Nat) : Int) (Int.natCast_nonneg _) (lt_N hi hlen)
    obtain rfl : ad = ad2 := by injection e2
    rw [rd_ints L _ hi, Int.toNat_natCast] at hx
    exact (hb.cell (World.block_lt_of_cell? w _ hx)).trans hx)
  have HP := Aside0.mk (show ∀ W, Below w.heap.size w W → ∀ i, i < l0.length → W.cell? (ap.add (i * 2)) = some (.int .i64 (pt l0 i).f0) ∧ W.cell? ⟨(ap.add (i * 2)).block, (ap.add (i * 2)).off + 1, none⟩ = some (.int .i64 (pt l0 i).f1) from fun W hb i hi => by
    obtain ⟨ap2, e2, hx, hy⟩ := at_T31 hr0 ((i : Nat) : Int) (Int.natCast_nonneg _) (lt_N hi rfl)
    obtain rfl : ap = ap2 := by injection e2
    rw [rd31, Int.toNat_natCast] at hx hy
    exact ⟨(hb.cell (World.block_lt_of_cell? w _ hx)).trans hx, (hb.cell (World.block_lt_of_cell? w _ hy)).trans hy⟩)
  have hE : earB l0 L k way = (decide (sgn (crs (pt l0 (nat_at L (prv L.length k))) (pt l0 (nat_at L k)) (pt l0 (nat_at L (nxt2 L.length k)))) = way) && L.all fun i => !inB way (pt l0 (nat_at L (prv L.length k))) (pt l0 (nat_at L k)) (pt l0 (nat_at L (nxt2 L.length k))) (pt l0 i)) := rfl
  have hy1 := hL _ (nat_mem n1)
  have hy3 := hL _ (nat_mem n2)
  have oa := pt_ok hok hy1
  have ob := pt_ok hok hy2
  have oc := pt_ok hok hy3
  have hN : (ints L).length ≤ 512 := by omega
  have hkN : k < (ints L).length := by omega
  have hm1 := mod_a hkN hN
  have hm2 := mod_b hkN hN
  have hm3 := mod_c hkN hN
  have hm4 := mod_d hkN hN
  have hs1 := mod_w1 hkN hN
  have hs3 := mod_w3 hkN hN
  rw [show prv (ints L).length k = prv L.length k by rw [hlen]] at hm1 hm3
  rw [show nxt2 (ints L).length k = nxt2 L.length k by rw [hlen]] at hm2 hm4
  have hz : ((((ints L).length : Nat) : Int) == 0) = false := by rw [beq_eq_false_iff_ne]; omega
  have hz1 : ((((ints L).length : Nat) : Int) != 0) = true := by rw [bne_iff_ne]; omega
  have hz3 : ¬ (ints L).length = 0 := by omega
  have hz4 : ¬ (((ints L).length : Nat) : Int) = 0 := by omega
  have hz2 : ¬ ints L = [] := fun e => by rw [e] at hz3; simp at hz3
  have i1 : ((prv L.length k : Nat) : Int) < (((ints L).length : Nat) : Int) := lt_N n1 hlen
  have i2 : ((k : Nat) : Int) < (((ints L).length : Nat) : Int) := lt_N hk hlen
  have i3 : ((nxt2 L.length k : Nat) : Int) < (((ints L).length : Nat) : Int) := lt_N n2 hlen
  have j1 : ((nat_at L (prv L.length k) : Nat) : Int) < ((l0.length : Nat) : Int) := lt_N hy1 rfl
  have j2 : ((nat_at L k : Nat) : Int) < ((l0.length : Nat) : Int) := lt_N hy2 rfl
  have j3 : ((nat_at L (nxt2 L.length k) : Nat) : Int) < ((l0.length : Nat) : Int) := lt_N hy3 rfl
  have HX := Aside0.mk (show ∀ W, Below w.heap.size w W → W.cell? (ad.add (prv L.length k)) = some (.int .i64 ((nat_at L (prv L.length k) : Nat) : Int)) ∧ W.cell? (ad.add k) = some (.int .i64 ((nat_at L k : Nat) : Int)) ∧ W.cell? (ad.add (nxt2 L.length k)) = some (.int .i64 ((nat_at L (nxt2 L.length k) : Nat) : Int)) ∧
      W.cell? (ap.add (nat_at L (prv L.length k) * 2)) = some (.int .i64 (pt l0 (nat_at L (prv L.length k))).f0) ∧ W.cell? ⟨(ap.add (nat_at L (prv L.length k) * 2)).block, (ap.add (nat_at L (prv L.length k) * 2)).off + 1, none⟩ = some (.int .i64 (pt l0 (nat_at L (prv L.length k))).f1) ∧
      W.cell? (ap.add (nat_at L k * 2)) = some (.int .i64 (pt l0 (nat_at L k)).f0) ∧ W.cell? ⟨(ap.add (nat_at L k * 2)).block, (ap.add (nat_at L k * 2)).off + 1, none⟩ = some (.int .i64 (pt l0 (nat_at L k)).f1) ∧
      W.cell? (ap.add (nat_at L (nxt2 L.length k) * 2)) = some (.int .i64 (pt l0 (nat_at L (nxt2 L.length k))).f0) ∧ W.cell? ⟨(ap.add (nat_at L (nxt2 L.length k) * 2)).block, (ap.add (nat_at L (nxt2 L.length k) * 2)).off + 1, none⟩ = some (.int .i64 (pt l0 (nat_at L (nxt2 L.length k))).f1) from
    fun W hb => ⟨HI.out W hb _ n1, HI.out W hb _ hk, HI.out W hb _ n2, (HP.out W hb _ hy1).1, (HP.out W hb _ hy1).2, (HP.out W hb _ hy2).1, (HP.out W hb _ hy2).2, (HP.out W hb _ hy3).1, (HP.out W hb _ hy3).2⟩)
  rw [hE]
  clear hE hy1 hy2 hy3 n1 n2 hkN hN hr0 hr1
  generalize prv L.length k = p1 at *
  generalize nxt2 L.length k = p2 at *
  generalize nat_at L p1 = y1 at *
  generalize nat_at L k = y2 at *
  generalize nat_at L p2 = y3 at *
  generalize pt l0 y1 = pa at *
  generalize pt l0 y2 = pb at *
  generalize pt l0 y3 = pc at *
  have HT0 := Aside0.mk (fun W => plane_turn.calls pa.f0 pa.f1 pb.f0 pb.f1 pc.f0 pc.f1 _ W (turn_is oa ob oc))
  have HTL := Aside0.mk (fun (p : S31) (h : okPt p = true) => (⟨fun W => plane_turn.calls pa.f0 pa.f1 pb.f0 pb.f1 p.f0 p.f1 _ W (turn_is oa ob h), fun W => plane_turn.calls pb.f0 pb.f1 pc.f0 pc.f1 p.f0 p.f1 _ W (turn_is ob oc h), fun W => plane_turn.calls pc.f0 pc.f1 pa.f0 pa.f1 p.f0 p.f1 _ W (turn_is oc oa h)⟩ : (∀ W, _) ∧ (∀ W, _) ∧ (∀ W, _)))
  have HF := Aside0.mk (show (∀ i ∈ L, i < l0.length) ∧ allOk l0 = true ∧ L.length ≤ 512 ∧ (way = 1 ∨ way = -1) ∧ k < L.length ∧ (ints L).length = L.length from ⟨hL, hok, hs, hw, hk, hlen⟩)
  have HBd := Aside0.mk (below_drew1 (Below.refl w.heap.size w))
  have hu31 := Try.underlying31
  have hu78 := Try.underlying78
  clear hL hok hs hw hk hlen oa ob oc
  go_enter Try.func78, Try.ntmps78
  go_wp2
  refine start_ (n := 35) (S := fun W => Below w.heap.size w W) (ds := []) (Bs 0 35) (by kernel_rfl) rfl rfl HBd.out (fun hHeld => ?_)
  refine with_tabW earR.tab2 earR.bits2 (fun HT_ HW_ => ?_)
  refine pu 0 18 (Bs 1 35) HT_ ?_
  refine pu 1 19 (Bs 2 35) HT_ ?_
  refine pu 2 20 (Bs 3 35) HT_ ?_
  refine pu 3 21 (Bs 4 35) HT_ ?_
  refine pu 4 22 (Bs 5 35) HT_ ?_
  refine pu 5 23 (Bs 6 35) HT_ ?_
  refine pu 6 24 (Bs 7 35) HT_ ?_
  refine pu 7 25 (Bs 8 35) HT_ ?_
  refine pu 8 26 (Bs 9 35) HT_ ?_
  refine pu 12 30 (Br [9,3,1,22]) HT_ ?_
  refine pu 13 31 (Br [9,3,2,21]) HT_ ?_
  refine pu 14 32 (Br [9,3,3,20]) HT_ ?_
  refine pu 15 33 (Br [9,3,4,19]) HT_ ?_
  refine pu 19 37 (Br [9,3,4,3,1,15]) HT_ ?_
  refine pu 20 38 (Br [9,3,4,3,2,14]) HT_ ?_
  refine pu 21 39 (Br [9,3,4,3,3,13]) HT_ ?_
  refine pu 22 40 (Br [9,3,4,3,4,12]) HT_ ?_
  refine pu 23 41 (Br [9,3,4,3,5,11]) HT_ ?_
  refine pu 24 42 (Br [9,3,4,3,6,10]) HT_ ?_
  refine pu 25 43 (Br [9,3,4,3,7,9]) HT_ ?_
  refine ta 9 27 (Br [10,2,4,3,7,9]) HT_ HW_ hHeld ?_ (hy := by intro W hb; obtain ⟨x1, x2, x3, a0, a1, b0, b1, d0, d1⟩ := HX.out W hb; go_simp; with_reducible rfl)
  refine pu 10 28 (Br [11,1,4,3,7,9]) HT_ ?_
  refine ta 11 29 (Br [16,3,7,9]) HT_ HW_ hHeld ?_ (hy := by intro W hb; obtain ⟨x1, x2, x3, a0, a1, b0, b1, d0, d1⟩ := HX.out W hb; go_simp; with_reducible rfl)
  refine ta 16 34 (Br [17,2,7,9]) HT_ HW_ hHeld ?_ (hy := by intro W hb; obtain ⟨x1, x2, x3, a0, a1, b0, b1, d0, d1⟩ := HX.out W hb; go_simp; with_reducible rfl)
  refine pu 17 35 (Br [18,1,7,9]) HT_ ?_
  refine ta 18 36 (Bs 26 35) HT_ HW_ hHeld ?_ (hy := by intro W hb; obtain ⟨x1, x2, x3, a0, a1, b0, b1, d0, d1⟩ := HX.out W hb; go_simp; with_reducible rfl)
  refine ta 26 44 (Bs 27 35) HT_ HW_ hHeld ?_ (hy := by intro W hb; obtain ⟨x1, x2, x3, a0, a1, b0, b1, d0, d1⟩ := HX.out W hb; go_simp; with_reducible rfl)
  refine pu 27 45 (Bs 28 35) HT_ ?_
  refine ta 28 46 (Bs 29 35) HT_ HW_ hHeld ?_ (hy := by intro W hb; obtain ⟨x1, x2, x3, a0, a1, b0, b1, d0, d1⟩ := HX.out W hb; go_simp; with_reducible rfl)
  refine boxes3 (i := 29) (j := 30) (k := 31) (Ni := 10) (Nj := 11) (Nk := 12) (ob := .cells #[.int .i64 0, .int .i64 0] 31 (0, 0)) (Bs 30 35) (Br [29,1,1,4]) (Br [29,2,1,3]) (Bs 31 35) (Br [30,1,1,3]) (Br [29,1,2,3]) (Bs 32 35) rfl rfl rfl rfl rfl rfl (fun a W => ⟨rfl, by go_simp⟩) (fun a W => ⟨rfl, by go_simp⟩) (fun a W => ⟨rfl, by go_simp⟩) (three_of HT_.out (by kernel_rfl)) (two_of HT_.out (by kernel_rfl)) (two_of HT_.out (by kernel_rfl)) (two_of HT_.out (by kernel_rfl)) (one_of HT_.out (by kernel_rfl)) (one_of HT_.out (by kernel_rfl)) (one_of HT_.out (by kernel_rfl)) (by decide) (by decide) (by decide) (by decide) (by decide) (by decide) (fun W h => below_alloc h _) hHeld (fun g1 g2 g3 w3 hS3 k1 k2 k3 e1 e2 e3 d1 d2 d3 hb3 => ?_)
  have HS3 := Aside0.mk hS3; have K1 := Aside0.mk k1; have K2 := Aside0.mk k2; have K3 := Aside0.mk k3; have HN := Aside0.mk (show g2 ≠ g1 ∧ g3 ≠ g1 ∧ g1 ≠ g2 ∧ g3 ≠ g2 from ⟨Ne.symm d1, Ne.symm d2, d1, Ne.symm d3⟩); have HG := Aside0.mk (show w.heap.size ≤ g1 ∧ w.heap.size ≤ g2 ∧ w.heap.size ≤ g3 from by have := below_size HBd.out; omega)
  clear hS3 k1 k2 k3 e1 e2 e3 d1 d2 d3 hb3 hHeld
  refine nm 12 ?_
  refine one_ (i := 32) (N := none) (Bs 33 35) rfl rfl (one_of HT_.out (by kernel_rfl)) (by decide) (fun K hK => ?_)
  refine st_step K1.out (fun w4 h4 => hK.out _ _ (h4.below HS3.out HG.out.1) (fun _ => ?_))
  have HS4 := Aside0.mk (h4.below HS3.out HG.out.1); have L1 := Aside0.mk h4.box; have L2 := Aside0.mk (h4.bx HN.out.1 K2.out); have L3 := Aside0.mk (h4.bx HN.out.2.1 K3.out); clear h4 hK K
  refine one_ (i := 33) (N := none) (Bs 34 35) rfl rfl (one_of HT_.out (by kernel_rfl)) (by decide) (fun K hK => ?_)
  refine st_step L2.out (fun w5 h5 => hK.out _ _ (h5.below HS4.out HG.out.2.1) (fun _ => ?_))
  have HS5 := Aside0.mk (h5.below HS4.out HG.out.2.1); have M1 := Aside0.mk (h5.bx HN.out.2.2.1 L1.out); have M2 := Aside0.mk h5.box; have M3 := Aside0.mk (h5.bx HN.out.2.2.2 L3.out); clear h5 hK K
  refine one_ (i := 34) (N := none) (Bs 35 35) rfl rfl (one_of HT_.out (by kernel_rfl)) (by decide) (fun K hK => ?_)
  refine st_step M3.out (fun w6 h6 => hK.out _ _ (h6.below HS5.out HG.out.2.2) (fun _ => ?_))
  have HS6 := Aside0.mk (h6.below HS5.out HG.out.2.2); have HX3 := Aside0.mk (show B3 g1 g2 g3 pa pb pc w6 from ⟨h6.bx (Ne.symm HN.out.2.1) M1.out, h6.bx (Ne.symm HN.out.2.2.2) M2.out, h6.box⟩); clear h6 hK K
  refine done_ (done_of HT_.out (by kernel_rfl)) ?_
  clear hm1 hm2 hm3 hm4 hs1 hs3 hz hz1 hz2 hz3 hz4 i1 i2 i3 j1 j2 j3 HX HS3 HS4 HS5 K1 K2 K3 L1 L2 L3 M1 M2 M3 HBd HW_ HT_ HG HN
  obtain ⟨c10, c11⟩ := HX3.out.1.cells
  obtain ⟨c20, c21⟩ := HX3.out.2.1.cells
  obtain ⟨c30, c31⟩ := HX3.out.2.2.cells
  by_cases ht : sgn (crs pa pb pc) = way
  · have htb : (sgn (crs pa pb pc) != way) = false := bne_eq_false_iff_eq.mpr ht
    have hD := Aside0.mk (decide_eq_true ht)
    clear ht
    go_wp2_with (first | (go_at_call 61; go_must (refine (HT0.out _).mono ?_); rintro e w7 ⟨rfl, hb7⟩; have HB := Aside0.mk (below_step HS6.out hb7); have H3 := Aside0.mk (HX3.out.below hb7); clear hb7 c10 c11 c20 c21 c30 c31))
    go_loopg [55] L.length (fun q v55 wr => ∃ j : Nat, j + q = L.length ∧ v55 = .int .i64 j ∧ Aside0 (∀ i, i < j → inB way pa pb pc (pt l0 (nat_at L i)) = false) ∧ Aside0 (B3 g1 g2 g3 pa pb pc wr) ∧ Aside0 (Below w.heap.size w wr))
    case atStart => exact ⟨0, Nat.zero_add _, rfl, ⟨fun i h => absurd h (by omega)⟩, H3, HB⟩
    case round =>
      clear HB H3 HX3 HS6 htb HT0
      obtain ⟨j, hj, rfl, HJ, H3, HB⟩ := hrel
      by_cases hlt : j < L.length
      · obtain ⟨gq, rfl⟩ : ∃ q, gk = q + 1 := ⟨gk - 1, by omega⟩
        have HQ := Aside0.mk (show j + 1 + gq = L.length by omega)
        have q1 := lt_N hlt HF.out.2.2.2.2.2
        have hin := HF.out.1 _ (nat_mem hlt)
        have q2 : ((nat_at L j : Nat) : Int) < ((l0.length : Nat) : Int) := lt_N hin rfl
        have x1 := HI.out _ HB.out j hlt
        obtain ⟨x2, x3⟩ := HP.out _ HB.out _ hin
        have HT := Aside0.mk (HTL.out _ (pt_ok HF.out.2.1 hin))
        have hE := inB_eq HF.out.2.2.2.1 pa pb pc (pt l0 (nat_at L j))
        have HEE : Aside0 (∃ i, i < L.length ∧ j = i ∧ inB way pa pb pc (pt l0 (nat_at L j)) = inB way pa pb pc (pt l0 (nat_at L i))) := ⟨j, hlt, rfl, rfl⟩
        obtain ⟨c10, c11⟩ := H3.out.1.cells
        obtain ⟨c20, c21⟩ := H3.out.2.1.cells
        obtain ⟨c30, c31⟩ := H3.out.2.2.cells
        have HJ1 : Aside0 (inB way pa pb pc (pt l0 (nat_at L j)) = false → ∀ i, i < j + 1 → inB way pa pb pc (pt l0 (nat_at L i)) = false) := ⟨fun h i hi => by
          by_cases e : i = j
          · rw [e]; exact h
          · exact HJ.out i (by omega)⟩
        have HNO : Aside0 (inB way pa pb pc (pt l0 (nat_at L j)) = true → (L.all fun i => !inB way pa pb pc (pt l0 i)) = false) := ⟨fun h => ear_no (f := fun i => inB way pa pb pc (pt l0 i)) hlt h⟩
        clear HJ HEE hin
        generalize nat_at L j = y at *
        generalize pt l0 y = p at *
        obtain ⟨xa, ha⟩ : ∃ x, (!(p.f0 == pa.f0) || !(p.f1 == pa.f1)) = x := ⟨_, rfl⟩
        obtain ⟨xb, hb⟩ : ∃ x, (!(p.f0 == pb.f0) || !(p.f1 == pb.f1)) = x := ⟨_, rfl⟩
        obtain ⟨xc, hc⟩ : ∃ x, (!(p.f0 == pc.f0) || !(p.f1 == pc.f1)) = x := ⟨_, rfl⟩
        obtain ⟨t1, h1⟩ : ∃ x, (sgn (crs pa pb p) != wrap64 (-way)) = x := ⟨_, rfl⟩
        obtain ⟨t2, h2⟩ : ∃ x, (sgn (crs pb pc p) != wrap64 (-way)) = x := ⟨_, rfl⟩
        obtain ⟨t3, h3⟩ : ∃ x, (sgn (crs pc pa p) != wrap64 (-way)) = x := ⟨_, rfl⟩
        rw [ha, hb, hc, h1, h2, h3] at hE
        have HE := Aside0.mk hE
        clear hE hj
        have hsj := Aside0.mk (succ_n hlt HF.out.2.2.1)
        clear hlt
        rcases bools6 xa xb xc t1 t2 t3 with rfl | ⟨rfl, rfl⟩ | ⟨rfl, rfl, rfl⟩ | ⟨rfl, rfl, rfl, rfl⟩ | ⟨rfl, rfl, rfl, rfl, rfl⟩ | ⟨rfl, rfl, rfl, rfl, rfl, rfl⟩ | ⟨rfl, rfl, rfl, rfl, rfl, rfl⟩
        all_goals
          as_aux_lemma =>
            go_wp2_with (first
              | ((with_reducible refine gate_dst (N := 15) rfl ?_); refine bxe 15 #[.int .i64 0, .int .i64 0] 31 ?_; intro gp_ hg w8 hbox hb8; have HX8 := Aside0.mk hbox; have HN8 := Aside0.mk (H3.out.ne hg); have HG8 := Aside0.mk (lG (w := w) hg); have H38 := Aside0.mk (H3.out.below hb8); have HB8 := Aside0.mk (below_step HB.out hb8); clear hg hbox hb8)
              | ((with_reducible refine gate_store (t := 31) (p := 15) rfl ?_); refine st_list HX8.out rfl rfl rfl rfl rfl ?_; intro w9 h9; have HX := Aside0.mk h9.box; have H3 := Aside0.mk (H38.out.wr HN8.out h9); have HB := Aside0.mk (h9.below HB8.out HG8.out); obtain ⟨c00, c01⟩ := HX.out.cells; obtain ⟨c10, c11⟩ := H3.out.1.cells; obtain ⟨c20, c21⟩ := H3.out.2.1.cells; obtain ⟨c30, c31⟩ := H3.out.2.2.cells; clear h9)
              | (go_at_call 61; (first | (with_reducible refine (HT.out.1 _).mono ?_) | (with_reducible refine (HT.out.2.1 _).mono ?_) | (with_reducible refine (HT.out.2.2 _).mono ?_)); rintro e w10 ⟨rfl, hb10⟩; have HX := Aside0.mk (blk_below HX.out hb10); have H3 := Aside0.mk (H3.out.below hb10); have HB := Aside0.mk (below_step HB.out hb10); obtain ⟨c00, c01⟩ := Bx.cells HX.out; obtain ⟨c10, c11⟩ := H3.out.1.cells; obtain ⟨c20, c21⟩ := H3.out.2.1.cells; obtain ⟨c30, c31⟩ := H3.out.2.2.cells; clear hb10))
            first
            | (go_roundg gq
               case rel => exact ⟨j + 1, HQ.out, by rw [hsj.out], ⟨HJ1.out (by rw [HE.out]; simp)⟩, H3, HB⟩
               case measure => exact Nat.lt_succ_self _)
            | (go_ret; exact ⟨by rw [hD.out, Bool.true_and, HNO.out (by rw [HE.out]; rfl)]; rfl, HB.out⟩)
      · obtain rfl : j = (ints L).length := by have := HF.out.2.2.2.2.2; omega
        clear hj hlt
        go_wp2
        go_ret
        exact ⟨by rw [hD.out, Bool.true_and, ear_all (f := fun i => inB way pa pb pc (pt l0 i)) (fun j h => HJ.out j (by have := HF.out.2.2.2.2.2; omega))]; rfl, HB.out⟩
  · have htb : (sgn (crs pa pb pc) != way) = true := bne_iff_ne.mpr ht
    have hD := Aside0.mk (decide_eq_false ht)
    clear ht
    go_wp2_with (first | (go_at_call 61; go_must (refine (HT0.out _).mono ?_); rintro e w7 ⟨rfl, hb7⟩; have HB := Aside0.mk (below_step HS6.out hb7); clear hb7))
    go_ret
    exact ⟨by rw [hD.out, Bool.false_and]; rfl, HB.out⟩
end Go.Proofs.Ythaklbjcjoolcaa.P
namespace Go.Proofs.Ythaklbjcjoolcaa.P
open Go.RowKit YthaklbjcjoolcaaW.PrintWords YthaklbjcjoolcaaW.PrintLast YthaklbjcjoolcaaW.PrintMore
def cyA (a b : S31) : Int := a.f0 * b.f1 - b.f0 * a.f1
def arN (l : List S31) : Nat → Int
 | 0 => 0
 | n + 1 => arN l n + cyA (pt l n) (pt l ((n + 1) % l.length))
theorem cyA_bd {a b : S31} (ha : okPt a = true) (hb : okPt b = true) : -33554432 ≤ cyA a b ∧ cyA a b ≤ 33554432 := by
 rw [okPt_iff] at ha hb
 have h1 := mul_bd (a := a.f0) (b := b.f1) (m := 4096) (n := 4096) (by omega) (by omega)
 have h2 := mul_bd (a := b.f0) (b := a.f1) (m := 4096) (n := 4096) (by omega) (by omega)
 unfold cyA; omega
theorem arN_bd {l : List S31} (hok : allOk l = true) : ∀ n : Nat, n ≤ l.length → -33554432 * (n : Int) ≤ arN l n ∧ arN l n ≤ 33554432 * (n : Int)
 | 0, _ => ⟨by show _ ≤ (0 : Int); omega, by show (0 : Int) ≤ _; omega⟩
 | n + 1, hn => by
  have ih := arN_bd hok n (by omega)
  have h0 : 0 < l.length := by omega
  have hb := cyA_bd (pt_ok hok (i := n) (by omega)) (pt_ok hok (Nat.mod_lt (n + 1) h0))
  unfold arN; omega
theorem arN_from {l : List S31} (hok : allOk l = true) (hl : l.length ≤ 512) : ∀ (n i : Nat), l.length - i = n → i ≤ l.length →
  plane_area.l0 (n + 1) l (arN l i) l (l.length : Int) (i : Int) = some (arN l l.length)
 | 0, i, hn, hi => by
  obtain rfl : i = l.length := by omega
  unfold plane_area.l0; rw [if_neg (by omega)]
 | n + 1, i, hn, hi => by
  have hlt : i < l.length := by omega
  have hj : (i + 1) % l.length < l.length := Nat.mod_lt _ (by omega)
  have ih := arN_from hok hl n (i + 1) (by omega) (by omega)
  have hb := arN_bd hok (i + 1) (by omega)
  have hbi := arN_bd hok i (by omega)
  have oa := (okPt_iff _).1 (pt_ok hok hlt)
  have ob := (okPt_iff _).1 (pt_ok hok hj)
  have h1 := mul_bd (a := (pt l i).f0) (b := (pt l ((i + 1) % l.length)).f1) (m := 4096) (n := 4096) (by omega) (by omega)
  have h2 := mul_bd (a := (pt l ((i + 1) % l.length)).f0) (b := (pt l i).f1) (m := 4096) (n := 4096) (by omega) (by omega)
  have e : arN l (i + 1) = arN l i + cyA (pt l i) (pt l ((i + 1) % l.length)) := rfl
  have r0 : rd_T31 l (i : Int) = pt l i := by unfold rd_T31 pt; rw [Int.toNat_natCast]
  have r1 : rd_T31 l (((i + 1) % l.length : Nat) : Int) = pt l ((i + 1) % l.length) := by unfold rd_T31 pt; rw [Int.toNat_natCast]
  unfold cyA at e
  unfold plane_area.l0
  rw [if_pos (by omega), if_pos (by omega), if_pos (by omega), if_neg (by omega), show Int.tmod (wrap64 ((i : Int) + 1)) (l.length : Int) = (((i + 1) % l.length : Nat) : Int) from nx_tmod l i hlt (by omega), if_pos (by omega), if_pos (by omega), r0, r1, w64i (x := (i : Int) + 1) (by omega) (by omega),
   w64i (x := (pt l i).f0 * (pt l ((i + 1) % l.length)).f1) (by omega) (by omega), w64i (x := (pt l ((i + 1) % l.length)).f0 * (pt l i).f1) (by omega) (by omega)]
  rw [w64i (x := (pt l i).f0 * (pt l ((i + 1) % l.length)).f1 - (pt l ((i + 1) % l.length)).f0 * (pt l i).f1) (by omega) (by omega), w64i (by omega) (by omega), ← e]
  exact ih
theorem area_is {l : List S31} (hok : allOk l = true) (hl : l.length ≤ 512) : plane_area.f (l.length + 1) l = some (arN l l.length) := by
 have h := arN_from hok hl l.length 0 (by omega) (by omega)
 exact h
def sumF (f : Nat → Int) : Nat → Int
 | 0 => 0
 | n + 1 => sumF f n + f n
theorem sumF_front (f : Nat → Int) : ∀ n, sumF f (n + 1) = f 0 + sumF (fun i => f (i + 1)) n
 | 0 => by simp [sumF]
 | n + 1 => by
  have ih := sumF_front f n
  have e1 : sumF f (n + 1 + 1) = sumF f (n + 1) + f (n + 1) := rfl
  have e2 : sumF (fun i => f (i + 1)) (n + 1) = sumF (fun i => f (i + 1)) n + f (n + 1) := rfl
  rw [e1, e2, ih]; omega
theorem sumF_congr {f g : Nat → Int} : ∀ n, (∀ i, i < n → f i = g i) → sumF f n = sumF g n
 | 0, _ => rfl
 | n + 1, h => by
  unfold sumF; rw [sumF_congr n (fun i hi => h i (by omega)), h n (by omega)]
theorem pa_sum : ∀ M : List Geo.Pt, Geo.pa M = sumF (fun i => Geo.c2d (Geo.ix M i) (Geo.ix M (i + 1))) (M.length - 1)
 | [] => rfl
 | [_] => rfl
 | a :: b :: r => by
  have ih := pa_sum (b :: r)
  rw [Geo.pa_two, ih]
  have e : (a :: b :: r).length - 1 = ((b :: r).length - 1) + 1 := by simp
  rw [e, sumF_front]; rfl
theorem Ar_arN (l : List S31) : Geo.Ar (l.map gp) = arN l l.length := by
 cases l with
 | nil => rfl
 | cons a r =>
  have hA : ∀ n, arN (a :: r) n = sumF (fun i => cyA (pt (a :: r) i) (pt (a :: r) ((i + 1) % (a :: r).length))) n := by
   intro n; induction n with
   | zero => rfl
   | succ n ih => unfold arN sumF; rw [ih]
  rw [hA]
  show Geo.pa (((a :: r).map gp) ++ [gp a]) = _
  rw [pa_sum]
  have hl : (((a :: r).map gp) ++ [gp a]).length - 1 = (a :: r).length := by simp
  rw [hl]
  refine sumF_congr _ fun i hi => ?_
  have hm : ((a :: r).map gp).length = (a :: r).length := List.length_map ..
  rw [Geo.ix_app_l _ _ _ (by rw [hm]; exact hi), ix_gp _ i hi]
  have hk : Geo.ix (((a :: r).map gp) ++ [gp a]) (i + 1) = gp (pt (a :: r) ((i + 1) % (a :: r).length)) := by
   by_cases c : i + 1 < (a :: r).length
   ·rw [Geo.ix_app_l _ _ _ (by rw [hm]; exact c), ix_gp _ _ c, Nat.mod_eq_of_lt c]
   ·have e : i + 1 = (a :: r).length := by omega
    rw [e, Nat.mod_self, ← hm, Geo.ix_app_r]; rfl
  rw [hk]; rfl
theorem sense_good {l : List S31} {s : Int} (h : Geo.Good NH s (l.map gp)) : (0 < arN l l.length ∧ s = 1) ∨ (arN l l.length < 0 ∧ s = -1) := by
 have ha := h.area
 rw [Ar_arN] at ha
 rcases h.sgn with rfl | rfl <;> omega
theorem sense_is {l : List S31} (hok : allOk l = true) (hl : l.length ≤ 512) {s : Int} (h : Geo.Good NH s (l.map gp)) : plane_sense.f (l.length + 1) l = some s := by
 unfold plane_sense.f
 rw [area_is hok hl, Option.bind_some]
 rcases sense_good h with ⟨h1, h2⟩ | ⟨h1, h2⟩
 ·rw [if_pos (by omega), h2]
 ·rw [if_neg (by omega), h2]
end Go.Proofs.Ythaklbjcjoolcaa.P
namespace Go.Proofs.Ythaklbjcjoolcaa.P
open Go.RowKit Go.Shelf Go.Sort YthaklbjcjoolcaaW.PrintWords YthaklbjcjoolcaaW.PrintLast YthaklbjcjoolcaaW.PrintMore
theorem info58 : (Try.prog.info? 58).map (fun i => (i.zero, i.size, i.bytes)) = some (some (.agg #[.int .i64 0, .int .i64 0, .int .i64 0]), 3, 24) := by kernel_rfl
theorem ints_snoc (n : Nat) : ints (List.range (n + 1)) = ints (List.range n) ++ [(n : Int)] := by unfold ints; rw [List.range_succ, List.map_append]; rfl
theorem ints_erase (L : List Nat) (k : Nat) : (ints L).eraseIdx k = ints (L.eraseIdx k) := by
 unfold ints; rw [List.eraseIdx_eq_take_drop_succ, List.eraseIdx_eq_take_drop_succ, List.map_append, List.map_take, List.map_drop]
theorem simple_ev (l : List S31) : ∃ k, plane_Simple.f k l = some (simpleS l) := (prog_simple l).rounds
set_option maxHeartbeats 4000000 in
set_option maxRecDepth 100000 in
theorem tri_no (A0 : Option Addr) (c0 : Nat) (l0 : List S31) (w : World) (hr0 : Kd.C k31 w A0 l0.length l0) (hc0 : l0.length ≤ c0) (hs : simpleS l0 = false) :
  Calls Try.prog 50 #[.slice A0 l0.length c0] w fun e w' => e = .returned (.tuple #[.slice none 0 0, .int .i64 2]) ∧ Below w.heap.size w w' := by
 obtain ⟨k, hk⟩ := simple_ev l0
 rw [hs] at hk
 have HS := Aside0.mk (fun W (hb : Below w.heap.size w W) => plane_Simple.calls k A0 c0 l0 _ W (Kd.C_below hr0 hb) hc0 hk)
 have HB := Aside0.mk (Below.refl w.heap.size w)
 clear hr0 hk hs
 go_enter Try.func50, Try.ntmps50
 go_wp2_with (first | (go_at_call 25; go_must (refine (HS.out _ HB.out).mono ?_); rintro e w1 ⟨rfl, hb1⟩; have HB1 := Aside0.mk (below_step HB.out hb1); clear hb1))
 go_ret2
 exact ⟨rfl, HB1.out⟩
def triR.T17 : Bool × List (List Nat × List Nat) := (true, [([], []), ([], []), ([], []), ([], []), ([2, 3], [2, 3]), ([4], [4]), ([], []), ([5, 6], [5, 6]), ([1, 7], [1, 7]), ([8], [8]), ([], []), ([], []), ([10, 11], [10, 11]), ([12], [12]), ([], []), ([], []), ([15], [15]), ([], []), ([16, 17], [16, 17]), ([14, 18], [14, 18]), ([19], [19]), ([9, 13, 20], [9, 13, 20]), ([21], [21]), ([0, 22], [0, 22]), ([23, 23, 0, 1, 2, 3, 4, 5, 6, 7, 8, 9, 10, 11, 12, 13, 14, 15, 16, 17, 18, 19, 20, 21, 22, 23], [0, 23])])
def triR.B17 : List Nat := [0, 0, 0, 0, 12, 28, 0, 124, 254, 510, 0, 0, 3072, 7168, 0, 0, 32768, 0, 229376, 507904, 1032192, 2097150, 4194302, 8388607, 16777215]
theorem triR.tab17 : rtab .any (opsOf Try.f50 17) = triR.T17 := by kernel_rfl
theorem triR.bits17 : waitsOk triR.T17.2 triR.B17 = true := by kernel_rfl
set_option maxHeartbeats 8000000 in
set_option maxRecDepth 100000 in
theorem tri_yes (A0 : Option Addr) (c0 : Nat) (l0 : List S31) (w : World) (hr0 : Kd.C k31 w A0 l0.length l0) (hc0 : l0.length ≤ c0) (hs : simpleS l0 = true) (s : Int) (hG : Geo.Good NH s (l0.map gp)) (f : Nat) (ts : List S58) (hf : f ≤ 262144) (htr : trL l0 s f (List.range l0.length) 0 = some ts) :
  Calls Try.prog 50 #[.slice A0 l0.length c0] w fun e w' => ∃ v, e = .returned (.tuple #[v, .int .i64 0]) ∧ Kd.R k58 58 w' w.heap.size (fun _ => True) v ts ∧ Below w.heap.size w w' := by
 obtain ⟨k, hk⟩ := simple_ev l0
 rw [hs] at hk
 obtain ⟨h3, h5, hok⟩ := simple_ok hs
 have hw := hG.sgn
 have HS := Aside0.mk (fun W (hb : Below w.heap.size w W) => plane_Simple.calls k A0 c0 l0 _ W (Kd.C_below hr0 hb) hc0 hk)
 have HW := Aside0.mk (fun W (hb : Below w.heap.size w W) => plane_sense.calls (l0.length + 1) A0 c0 l0 s W (Kd.C_below hr0 hb) hc0 (sense_is hok h5 hG))
 have HE := Aside0.mk (fun (L : List Nat) (hL : ∀ i ∈ L, i < l0.length) (hl : L.length ≤ 512) (k : Nat) (hk : k < L.length) A1 c1 W (hb : Below w.heap.size w W) (hr1 : Kd.C (Kd.int .i64) W A1 (ints L).length (ints L)) (hc1 : (ints L).length ≤ c1) =>
  isear_calls A0 c0 l0 A1 c1 L k s W (Kd.C_below hr0 hb) hc0 hr1 hc1 hok hL hl hw hk)
 have HB := Aside0.mk (Below.refl w.heap.size w)
 have HT := Aside0.mk htr
 have HN0 : Aside0 (Kd.R (Kd.int .i64) 3 w w.heap.size (fun _ => True) (.slice none 0 0) (ints (List.range 0))) := ⟨Kd.R_nil _ _ _ _ _⟩
 clear hr0 hk hs hG htr hw hok
 have hu78 := Try.underlying78
 go_enter Try.func50, Try.ntmps50
 go_wp2_with (first | (go_at_call 25; go_must (refine (HS.out _ HB.out).mono ?_); rintro e w1 ⟨rfl, hb1⟩; have HB1 := Aside0.mk (below_step HB.out hb1); have HN1 := Aside0.mk (Kd.R_below HN0.out hb1); clear hb1))
 go_loopw [4, 16] (fun v4 v16 wr => ∃ k : Nat, k ≤ l0.length ∧ v16 = .int .i64 k ∧ Aside0 (Kd.R (Kd.int .i64) 3 wr w.heap.size (fun _ => True) v4 (ints (List.range k))) ∧ Aside0 (Below w.heap.size w wr)) (fun _ v16 _ => l0.length - (intOf v16).toNat)
 case atStart => exact ⟨0, by omega, rfl, HN1, HB1⟩
 case round =>
  obtain ⟨k, hk, rfl, HL, HB2⟩ := hrel
  clear HN0 HN1 HB HB1
  by_cases hlt : k < l0.length
  ·have hltI : ((k : Nat) : Int) < ((l0.length : Nat) : Int) := by omega
   have hll : Aside0 ((ints (List.range k)).length = k) := ⟨by rw [ints_len, List.length_range]⟩
   go_wp2_with (first | ((with_reducible refine gate_builtin (b := .append) (xs := #[.tmp 19, .tmp 21]) rfl ?_); at_builtin; refine Kd.R_append (Kd.int .i64) (w0 := w) w.heap.size rfl (.tmp 19) (.tmp 21) 78 3 (.int .i64 0) 8 rfl Try.underlying78 info3 rfl (by decide) (by omega) u4 (ints (List.range k)) (k : Int) [.int .i64 (k : Int)] (fun _ => True) (fun _ => False) rfl rfl ?aP (fun _ hk => hk.elim) ?aF ?aO ?aB ?aS ?aL ?_; (case aP => exact rfl); (case aB => exact HB2.out); (case aF => exact (fun _ _ => trivial)); (case aO => exact HL.out); (case aS => exact HB2.out.size); (case aL => rw [hll.out]; omega); intro v1 w1 ho1 hb1 hg1 hat1; have HL1 := Aside0.mk ho1; have HB3 := Aside0.mk hb1; clear ho1 hb1 hg1 hat1))
   rw [← ints_snoc] at HL1
   go_roundw
   case rel => exact ⟨k + 1, by omega, by go_num, HL1, HB3⟩
   case measure => simp [intOf]; omega
  ·obtain rfl : k = l0.length := by omega
   have HD0 : Aside0 (Kd.R k58 58 wr w.heap.size (fun _ => True) (.slice none 0 0) []) := ⟨Kd.R_nil _ _ _ _ _⟩
   go_wp2_with (first | (go_at_call 76; go_must (refine (HW.out _ HB2.out).mono ?_); rintro e w2 ⟨rfl, hb2⟩; have HB3 := Aside0.mk (below_step HB2.out hb2); have HL3 := Aside0.mk (Kd.R_below HL.out hb2); have HD3 := Aside0.mk (Kd.R_below HD0.out hb2); clear hb2))
   clear HL HB2 HD0 HS HW
   go_loopg [4, 7, 8] f (fun fq v4 v7 v8 wr => ∃ (L : List Nat) (at_ : Nat) (out rest : List S58), v8 = .int .i64 at_ ∧ Aside0 (trL l0 s fq L at_ = some rest) ∧ Aside0 (out ++ rest = ts) ∧ Aside0 (at_ + fq ≤ 262144) ∧ Aside0 (∀ i ∈ L, i < l0.length) ∧ Aside0 (L.length ≤ 512) ∧ Aside0 (out.length + L.length ≤ 512) ∧ Aside0 (Kd.R (Kd.int .i64) 3 wr w.heap.size (fun _ => True) v4 (ints L)) ∧ Aside0 (Kd.R k58 58 wr w.heap.size (fun _ => True) v7 out) ∧ Aside0 (Below w.heap.size w wr))
   case atStart => exact ⟨List.range l0.length, 0, [], ts, rfl, HT, ⟨rfl⟩, ⟨by omega⟩, ⟨fun i hi => List.mem_range.mp hi⟩, ⟨by rw [List.length_range]; omega⟩, ⟨by rw [List.length_range]; simp; omega⟩, HL3, HD3, HB3⟩
   case round =>
    obtain ⟨L, at_, out, rest, rfl, HA, HTS, HAT, HLt, HLl, HOl, HL, HD, HB⟩ := hrel
    clear HL3 HD3 HB3 HT
    cases gk with
    | zero => exact absurd HA.out (by simp [trL])
    | succ f1 =>
     have hA := HA.out
     rw [trL] at hA
     have hlen : (ints L).length = L.length := ints_len L
     obtain ⟨Ao, co, rfl⟩ := Kd.R_slice HL.out
     by_cases h3L : 3 ≤ L.length
     ·rw [if_pos h3L] at hA
      have hge : decide ((3 : Int) ≤ (((ints L).length : Nat) : Int)) = true := by simp; omega
      have hz : ((((ints L).length : Nat) : Int) == 0) = false := by rw [beq_eq_false_iff_ne]; omega
      have hz1 : ((((ints L).length : Nat) : Int) != 0) = true := by rw [bne_iff_ne]; omega
      have hz2 : ¬ ints L = [] := fun e => by rw [e] at hlen; simp at hlen; omega
      have hz3 : ¬ (ints L).length = 0 := by omega
      have hz4 : ¬ (((ints L).length : Nat) : Int) = 0 := by omega
      obtain ⟨k, hk⟩ : ∃ k, k = at_ % L.length := ⟨_, rfl⟩
      have hkl : k < L.length := by rw [hk]; exact Nat.mod_lt _ (by omega)
      rw [← hk] at hA
      have hmod : Int.tmod ((at_ : Nat) : Int) (((ints L).length : Nat) : Int) = ((k : Nat) : Int) := by rw [hlen, hk]; rfl
      have hC := Aside0.mk (Kd.R_reads' HL.out).2.2
      have hCc := Aside0.mk (Kd.R_reads' HL.out).2.1
      have HK := Aside0.mk (⟨hkl, h3L, hlen⟩ : k < L.length ∧ 3 ≤ L.length ∧ (ints L).length = L.length)
      have HATo := HAT.out
      clear hk hlen
      by_cases hear : earB l0 L k s = true
      ·rw [if_pos hear] at hA
       obtain ⟨rest', hA1, hA2⟩ := Option.map_eq_some_iff.mp hA
       have HA1 := Aside0.mk hA1
       have HTS1 : Aside0 ((out ++ [tri3 L k]) ++ rest' = ts) := ⟨by rw [← HTS.out, ← hA2]; simp⟩
       clear hA HA hA1 hA2
       go_wp2_with (first | (go_at_call 78; go_must (refine (HE.out L HLt.out (by have := HLl.out; omega) k HK.out.1 Ao co _ HB.out hC.out hCc.out).mono ?_); rw [hear]; rintro e w3 ⟨rfl, hb3⟩; have HB1 := Aside0.mk (below_step HB.out hb3); have HL1 := Aside0.mk (Kd.R_below HL.out hb3); have HD1 := Aside0.mk (Kd.R_below HD.out hb3); clear hb3))
       obtain ⟨hkl', h3L', hlen⟩ := HK.out
       clear hmod hge
       have hC1 := (Kd.R_reads' HL1.out).2.2
       have n1 : prv L.length k < L.length := Nat.mod_lt _ (by omega)
       have n2 : nxt2 L.length k < L.length := Nat.mod_lt _ (by omega)
       obtain ⟨ad, rfl, hx1⟩ := Kd.at_int hC1 ((prv L.length k : Nat) : Int) (Int.natCast_nonneg _) (lt_N n1 hlen)
       obtain ⟨ad2, e2, hx2⟩ := Kd.at_int hC1 ((k : Nat) : Int) (Int.natCast_nonneg _) (lt_N hkl' hlen)
       obtain ⟨ad3, e3, hx3⟩ := Kd.at_int hC1 ((nxt2 L.length k : Nat) : Int) (Int.natCast_nonneg _) (lt_N n2 hlen)
       obtain rfl : ad = ad2 := by injection e2
       obtain rfl : ad = ad3 := by injection e3
       rw [rd_ints L _ n1, Int.toNat_natCast] at hx1
       rw [rd_ints L _ hkl', Int.toNat_natCast] at hx2
       rw [rd_ints L _ n2, Int.toNat_natCast] at hx3
       have hlb := HLl.out
       have hN : (ints L).length ≤ 512 := by omega
       have hkN : k < (ints L).length := by omega
       have hm1 := mod_a hkN hN
       have hm2 := mod_b hkN hN
       have hm3 := mod_c hkN hN
       have hm4 := mod_d hkN hN
       have hs1 := mod_w1 hkN hN
       have hs3 := mod_w3 hkN hN
       rw [show prv (ints L).length k = prv L.length k by rw [hlen]] at hm1 hm3
       rw [show nxt2 (ints L).length k = nxt2 L.length k by rw [hlen]] at hm2 hm4
       have i1 : ((prv L.length k : Nat) : Int) < (((ints L).length : Nat) : Int) := lt_N n1 hlen
       have i2 : ((k : Nat) : Int) < (((ints L).length : Nat) : Int) := lt_N hkl' hlen
       have i3 : ((nxt2 L.length k : Nat) : Int) < (((ints L).length : Nat) : Int) := lt_N n2 hlen
       have HTR : Aside0 (tri3 L k = ⟨((nat_at L (prv L.length k) : Nat) : Int), ((nat_at L k : Nat) : Int), ((nat_at L (nxt2 L.length k) : Nat) : Int)⟩) := ⟨rfl⟩
       clear e2 e3 hC1 hlen hkl' h3L' n1 n2 hN hkN hlb
       generalize hp1 : prv L.length k = p1 at *
       generalize hp2 : nxt2 L.length k = p2 at *
       generalize nat_at L p1 = y1 at *
       generalize nat_at L p2 = y3 at *
       generalize nat_at L k = y2 at *
       have HL2 := Aside0.mk (Kd.R_drew HL1.out)
       have HD2 := Aside0.mk (Kd.R_drew HD1.out)
       have HB2 := Aside0.mk (below_drew HB1.out)
       clear HL1 HD1 HB1 HL HD HB hC hCc HE
       refine start_ (n := 25) (S := fun w' => w'.cell? (ad.add p1) = some (.int .i64 ((y1 : Nat) : Int)) ∧ w'.cell? (ad.add k) = some (.int .i64 ((y2 : Nat) : Int)) ∧ w'.cell? (ad.add p2) = some (.int .i64 ((y3 : Nat) : Int))) (ds := [22, 23]) (Bs 0 25) (by kernel_rfl) rfl rfl ⟨hx1, hx2, hx3⟩ (fun hHeld => ?_)
       generalize w3.drew = w4 at HL2 HD2 HB2 hx1 hx2 hx3 hHeld ⊢
       refine with_tabW triR.tab17 triR.bits17 (fun HT_ HW_ => ?_)
       refine pu 0 42 (Bs 1 25) HT_ ?_
       refine pu 1 43 (Bs 2 25) HT_ ?_
       refine pu 2 44 (Bs 3 25) HT_ ?_
       refine pu 3 45 (Bs 4 25) HT_ ?_
       refine pu 4 46 (Bs 5 25) HT_ ?_
       refine pu 5 47 (Bs 6 25) HT_ ?_
       refine pu 6 48 (Bs 7 25) HT_ ?_
       refine pu 7 49 (Bs 8 25) HT_ ?_
       refine pu 8 50 (Bs 9 25) HT_ ?_
       refine pu 10 52 (Br [9,1,1,14]) HT_ ?_
       refine pu 11 53 (Br [9,1,2,13]) HT_ ?_
       refine pu 12 54 (Br [9,1,3,12]) HT_ ?_
       refine pu 14 56 (Br [9,1,3,1,1,10]) HT_ ?_
       refine pu 15 57 (Br [9,1,3,1,2,9]) HT_ ?_
       refine pu 16 58 (Br [9,1,3,1,3,8]) HT_ ?_
       refine pu 17 59 (Br [9,1,3,1,4,7]) HT_ ?_
       refine pu 18 60 (Br [9,1,3,1,5,6]) HT_ ?_
       refine pu 19 61 (Br [9,1,3,1,6,5]) HT_ ?_
       refine ta 9 51 (Br [13,1,6,5]) HT_ HW_ hHeld ?_
       refine ta 13 55 (Bs 20 25) HT_ HW_ hHeld ?_
       refine ta 20 62 (Bs 21 25) HT_ HW_ hHeld ?_
       refine pu 21 63 (Bs 22 25) HT_ ?_
       refine last_ (i := 22) (N := some 64) (Bs 23 25) rfl rfl (one_of HT_.out (by kernel_rfl)) (by decide) (fun K hK => ?_)
       refine value_ (w1 := ?_) (v := ?_) (by rfl) rfl ?_ ?_
       rotate_left 2
       ·go_simp
        constructor
        ·rfl
        ·rfl
       refine hK.out _ _ ?_
       clear hK K
       refine nm 64 ?_
       refine last_ (i := 23) (N := some 65) (Bs 24 25) rfl rfl (one_of HT_.out (by kernel_rfl)) (by decide) (fun K hK => ?_)
       refine Kd.R_append_step k58 (w0 := w) w.heap.size (by rfl) (.tmp 42) (.tmp 64) 53 58 (.agg #[.int .i64 0, .int .i64 0, .int .i64 0]) 24 rfl Try.underlying53 info58 rfl (by decide) (by omega) u7 out ⟨((y1 : Nat) : Int), ((y2 : Nat) : Int), ((y3 : Nat) : Int)⟩ [.int .i64 ((y1 : Nat) : Int), .int .i64 ((y2 : Nat) : Int), .int .i64 ((y3 : Nat) : Int)] (fun _ => True) (fun _ => False) rfl rfl ?aP (fun _ hk => hk.elim) ?aF ?aO ?aB ?aS ?aL ?_
       case aP => exact k58_mkM _ _ _ _
       case aF => exact (fun _ _ => trivial)
       case aO => exact HD2.out
       case aB => exact HB2.out
       case aS => exact HB2.out.size
       case aL => have := HOl.out; omega
       intro v7 w5 ho5 hb5 hg5 hat5
       have HD3 := Aside0.mk ho5
       have HL3 := Aside0.mk (Kd.R_over HL2.out HD2.out (by decide) hg5)
       have HB3 := Aside0.mk hb5
       clear ho5 hb5 hg5 hat5
       refine hK.out _ _ ?_
       clear hK K
       refine nm 65 ?_
       refine pu 24 7 (Bs 25 25) HT_ ?_
       refine done_ (done_of HT_.out (by kernel_rfl)) ?_
       clear hm1 hm2 hm3 hm4 hz hz1 hz2 hz3 hz4
       have HKo := Aside0.mk (show k < (ints L).length ∧ (ints L).length ≤ 512 from ⟨by have := HK.out; omega, by have := HK.out; have := HLl.out; omega⟩)
       go_wp2_with (first | (go_at_call 79; go_must (refine (delete_calls _ w.heap.size (fun _ => True) _ (ints L) k HL3.out HKo.out.1 (by have := HKo.out.2; omega)).mono ?_); rintro e w6 ⟨v4', rfl, hr6, hg6, _⟩; have HD4 := Aside0.mk (Kd.R_over HD3.out HL3.out (by decide) hg6); have HB4 := Aside0.mk (HB3.out.grown hg6 HB3.out.size (fun k e => Kd.R_base HL3.out k e)); rw [ints_erase] at hr6; have HL4 := Aside0.mk hr6; clear hr6 hg6))
       go_roundg f1
       case measure => omega
       case rel =>
        have hkl := HK.out.1
        refine ⟨L.eraseIdx k, at_ + 1, _, rest', by go_num, HA1, HTS1, ⟨by omega⟩, ⟨fun i hi => HLt.out i (List.mem_of_mem_eraseIdx hi)⟩, ⟨by have := HLl.out; rw [List.length_eraseIdx, if_pos hkl]; omega⟩, ⟨by have := HOl.out; rw [List.length_eraseIdx, if_pos hkl, List.length_append]; simp; omega⟩, HL4, ⟨by rw [HTR.out]; exact HD4.out⟩, HB4⟩
      ·rw [if_neg hear] at hA
       rw [Bool.not_eq_true] at hear
       have HA1 := Aside0.mk hA
       clear hA HA
       go_wp2_with (first | (go_at_call 78; go_must (refine (HE.out L HLt.out (by have := HLl.out; omega) k HK.out.1 Ao co _ HB.out hC.out hCc.out).mono ?_); rw [hear]; rintro e w3 ⟨rfl, hb3⟩; have HB1 := Aside0.mk (below_step HB.out hb3); have HL1 := Aside0.mk (Kd.R_below HL.out hb3); have HD1 := Aside0.mk (Kd.R_below HD.out hb3); clear hb3))
       go_roundg f1
       case measure => omega
       case rel => exact ⟨L, at_ + 1, out, rest, by go_num, HA1, HTS, ⟨by omega⟩, HLt, HLl, HOl, HL1, HD1, HB1⟩
     ·rw [if_neg h3L] at hA
      have hge : decide ((3 : Int) ≤ (((ints L).length : Nat) : Int)) = false := by simp; omega
      obtain rfl := Option.some.inj hA
      have hts := HTS.out
      rw [List.append_nil] at hts
      subst hts
      go_wp2
      go_ret2
      exact ⟨_, rfl, HD.out, HB.out⟩
theorem trL_mono (l : List S31) (way : Int) : ∀ f L at_ r, trL l way f L at_ = some r → trL l way (f + 1) L at_ = some r
 | 0, _, _, _, h => by simp [trL] at h
 | f + 1, L, at_, r, h => by
  rw [trL] at h ⊢
  by_cases h3 : 3 ≤ L.length
  ·rw [if_pos h3] at h ⊢
   by_cases he : earB l L (at_ % L.length) way = true
   ·rw [if_pos he] at h ⊢
    obtain ⟨q, h1, h2⟩ := Option.map_eq_some_iff.mp h
    rw [trL_mono l way f _ _ _ h1]; simpa using h2
   ·rw [if_neg he] at h ⊢
    exact trL_mono l way f _ _ _ h
  ·rw [if_neg h3] at h ⊢; exact h
theorem trL_le (l : List S31) (way : Int) {f L at_ r} (h : trL l way f L at_ = some r) : ∀ d, trL l way (f + d) L at_ = some r
 | 0 => h
 | d + 1 => trL_mono l way (f + d) L at_ r (trL_le l way h d)
def senseS (l : List S31) : Int := if 0 < arN l l.length then 1 else -1
def triT (l : List S31) : List S58 := (trL l (senseS l) (l.length * l.length) (List.range l.length) 0).getD []
theorem range_pL (l : List S31) : pL l (List.range l.length) = l.map gp := by
 unfold pL
 apply List.ext_getElem
 ·simp
 ·intro i h1 h2
  simp at h1
  simp [pt_eq l i h1]
structure TriOk (l : List S31) (s : Int) (ts : List S58) : Prop where
 good : Geo.Good NH s (l.map gp)
 es : Geo.ES s (l.map gp) (ts.map (p3 l))
 idx : ∀ t ∈ ts, ∃ a b c : Nat, t = ⟨a, b, c⟩ ∧ a < l.length ∧ b < l.length ∧ c < l.length
theorem tri_fact {l : List S31} (h : simpleS l = true) : TriOk l (senseS l) (triT l) ∧ trL l (senseS l) (l.length * l.length) (List.range l.length) 0 = some (triT l) := by
 obtain ⟨s, hG⟩ := good_gp h
 have hs : senseS l = s := by
  unfold senseS
  rcases sense_good hG with ⟨h1, h2⟩ | ⟨h1, h2⟩
  ·rw [if_pos h1, h2]
  ·rw [if_neg (by omega), h2]
 obtain ⟨h3, _, _⟩ := simple_ok h
 obtain ⟨f, ts, k1, k2, k3, k4⟩ := tr_ex l.length (List.range l.length) 0 (List.length_range ..) h3 (by rw [range_pL]; exact hG)
 rw [range_pL] at k3
 have k5 := trL_le l s k2 (l.length * l.length - f)
 rw [show f + (l.length * l.length - f) = l.length * l.length by omega] at k5
 have e : triT l = ts := by unfold triT; rw [hs, k5]; rfl
 rw [e, hs]
 refine ⟨⟨hG, k3, fun t ht => ?_⟩, k5⟩
 obtain ⟨a, b, c, e, m1, m2, m3⟩ := k4 t ht
 exact ⟨a, b, c, e, List.mem_range.mp m1, List.mem_range.mp m2, List.mem_range.mp m3⟩
def plane_Triangulate.f (l0 : List S31) : Option (List S58 × Int) := if simpleS l0 = true then some (triT l0, 0) else some ([], 2)
theorem plane_Triangulate.calls (A0 : Option Addr) (c0 : Nat) (l0 : List S31) (r1 : List S58) (r2 : Int) (w : World) (hr0 : Kd.C k31 w A0 l0.length l0) (hc0 : l0.length ≤ c0) (h : plane_Triangulate.f l0 = some (r1, r2)) :
  Calls Try.prog 50 #[.slice A0 l0.length c0] w fun e w' => ∃ v1_ : Value, e = .returned (.tuple #[v1_, .int .i64 r2]) ∧ Kd.R k58 58 w' w.heap.size (fun _ => True) v1_ r1 ∧ Below w.heap.size w w' := by
 unfold plane_Triangulate.f at h
 by_cases hs : simpleS l0 = true
 ·rw [if_pos hs] at h
  simp only [Option.some.injEq, Prod.mk.injEq] at h
  obtain ⟨rfl, rfl⟩ := h
  obtain ⟨k1, k2⟩ := tri_fact hs
  obtain ⟨h3, h5, _⟩ := simple_ok hs
  exact tri_yes A0 c0 l0 w hr0 hc0 hs _ k1.good (l0.length * l0.length) _ (by have := Nat.mul_le_mul h5 h5; omega) k2
 ·rw [if_neg hs] at h
  simp only [Option.some.injEq, Prod.mk.injEq] at h
  obtain ⟨rfl, rfl⟩ := h
  rw [Bool.not_eq_true] at hs
  refine (tri_no A0 c0 l0 w hr0 hc0 hs).mono ?_
  rintro e w' ⟨rfl, hb⟩
  exact ⟨_, rfl, Kd.R_nil _ _ _ _ _, hb⟩
end Go.Proofs.Ythaklbjcjoolcaa.P
namespace Go.Proofs.Ythaklbjcjoolcaa.P
open Go.RowKit YthaklbjcjoolcaaW.PrintWords YthaklbjcjoolcaaW.PrintLast YthaklbjcjoolcaaW.PrintMore
def tk (t : S58) (k : Nat) : Int := if k = 0 then t.f0 else if k = 1 then t.f1 else t.f2
def tt (ts : List S58) (i : Nat) : S58 := ts.getD i z58
theorem tt_mem {ts : List S58} {i : Nat} (h : i < ts.length) : tt ts i ∈ ts := by
 unfold tt; rw [List.getD_eq_getElem?_getD, List.getElem?_eq_getElem h]; exact List.getElem_mem h
structure CntOk (n : Nat) (C : List Int) (f : Int → Int → Int) : Prop where
 len : C.length = n * n
 at_ : ∀ a b : Nat, a < n → b < n → rd C ((a : Int) * n + b) = f a b
theorem idx_lt {n a b : Nat} (ha : a < n) (hb : b < n) : a * n + b < n * n := by
 have : (a + 1) * n ≤ n * n := Nat.mul_le_mul_right n (by omega)
 rw [Nat.add_mul] at this; omega
theorem idx_inj {n a b c d : Nat} (hb : b < n) (hd : d < n) (e : a * n + b = c * n + d) : a = c ∧ b = d := by
 have h1 : (a * n + b) / n = a := by rw [Nat.mul_comm, Nat.mul_add_div (by omega), Nat.div_eq_of_lt hb]; rfl
 have h2 : (c * n + d) / n = c := by rw [Nat.mul_comm, Nat.mul_add_div (by omega), Nat.div_eq_of_lt hd]; rfl
 have : a = c := by rw [← h1, ← h2, e]
 subst this; exact ⟨rfl, by omega⟩
theorem idx_cast (n a b : Nat) : ((a : Int) * n + b) = ((a * n + b : Nat) : Int) := by push_cast; rfl
theorem CntOk.zero (n : Nat) : CntOk n (List.replicate (n * n) 0) (fun _ _ => 0) := by
 refine ⟨List.length_replicate .., fun a b ha hb => ?_⟩
 rw [idx_cast]; unfold rd
 rw [Int.toNat_natCast, List.getD_eq_getElem?_getD, List.getElem?_replicate, if_pos (idx_lt ha hb)]; rfl
theorem CntOk.put {n : Nat} {C : List Int} {f : Int → Int → Int} (h : CntOk n C f) {x y : Nat} (hx : x < n) (hy : y < n) (v : Int) :
  CntOk n (C.set (x * n + y) v) (fun a b => if a = x ∧ b = y then v else f a b) := by
 refine ⟨by rw [List.length_set]; exact h.len, fun a b ha hb => ?_⟩
 have h0 := h.at_ a b ha hb
 have l1 := idx_lt ha hb
 have l2 := idx_lt hx hy
 have hl := h.len
 rw [idx_cast] at h0 ⊢
 unfold rd at h0 ⊢
 rw [Int.toNat_natCast, List.getD_eq_getElem?_getD] at h0 ⊢
 by_cases e : a = x ∧ b = y
 ·obtain ⟨rfl, rfl⟩ := e
  rw [List.getElem?_set_self (by omega), if_pos ⟨rfl, rfl⟩]; rfl
 ·have ne : x * n + y ≠ a * n + b := fun q => e (by have := idx_inj hy hb q; exact ⟨this.1.symm, this.2.symm⟩)
  rw [List.getElem?_set_ne ne, h0, if_neg (fun q => e ⟨by omega, by omega⟩)]
end Go.Proofs.Ythaklbjcjoolcaa.P
namespace Go.Proofs.Ythaklbjcjoolcaa.Geo

theorem gen_one {N X : Int} (hX : X = 0 ∨ X = 1) : ∀ n : Nat, ∀ P : List Pt, P.length = n → Sim P → Inj N P → ∀ s, Ori N s P → ∀ z : Pt, (∀ x ∈ P, ht N x ≠ ht N z) →
  (∀ x ∈ P, ∀ y ∈ P, x ≠ y → T x y z ≠ 0) → s * Wd N X P z ≤ 1 := by
 intro n
 induction n using Nat.strongRecOn with
 | ind n ih =>
 intro P hn hP hi s ho z gz gT
 have hs := ho.1
 obtain ⟨hK, _, hE⟩ := main' hP hi ho
 have h3 := hP.len
 obtain ⟨x, hx⟩ : ∃ x, x ∈ P := by cases P with
  | nil => simp at h3
  | cons x r => exact ⟨x, by simp⟩
 obtain ⟨y, hy⟩ := cyc_from P x hx
 obtain ⟨a, R, h1, _, _, he, hw0⟩ := hE _ hy
 have hl := h1.len
 obtain ⟨v, M, u, rfl⟩ := ends2 (R := R) (by omega)
 have hS := h1.sim hP
 have ndR := (List.nodup_cons.mp hS.nd).2
 have nva := (List.nodup_cons.mp hS.nd).1
 obtain ⟨hD, hem⟩ := he.to ndR
 have eW : Wd N X P z = Wd N X [u, a, v] z + Wd N X (v :: (M ++ [u])) z := by rw [h1.wd, Wd_ear]
 rw [eW, Int.mul_add]
 have t1 := triW (N := N) hX hs hD z
 by_cases k0 : s * Wd N X [u, a, v] z = 1
 ·-- inside the ear: then not round what is left
  have hin := tri_out (N := N) hX hs hD z (by omega)
  have mem : ∀ q, q ∈ a :: v :: (M ++ [u]) → q ∈ P := fun q hq => (h1.mem q).mpr (by simpa using hq)
  have iP : ∀ q ∈ a :: v :: (M ++ [u]), ht N q ≠ ht N z := fun q hq => gz q (mem q hq)
  have nuv : u ≠ v := fun e => (List.nodup_cons.mp ndR).1 (by rw [← e]; simp)
  have nua : u ≠ a := fun e => nva (by rw [← e]; simp)
  have nvaa : v ≠ a := fun e => nva (by rw [← e]; simp)
  have st : ∀ x y, x ∈ a :: v :: (M ++ [u]) → y ∈ a :: v :: (M ++ [u]) → x ≠ y → 0 ≤ s * T x y z → 0 < s * T x y z := by
   intro x y hx hy n h
   have := gT x (mem x hx) y (mem y hy) n
   rcases hs with rfl | rfl <;> omega
  have ha := st a v (by simp) (by simp) nvaa.symm hin.2.1
  have hb := st u a (by simp) (by simp) nua hin.1
  have hd := st v u (by simp) (by simp) nuv.symm hin.2.2
  suffices hz : Wd N X (v :: (M ++ [u])) z = 0 by rw [hz]; omega
  rw [← hw0 X hX]
  have ce := cyc_ends a v u M
  have ua : (u, a) ∈ cyc (a :: v :: (M ++ [u])) := by rw [ce]; simp
  have av : (a, v) ∈ cyc (a :: v :: (M ++ [u])) := by rw [ce]; simp
  by_cases hM : M = []
  ·subst hM; simp only [List.nil_append]; rw [Wd_two0, Wd_two0]
  refine seg_const hX (fun e he => ?_) (fun x hx => ⟨iP x (List.mem_cons_of_mem _ hx), hi.ne (mem x (List.mem_cons_of_mem _ hx)) (mem a (by simp)) (fun e => nva (e ▸ hx))⟩) (fun e => iP a (by simp) e.symm)
  rw [cyc_path, List.mem_append] at he
  rcases he with he | he
  ·have sub : e ∈ cyc (a :: v :: (M ++ [u])) := by rw [ce]; simp [he]
   have me := ed_mem _ e he
   have e1a : e.1 ≠ a := fun k => nva (k ▸ me.1)
   have e2a : e.2 ≠ a := fun k => nva (k ▸ me.2)
   have far : ∀ x ∈ v :: (M ++ [u]), 0 ≤ s * T u a x → 0 ≤ s * T a v x → s * T v u x ≤ s * T v u z := by
    intro x hx k1 k2
    by_cases xv : x = v
    ·subst xv; rw [T_aba]; omega
    ·by_cases xu : x = u
     ·subst xu; rw [T_abb]; omega
     ·have hxM : x ∈ M := by
       simp at hx; rcases hx with h | h | h
       ·exact absurd h xv
       ·exact h
       ·exact absurd h xu
      by_cases c : 0 ≤ s * T v u x
      ·exact absurd ⟨k1, k2, c⟩ (hem x hxM)
      ·omega
   have e12 : e.1 ≠ e.2 := by
    intro k
    have h2 := ed_snd v (M ++ [u]) e he
    have : ¬ On e.1 e.2 e.2 := by
     have := hS.ad e sub e sub k.symm
     rw [← k] at this ⊢; exact this.2
    exact this (on_right _ _)
   have Dg : Dis a z e.1 e.2 := by
    refine diag hs hD ha hb (Int.le_of_lt hd) (fun k => iP e.1 (List.mem_cons_of_mem _ me.1) (by rw [k])) (fun k => iP e.2 (List.mem_cons_of_mem _ me.2) (by rw [k])) (far _ me.1) (far _ me.2) (fun _ k => ?_) (fun k _ => ?_) ?_ ?_
    ·exact hS.na e sub (u, a) ua k (fun c => e1a c.symm) (fun c => e2a (by rw [c]))
    ·exact hS.na e sub (a, v) av e2a (fun c => k c.symm) (fun c => e1a (by rw [c]))
    ·exact hS.off sub (by simp) e1a.symm e2a.symm
    ·intro ho2
     exact gT e.1 (mem _ (List.mem_cons_of_mem _ me.1)) e.2 (mem _ (List.mem_cons_of_mem _ me.2)) e12 ho2.1
   exact Dg.flip.swap
  ·simp at he; subst he
   have d1 : s * T v u a = s * T u a v := by rw [T_cyc2]
   have s1 := T_swap v u z; have s2 := T_swap v u a
   have nz : T u v z ≠ 0 := by rcases hs with rfl | rfl <;> omega
   have na : T u v a ≠ 0 := by rcases hs with rfl | rfl <;> omega
   refine ⟨fun o => nz o.1, fun o => na o.1, fun o => ?_, fun o => ?_, fun o => ?_⟩
   ·have := o.btT s v u; rw [T_abb] at this; unfold Bt at this; omega
   ·have := o.btT s v u; rw [T_aba] at this; unfold Bt at this; omega
   ·have := o.1; unfold opp at this; rcases hs with rfl | rfl <;> simp only at this <;> omega
 ·have hle : s * Wd N X (v :: (M ++ [u])) z ≤ 1 := by
   by_cases h4 : 4 ≤ P.length
   ·have hSR := he.sim' hs hS (by simp at hl ⊢; omega)
    exact ih _ (by omega) _ rfl hSR (hi.mono (fun x hx => (h1.mem x).mpr (.inr hx))) s (hK h4 a _ h1 he) z (fun x hx => gz x ((h1.mem x).mpr (.inr hx))) (fun x hx y hy => gT x ((h1.mem x).mpr (.inr hx)) y ((h1.mem y).mpr (.inr hy)))
   ·have : M = [] := by cases M with
     | nil => rfl
     | cons m M => simp at hl; omega
    subst this
    simp only [List.nil_append]; rw [Wd_two0]; omega
  omega

def sc (K : Int) (p : Pt) : Pt := (K * p.1, K * p.2)
theorem T_sc (K : Int) (a b c : Pt) : T (sc K a) (sc K b) (sc K c) = K * K * T a b c := by unfold T sc; grind
theorem ht_sc (K N : Int) (a : Pt) : ht N (sc K a) = K * ht N a := by unfold ht aff sc; grind
theorem bt_sc {K a b c : Int} (hK : 0 < K) (h : Bt (K * a) (K * b) (K * c)) : Bt a b c := by
 unfold Bt at *
 rcases h with ⟨h1, h2⟩ | ⟨h1, h2⟩
 ·exact .inl ⟨Int.le_of_mul_le_mul_left h1 hK, Int.le_of_mul_le_mul_left h2 hK⟩
 ·exact .inr ⟨Int.le_of_mul_le_mul_left h1 hK, Int.le_of_mul_le_mul_left h2 hK⟩
theorem on_sc {K : Int} (hK : 0 < K) {a b p : Pt} (h : On (sc K a) (sc K b) (sc K p)) : On a b p := by
 obtain ⟨h0, h1, h2⟩ := h
 rw [T_sc] at h0
 refine ⟨?_, bt_sc hK h1, bt_sc hK h2⟩
 rcases Int.mul_eq_zero.mp h0 with k | k
 ·have := mpp hK hK; omega
 ·exact k
theorem opp_sc {K x y : Int} (hK : 0 < K) (h : opp (K * K * x) (K * K * y)) : opp x y := by
 have k := mpp hK hK
 unfold opp at *
 rcases h with ⟨h1, h2⟩ | ⟨h1, h2⟩
 ·exact .inl ⟨ng (c := K * K) k (by rw [Int.mul_comm]; exact h1), ps (c := K * K) k (by rw [Int.mul_comm]; exact h2)⟩
 ·exact .inr ⟨ps (c := K * K) k (by rw [Int.mul_comm]; exact h1), ng (c := K * K) k (by rw [Int.mul_comm]; exact h2)⟩
theorem dis_sc {K : Int} (hK : 0 < K) {a b c d : Pt} (h : Dis a b c d) : Dis (sc K a) (sc K b) (sc K c) (sc K d) :=
 ⟨fun o => h.1 (on_sc hK o), fun o => h.2.1 (on_sc hK o), fun o => h.2.2.1 (on_sc hK o), fun o => h.2.2.2.1 (on_sc hK o), fun o => h.2.2.2.2 ⟨by have := o.1; rw [T_sc, T_sc] at this; exact opp_sc hK this, by have := o.2; rw [T_sc, T_sc] at this; exact opp_sc hK this⟩⟩
theorem ed_map (f : Pt → Pt) : ∀ l : List Pt, ed (l.map f) = (ed l).map (fun e => (f e.1, f e.2))
 | [] => rfl
 | [_] => rfl
 | a :: b :: r => by
  have := ed_map f (b :: r)
  simp only [List.map_cons] at this ⊢
  rw [ed, ed, this]; rfl
theorem cyc_map (f : Pt → Pt) (l : List Pt) : cyc (l.map f) = (cyc l).map (fun e => (f e.1, f e.2)) := by
 cases l with
 | nil => rfl
 | cons a r =>
  have := ed_map f ((a :: r) ++ [a])
  simp only [List.map_cons, List.map_append, List.map_nil] at this ⊢
  rw [cyc, cyc]; exact this
theorem Sim.sc {K : Int} (hK : 0 < K) {P : List Pt} (h : Sim P) : Sim (P.map (sc K)) where
 len := by rw [List.length_map]; exact h.len
 nd := by
  refine List.Pairwise.map _ (fun a b n e => n ?_) h.nd
  have e1 := congrArg Prod.fst e; have e2 := congrArg Prod.snd e
  exact Prod.ext (Int.eq_of_mul_eq_mul_left (by omega) e1) (Int.eq_of_mul_eq_mul_left (by omega) e2)
 na e he f hf n1 n2 n3 := by
  rw [cyc_map, List.mem_map] at he hf
  obtain ⟨e', he, rfl⟩ := he; obtain ⟨f', hf, rfl⟩ := hf
  exact dis_sc hK (h.na e' he f' hf (fun k => n1 (by simp only; rw [k])) (fun k => n2 (by simp only; rw [k])) (fun k => n3 (by rw [k])))
 ad e he f hf n1 := by
  rw [cyc_map, List.mem_map] at he hf
  obtain ⟨e', he, rfl⟩ := he; obtain ⟨f', hf, rfl⟩ := hf
  simp only at n1
  have e1 := congrArg Prod.fst n1; have e2 := congrArg Prod.snd n1
  have := h.ad e' he f' hf (Prod.ext (Int.eq_of_mul_eq_mul_left (by omega) e1) (Int.eq_of_mul_eq_mul_left (by omega) e2))
  exact ⟨fun o => this.1 (on_sc hK o), fun o => this.2 (on_sc hK o)⟩
theorem Inj.sc {K N : Int} (hK : 0 < K) {P : List Pt} (h : Inj N P) : Inj N (P.map (sc K)) := by
 intro x hx y hy e
 rw [List.mem_map] at hx hy
 obtain ⟨x', hx, rfl⟩ := hx; obtain ⟨y', hy, rfl⟩ := hy
 rw [ht_sc, ht_sc] at e
 rw [h x' hx y' hy (Int.eq_of_mul_eq_mul_left (by omega) e)]
theorem Ori.sc {K N s : Int} (hK : 0 < K) {P : List Pt} (h : Ori N s P) : Ori N s (P.map (sc K)) := by
 obtain ⟨hs, b, v, M, u, ⟨A, B, e1, e2⟩, low, hD⟩ := h
 refine ⟨hs, Geo.sc K b, Geo.sc K v, M.map (Geo.sc K), Geo.sc K u, ⟨A.map (Geo.sc K), B.map (Geo.sc K), by rw [e1]; simp, by rw [← List.map_append, ← e2]; simp⟩, ?_, ?_⟩
 ·intro q hq
  have : q ∈ (v :: (M ++ [u])).map (Geo.sc K) := by simpa using hq
  rw [List.mem_map] at this
  obtain ⟨q', hq', rfl⟩ := this
  rw [ht_sc, ht_sc]; exact Int.mul_lt_mul_of_pos_left (low q' hq') hK
 ·rw [T_sc]
  have := mpp (mpp hK hK) hD
  have e : s * (K * K * T u b v) = K * K * (s * T u b v) := by grind
  omega
theorem pw_map {N X : Int} (f : Pt → Pt) (z z' : Pt) : ∀ l : List Pt, (∀ e ∈ ed l, w N X e.1 e.2 z = w N 0 (f e.1) (f e.2) z') → pw N X l z = pw N 0 (l.map f) z'
 | [], _ => rfl
 | [_], _ => rfl
 | a :: b :: r, h => by
  have ih := pw_map f z z' (b :: r) (fun e he => h e (by rw [ed]; exact List.mem_cons_of_mem _ he))
  have h0 := h (a, b) (by rw [ed]; simp)
  simp only [List.map_cons] at ih ⊢
  rw [pw_two, pw_two, ih, ← h0]
theorem Wd_map {N X : Int} (f : Pt → Pt) (z z' : Pt) (l : List Pt) (h : ∀ e ∈ cyc l, w N X e.1 e.2 z = w N 0 (f e.1) (f e.2) z') : Wd N X l z = Wd N 0 (l.map f) z' := by
 cases l with
 | nil => rfl
 | cons a r =>
  have := pw_map f z z' ((a :: r) ++ [a]) h
  simp only [List.map_cons, List.map_append, List.map_nil] at this ⊢
  exact this

theorem pert {N X B H K m g : Int} (hX : X = 0 ∧ g = 1 ∨ X = 1 ∧ g = -1) (hB : 0 ≤ B) (hH : 0 ≤ H) (hm : m = 2 * B + 1) (hK : K = m * (2 * H) + 2 * B + 2) {a b z : Pt}
  (b1 : -B ≤ a.2 ∧ a.2 ≤ B) (b2 : -B ≤ b.2 ∧ b.2 ≤ B) (b3 : -H ≤ ht N a ∧ ht N a ≤ H) (b4 : -H ≤ ht N b ∧ ht N b ≤ H) (hab : ht N a ≠ ht N b) :
  w N X a b z = w N 0 (sc K a) (sc K b) (K * z.1 + m * g * N - 1, K * z.2 + m * g) ∧ T (sc K a) (sc K b) (K * z.1 + m * g * N - 1, K * z.2 + m * g) ≠ 0 := by
 obtain ⟨z', hz'⟩ : ∃ z' : Pt, z' = (K * z.1 + m * g * N - 1, K * z.2 + m * g) := ⟨_, rfl⟩
 rw [← hz']
 have h0 := mzz (show 0 ≤ m by omega) (show 0 ≤ 2 * H by omega)
 have hK2 : 2 ≤ K := by omega
 have hz : ht N z' = K * ht N z + 1 := by rw [hz']; unfold ht aff; grind
 have hT : ∀ x y : Pt, T (sc K x) (sc K y) z' = K * (K * T x y z - m * g * (ht N y - ht N x) + (y.2 - x.2)) := by
  intro x y; rw [hz']; unfold T sc ht aff; grind
 have key : ∀ x y : Pt, -B ≤ x.2 ∧ x.2 ≤ B → -B ≤ y.2 ∧ y.2 ≤ B → -H ≤ ht N x ∧ ht N x ≤ H → -H ≤ ht N y ∧ ht N y ≤ H → ht N x < ht N y →
   T (sc K x) (sc K y) z' ≠ 0 ∧ (0 < T (sc K x) (sc K y) z' ↔ 0 < T x y z + X) := by
  intro x y c1 c2 c3 c4 hxy
  rw [hT x y]
  have p1 := mzz (show 0 ≤ m by omega) (show 0 ≤ 2 * H - (ht N y - ht N x) by omega)
  rw [Int.mul_sub] at p1
  have p2 := mzz (show 0 ≤ m by omega) (show 0 ≤ (ht N y - ht N x) - 1 by omega)
  rw [Int.mul_sub] at p2
  generalize ht N y - ht N x = d at *
  have hg : m * g * d = g * (m * d) := by grind
  rw [hg]
  generalize m * d = e at *
  have tri : T x y z < 0 ∨ T x y z = 0 ∨ 0 < T x y z := by omega
  have E : K * T x y z - g * e + (y.2 - x.2) ≠ 0 ∧ (0 < K * T x y z - g * e + (y.2 - x.2) ↔ 0 < T x y z + X) := by
   rcases tri with t | t | t
   ·have q := mzn (show 0 ≤ K by omega) (show T x y z + 1 ≤ 0 by omega)
    rw [Int.mul_add, Int.mul_one] at q
    rcases hX with ⟨rfl, rfl⟩ | ⟨rfl, rfl⟩ <;> omega
   ·rw [t, Int.mul_zero]
    rcases hX with ⟨rfl, rfl⟩ | ⟨rfl, rfl⟩ <;> omega
   ·have q := mzz (show 0 ≤ K by omega) (show 0 ≤ T x y z - 1 by omega)
    rw [Int.mul_sub, Int.mul_one] at q
    rcases hX with ⟨rfl, rfl⟩ | ⟨rfl, rfl⟩ <;> omega
  refine ⟨Int.mul_ne_zero (by omega) E.1, ?_⟩
  rw [← E.2]
  constructor
  ·intro h; exact ps (c := K) (by omega) (by rw [Int.mul_comm]; exact h)
  ·intro h; exact mpp (by omega) h
 have hle : ∀ x : Pt, (ht N (sc K x) ≤ ht N z' ↔ ht N x ≤ ht N z) ∧ (ht N z' < ht N (sc K x) ↔ ht N z < ht N x) := by
  intro x
  rw [hz, ht_sc]
  have e : K * ht N x - K * ht N z = K * (ht N x - ht N z) := by rw [Int.mul_sub]
  by_cases c : ht N x ≤ ht N z
  ·have := mzn (show 0 ≤ K by omega) (show ht N x - ht N z ≤ 0 by omega)
   constructor <;> constructor <;> intro h <;> omega
  ·have := mzz (show 0 ≤ K by omega) (show 0 ≤ ht N x - ht N z - 1 by omega)
   rw [Int.mul_sub K _ 1, Int.mul_one] at this
   constructor <;> constructor <;> intro h <;> omega
 rcases Int.lt_or_gt_of_ne hab with h | h
 ·have k := key a b b1 b2 b3 b4 h
  refine ⟨?_, k.1⟩
  unfold w
  have c1 : (ht N a ≤ ht N z ∧ ht N z < ht N b ∧ 0 < T a b z + X) ↔ (ht N (sc K a) ≤ ht N z' ∧ ht N z' < ht N (sc K b) ∧ 0 < T (sc K a) (sc K b) z' + 0) := by
   rw [(hle a).1, (hle b).2, Int.add_zero, k.2]
  have c2 : ¬ (ht N b ≤ ht N z ∧ ht N z < ht N a ∧ 0 < T b a z + X) := by omega
  have c3 : ¬ (ht N (sc K b) ≤ ht N z' ∧ ht N z' < ht N (sc K a) ∧ 0 < T (sc K b) (sc K a) z' + 0) := by rw [(hle b).1, (hle a).2]; omega
  rw [if_neg c2, if_neg c3]
  by_cases c : ht N a ≤ ht N z ∧ ht N z < ht N b ∧ 0 < T a b z + X
  ·rw [if_pos c, if_pos (c1.mp c)]
  ·rw [if_neg c, if_neg (fun c' => c (c1.mpr c'))]
 ·have k := key b a b2 b1 b4 b3 h
  refine ⟨?_, by rw [T_swap]; have := k.1; omega⟩
  unfold w
  have c1 : (ht N b ≤ ht N z ∧ ht N z < ht N a ∧ 0 < T b a z + X) ↔ (ht N (sc K b) ≤ ht N z' ∧ ht N z' < ht N (sc K a) ∧ 0 < T (sc K b) (sc K a) z' + 0) := by
   rw [(hle b).1, (hle a).2, Int.add_zero, k.2]
  have c2 : ¬ (ht N a ≤ ht N z ∧ ht N z < ht N b ∧ 0 < T a b z + X) := by omega
  have c3 : ¬ (ht N (sc K a) ≤ ht N z' ∧ ht N z' < ht N (sc K b) ∧ 0 < T (sc K a) (sc K b) z' + 0) := by rw [(hle a).1, (hle b).2]; omega
  rw [if_neg c2, if_neg c3]
  by_cases c : ht N b ≤ ht N z ∧ ht N z < ht N a ∧ 0 < T b a z + X
  ·rw [if_pos c, if_pos (c1.mp c)]
  ·rw [if_neg c, if_neg (fun c' => c (c1.mpr c'))]
theorem bound_ex (f : Pt → Int) : ∀ P : List Pt, ∃ B : Int, 0 ≤ B ∧ ∀ p ∈ P, -B ≤ f p ∧ f p ≤ B
 | [] => ⟨0, by omega, by simp⟩
 | a :: r => by
  obtain ⟨B, h0, h⟩ := bound_ex f r
  refine ⟨B + (f a).natAbs, by omega, fun p hp => ?_⟩
  rw [List.mem_cons] at hp
  rcases hp with rfl | hp
  ·omega
  ·have := h p hp; omega
theorem one {N X s : Int} (hX : X = 0 ∨ X = 1) {P : List Pt} (hP : Sim P) (hi : Inj N P) (ho : Ori N s P) (z : Pt) : s * Wd N X P z ≤ 1 := by
 obtain ⟨B, hB, bB⟩ := bound_ex (fun p => p.2) P
 obtain ⟨H, hH, bH⟩ := bound_ex (fun p => ht N p) P
 obtain ⟨g, hg⟩ : ∃ g : Int, X = 0 ∧ g = 1 ∨ X = 1 ∧ g = -1 := by
  rcases hX with rfl | rfl
  ·exact ⟨1, .inl ⟨rfl, rfl⟩⟩
  ·exact ⟨-1, .inr ⟨rfl, rfl⟩⟩
 obtain ⟨m, hm⟩ : ∃ m, m = 2 * B + 1 := ⟨_, rfl⟩
 obtain ⟨K, hK⟩ : ∃ K, K = m * (2 * H) + 2 * B + 2 := ⟨_, rfl⟩
 have h0 := mzz (show 0 ≤ m by omega) (show 0 ≤ 2 * H by omega)
 have hKp : 0 < K := by omega
 have P2 : ∀ a ∈ P, ∀ b ∈ P, a ≠ b → _ := fun a ha b hb n => pert (X := X) (K := K) (m := m) (g := g) (z := z) hg hB hH hm hK (bB a ha) (bB b hb) (bH a ha) (bH b hb) (hi.ne ha hb n)
 have ndiff : ∀ e ∈ cyc P, e.1 ≠ e.2 := by
  intro e he k
  have := (hP.ad e he e he k.symm).2
  exact this (on_right _ _)
 have e := Wd_map (N := N) (X := X) (sc K) z (K * z.1 + m * g * N - 1, K * z.2 + m * g) P (fun e he => (P2 e.1 (cyc_mem _ e he).1 e.2 (cyc_mem _ e he).2 (ndiff e he)).1)
 rw [e]
 refine gen_one (.inl rfl) _ _ rfl (hP.sc hKp) (hi.sc hKp) s (ho.sc hKp) _ ?_ ?_
 ·intro x hx
  rw [List.mem_map] at hx
  obtain ⟨x', hx', rfl⟩ := hx
  rw [ht_sc]
  have hz : ht N (K * z.1 + m * g * N - 1, K * z.2 + m * g) = K * ht N z + 1 := by unfold ht aff; grind
  rw [hz]; intro c
  have c2 : K * (ht N x' - ht N z) = 1 := by rw [Int.mul_sub]; omega
  by_cases t : ht N x' - ht N z ≤ 0
  ·have := mzn (Int.le_of_lt hKp) t; omega
  ·have := mzz (show 0 ≤ K by omega) (show 0 ≤ ht N x' - ht N z - 1 by omega)
   rw [Int.mul_sub K _ 1, Int.mul_one] at this; omega
 ·intro x hx y hy n
  rw [List.mem_map] at hx hy
  obtain ⟨x', hx', rfl⟩ := hx; obtain ⟨y', hy', rfl⟩ := hy
  exact (P2 x' hx' y' hy' (fun k => n (by rw [k]))).2

theorem ht_lt {N B : Int} (hN : 2 * B < N) {p q : Pt} (hp : -B ≤ p.1 ∧ p.1 ≤ B) (hq : -B ≤ q.1 ∧ q.1 ≤ B) : ht N p < ht N q ↔ p.2 < q.2 ∨ p.2 = q.2 ∧ q.1 < p.1 := by
 have e : ht N q - ht N p = N * (q.2 - p.2) - (q.1 - p.1) := by unfold ht aff; grind
 rcases Int.lt_trichotomy p.2 q.2 with h | h | h
 ·have := mzz (show 0 ≤ N by omega) (show 0 ≤ q.2 - p.2 - 1 by omega)
  rw [Int.mul_sub N _ 1, Int.mul_one] at this
  constructor
  ·intro _; exact .inl h
  ·intro _; omega
 ·have e2 : N * (q.2 - p.2) = 0 := by rw [h, Int.sub_self, Int.mul_zero]
  constructor
  ·intro k; exact .inr ⟨h, by omega⟩
  ·rintro (k | k) <;> omega
 ·have := mzn (show 0 ≤ N by omega) (show q.2 - p.2 + 1 ≤ 0 by omega)
  rw [Int.mul_add, Int.mul_one] at this
  constructor
  ·intro k; omega
  ·rintro (k | k) <;> omega
def up (a b z : Pt) : Prop := a.2 ≤ z.2 ∧ z.2 < b.2 ∧ 0 < T a b z
theorem up_iff {N B : Int} (hN : 2 * B < N) {a b z : Pt} (ha : -B ≤ a.1 ∧ a.1 ≤ B) (hb : -B ≤ b.1 ∧ b.1 ≤ B) (hz : -B ≤ z.1 ∧ z.1 ≤ B) : (ht N a ≤ ht N z ∧ ht N z < ht N b ∧ 0 < T a b z) ↔ up a b z := by
 have h1 := ht_lt hN hz ha
 have h2 := ht_lt hN hz hb
 have eT : T a b z = (b.1 - a.1) * (z.2 - a.2) - (b.2 - a.2) * (z.1 - a.1) := rfl
 unfold up
 constructor
 ·rintro ⟨k1, k2, k3⟩
  have q2 := h2.mp k2
  have q1 : ¬ (z.2 < a.2 ∨ z.2 = a.2 ∧ a.1 < z.1) := fun c => by have := h1.mpr c; omega
  refine ⟨by omega, ?_, k3⟩
  rcases q2 with q | ⟨q, q'⟩
  ·exact q
  ·exfalso
   have e2 : T a b z = (b.2 - a.2) * (b.1 - z.1) := by rw [eT, q]; grind
   have := mzn (show 0 ≤ b.2 - a.2 by omega) (show b.1 - z.1 ≤ 0 by omega)
   omega
 ·rintro ⟨k1, k2, k3⟩
  refine ⟨?_, h2.mpr (.inl k2), k3⟩
  by_cases c : ht N z < ht N a
  ·exfalso
   rcases h1.mp c with q | ⟨q, q'⟩
   ·omega
   ·have e2 : T a b z = (b.2 - a.2) * (a.1 - z.1) := by rw [eT, q]; grind
    have := mzn (show 0 ≤ b.2 - a.2 by omega) (show a.1 - z.1 ≤ 0 by omega)
    omega
  ·omega
instance (a b z : Pt) : Decidable (up a b z) := by unfold up; infer_instance
def xr (a b z : Pt) : Bool := decide (up a b z ∨ up b a z)
theorem w_xr {N B : Int} (hN : 2 * B < N) {a b z : Pt} (ha : -B ≤ a.1 ∧ a.1 ≤ B) (hb : -B ≤ b.1 ∧ b.1 ≤ B) (hz : -B ≤ z.1 ∧ z.1 ≤ B) : w N 0 a b z % 2 = if xr a b z = true then 1 else 0 := by
 have h1 := up_iff hN ha hb hz
 have h2 := up_iff hN hb ha hz
 unfold w xr
 simp only [Int.add_zero, h1, h2, decide_eq_true_eq]
 by_cases c1 : up a b z
 ·rw [if_pos c1, if_pos (.inl c1)]; rfl
 ·rw [if_neg c1]
  by_cases c2 : up b a z
  ·rw [if_pos c2, if_pos (.inr c2)]; rfl
  ·rw [if_neg c2, if_neg (fun c => c.elim c1 c2)]; rfl
theorem w_off {N : Int} {a b z : Pt} (h : ¬ On a b z) : w N 0 a b z = w N 1 a b z := by
 have s := T_swap a b z
 have key : ht N a ≤ ht N z → ht N z < ht N b → T a b z ≠ 0 := fun k1 k2 e => h (on_of (-1) N 0 e (show ht N a < ht N b by omega) k1 (Int.le_of_lt k2))
 have key2 : ht N b ≤ ht N z → ht N z < ht N a → T a b z ≠ 0 := fun k1 k2 e => h (on_of' (-1) N 0 e (show ht N b < ht N a by omega) k1 (Int.le_of_lt k2))
 have c0 := w_cases (N := N) (.inl rfl) a b z
 have c1 := w_cases (N := N) (.inr rfl) a b z
 rcases c0 with ⟨p1, p2, e0⟩ | ⟨p1, p2, e0⟩ | ⟨p1, e0⟩ <;> rcases c1 with ⟨q1, q2, e1⟩ | ⟨q1, q2, e1⟩ | ⟨q1, e1⟩ <;> (try omega) <;> rw [e0, e1]
theorem pw_off {N : Int} {z : Pt} : ∀ l : List Pt, (∀ e ∈ ed l, ¬ On e.1 e.2 z) → pw N 0 l z = pw N 1 l z
 | [], _ => rfl
 | [_], _ => rfl
 | a :: b :: r, h => by
  rw [pw_two, pw_two, w_off (h (a, b) (by rw [ed]; simp)), pw_off (b :: r) (fun e he => h e (by rw [ed]; exact List.mem_cons_of_mem _ he))]
theorem Wd_off {N : Int} {z : Pt} (l : List Pt) (h : ∀ e ∈ cyc l, ¬ On e.1 e.2 z) : Wd N 0 l z = Wd N 1 l z := by
 cases l with
 | nil => rfl
 | cons a r => exact pw_off _ h

def Cl (N : Int) (L : List Pt) (z : Pt) : Prop := (∃ e ∈ cyc L, On e.1 e.2 z) ∨ Wd N 0 L z ≠ 0
def tl (t : Pt × Pt × Pt) : List Pt := [t.1, t.2.1, t.2.2]
theorem cyc_tl (t : Pt × Pt × Pt) : cyc (tl t) = [(t.1, t.2.1), (t.2.1, t.2.2), (t.2.2, t.1)] := rfl
theorem on_InT1 {s : Int} {u b v q : Pt} (hD : 0 < s * T u b v) (ho : On u b q) : InT s u b v q := by
 have b1 := ho.btT s b v
 have b2 := ho.btT s v u
 rw [T_aba] at b1
 rw [T_abb] at b2
 have e1 : s * T b v u = s * T u b v := by rw [T_cyc]
 have e2 : s * T v u b = s * T u b v := by rw [T_cyc2]
 unfold Bt at b1 b2
 refine ⟨by rw [ho.1]; omega, by omega, by omega⟩
theorem InT_cyc {s : Int} {u b v q : Pt} (h : InT s b v u q) : InT s u b v q := ⟨h.2.2, h.1, h.2.1⟩
theorem cl_InT {s : Int} {t : Pt × Pt × Pt} {z : Pt} (hD : 0 < s * T t.1 t.2.1 t.2.2) {e : Pt × Pt} (he : e ∈ cyc (tl t)) (ho : On e.1 e.2 z) : InT s t.1 t.2.1 t.2.2 z := by
 rw [cyc_tl] at he
 simp only [List.mem_cons, List.not_mem_nil, or_false] at he
 rcases he with rfl | rfl | rfl
 ·exact on_InT1 hD ho
 ·exact InT_cyc (on_InT1 (by rw [T_cyc]; exact hD) ho)
 ·exact InT_cyc (InT_cyc (on_InT1 (by rw [T_cyc2]; exact hD) ho))
theorem sumW_ge {N X s : Int} (hX : X = 0 ∨ X = 1) (hs : s = 1 ∨ s = -1) {z : Pt} : ∀ ts : List (Pt × Pt × Pt), (∀ t ∈ ts, 0 < s * T t.1 t.2.1 t.2.2) → 0 ≤ s * sumW N X z ts ∧ ∀ t ∈ ts, s * Wd N X (tl t) z ≤ s * sumW N X z ts
 | [], _ => by simp [sumW]
 | t :: ts, h => by
  have ih := sumW_ge (N := N) hX hs (z := z) ts (fun q hq => h q (List.mem_cons_of_mem _ hq))
  have w0 := triW (N := N) hX hs (h t (by simp)) z
  have e : s * sumW N X z (t :: ts) = s * Wd N X (tl t) z + s * sumW N X z ts := by rw [← Int.mul_add]; rfl
  have w1 : 0 ≤ s * Wd N X (tl t) z := w0.1
  refine ⟨by omega, fun q hq => ?_⟩
  rw [List.mem_cons] at hq
  rcases hq with rfl | hq
  ·omega
  ·have := ih.2 q hq; omega
theorem sumW_ne {N X : Int} {z : Pt} : ∀ ts : List (Pt × Pt × Pt), sumW N X z ts ≠ 0 → ∃ t ∈ ts, Wd N X (tl t) z ≠ 0
 | [], h => absurd rfl h
 | t :: ts, h => by
  by_cases c : Wd N X (tl t) z = 0
  ·have : sumW N X z ts ≠ 0 := fun k => h (by rw [sumW, k]; show Wd N X (tl t) z + 0 = 0; omega)
   obtain ⟨q, hq, hw⟩ := sumW_ne ts this
   exact ⟨q, List.mem_cons_of_mem _ hq, hw⟩
  ·exact ⟨t, by simp, c⟩
theorem isd_side {x y : Pt} {t : Pt × Pt × Pt} (h : isd x y t ≠ 0) : (x, y) ∈ cyc (tl t) := by
 rw [cyc_tl]
 unfold isd at h
 simp only [List.mem_cons, List.not_mem_nil, or_false, Prod.mk.injEq]
 by_cases c1 : x = t.1 ∧ y = t.2.1
 ·exact .inl c1
 ·by_cases c2 : x = t.2.1 ∧ y = t.2.2
  ·exact .inr (.inl c2)
  ·by_cases c3 : x = t.2.2 ∧ y = t.1
   ·exact .inr (.inr c3)
   ·rw [if_neg c1, if_neg c2, if_neg c3] at h; exact absurd rfl h
theorem sd_side {x y : Pt} : ∀ ts : List (Pt × Pt × Pt), sd x y ts ≠ 0 → ∃ t ∈ ts, (x, y) ∈ cyc (tl t)
 | [], h => absurd rfl h
 | t :: ts, h => by
  by_cases c : isd x y t = 0
  ·have : sd x y ts ≠ 0 := fun k => h (by rw [sd, c, k]; rfl)
   obtain ⟨q, hq, hw⟩ := sd_side ts this
   exact ⟨q, List.mem_cons_of_mem _ hq, hw⟩
  ·exact ⟨t, by simp, isd_side c⟩
theorem tiles_cl {N s : Int} {P : List Pt} {ts : List (Pt × Pt × Pt)} (hG : Good N s P) (hE : ES s P ts) {z : Pt} (hz : Inj N (z :: P)) : (∃ t ∈ ts, Cl N (tl t) z) ↔ Cl N P z := by
 have hs := hG.sgn
 have hpos := hE.pos
 constructor
 ·rintro ⟨t, htm, hc⟩
  have hm := hE.mem t htm
  by_cases hon : ∃ e ∈ cyc P, On e.1 e.2 z
  ·exact .inl hon
  ·right
   have hoff := Wd_off (N := N) P (fun e he ho => hon ⟨e, he, ho⟩)
   have big : ∀ X, X = 0 ∨ X = 1 → s * Wd N X (tl t) z = 1 → Wd N 0 P z ≠ 0 := by
    intro X hX h1 h0
    have g := (sumW_ge (N := N) hX hs (z := z) ts hpos).2 t htm
    rw [hE.wd] at g
    have : Wd N X P z = 0 := by
     rcases hX with rfl | rfl
     ·exact h0
     ·rw [← hoff]; exact h0
    rw [this, Int.mul_zero] at g; omega
   rcases hc with ⟨e, he, ho⟩ | hw
   ·have hin := cl_InT (hpos t htm) he ho
    have nv : ∀ x ∈ P, x ≠ z := by
     rintro x hx rfl
     obtain ⟨y, hy⟩ := cyc_from P x hx
     exact hon ⟨_, hy, on_left _ _⟩
    have nh : ∀ x ∈ P, ht N z ≠ ht N x := fun x hx => hz.ne (by simp) (List.mem_cons_of_mem _ hx) (nv x hx).symm
    obtain ⟨X, hX, h1⟩ := triIn (N := N) hs (hpos t htm) hin (nh _ hm.1) (nh _ hm.2.1) (nh _ hm.2.2)
    exact big X hX h1
   ·have w0 := triW (N := N) (.inl rfl) hs (hpos t htm) z
    refine big 0 (.inl rfl) ?_
    have : s * Wd N 0 (tl t) z ≠ 0 := Int.mul_ne_zero (by omega) hw
    have w1 : 0 ≤ s * Wd N 0 (tl t) z ∧ s * Wd N 0 (tl t) z ≤ 1 := w0
    omega
 ·rintro (⟨e, he, ho⟩ | hw)
  ·have sides := (hE.sides hG.sim.nd hG.sim.len).1 e he
   obtain ⟨t, ht, hm⟩ := sd_side ts (x := e.1) (y := e.2) (by rw [sides.1]; decide)
   exact ⟨t, ht, .inl ⟨e, hm, ho⟩⟩
  ·rw [← hE.wd] at hw
   obtain ⟨t, ht, h⟩ := sumW_ne ts hw
   exact ⟨t, ht, .inr h⟩
def cntW (N : Int) (z : Pt) : List (Pt × Pt × Pt) → Int
 | [] => 0
 | t :: ts => (if Wd N 0 (tl t) z ≠ 0 then 1 else 0) + cntW N z ts
theorem cntW_le {N s : Int} (hs : s = 1 ∨ s = -1) {z : Pt} : ∀ ts : List (Pt × Pt × Pt), (∀ t ∈ ts, 0 < s * T t.1 t.2.1 t.2.2) → cntW N z ts = s * sumW N 0 z ts
 | [], _ => by simp [sumW, cntW]
 | t :: ts, h => by
  have ih := cntW_le (N := N) hs (z := z) ts (fun q hq => h q (List.mem_cons_of_mem _ hq))
  have w0 := triW (N := N) (.inl rfl) hs (h t (by simp)) z
  have e : s * sumW N 0 z (t :: ts) = s * Wd N 0 (tl t) z + s * sumW N 0 z ts := by rw [← Int.mul_add]; rfl
  have w1 : 0 ≤ s * Wd N 0 (tl t) z ∧ s * Wd N 0 (tl t) z ≤ 1 := w0
  rw [cntW, ih, e]
  by_cases c : Wd N 0 (tl t) z = 0
  ·rw [if_neg (fun k => k c), c, Int.mul_zero]
  ·rw [if_pos c]
   have : s * Wd N 0 (tl t) z ≠ 0 := Int.mul_ne_zero (by omega) c
   omega
theorem tiles_one {N s : Int} {P : List Pt} {ts : List (Pt × Pt × Pt)} (hG : Good N s P) (hE : ES s P ts) (z : Pt) : cntW N z ts ≤ 1 := by
 rw [cntW_le hG.sgn ts hE.pos, hE.wd]
 exact one (.inl rfl) hG.sim hG.inj hG.ori z
end Go.Proofs.Ythaklbjcjoolcaa.Geo
