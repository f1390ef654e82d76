/- Proved here: what functions that the law reaches compute, and plain laws of that. No conditions but those that the theorems state. -/
import Derived.Test.YtppelnlocfcgfaaCFindCommon2
import Derived.Test.YtppelnlocfcgfaaCFindCommon1
import Derived.Test.YtppelnlocfcgfaaB4
set_option linter.unusedVariables false
set_option linter.unusedSimpArgs false
namespace Go.Proofs.Ytppelnlocfcgfaa.P
open Go.RowKit Go.Proofs.YtppelnlocfcgfaaW.PrintWords Go.Proofs.YtppelnlocfcgfaaW.PrintLast Go.Proofs.YtppelnlocfcgfaaW.PrintMore
open Go.Proofs.Fnd
theorem find_is (t p : ByteArray) (ht : t.size ≤ 4096) (hp : p.size ≤ 140737488351232) : find_Index_Find.f t (ordI t) (overI t) p = some (nI (occL t.data.toList p.data.toList t.data.toList.length)) := by
  unfold find_Index_Find.f
  rw [if_pos ⟨ht, hp, rfl⟩]; rfl
theorem rd_nI0 (l : List Nat) (j : Nat) (t : List Nat) (h : l = j :: t) : rd (nI l) 0 = (j : Int) ∧ 0 < (nI l).length := by
  subst h
  exact ⟨rfl, by simp [nI]⟩
theorem ext_piece (t : ByteArray) (a m : Nat) : (t.extract a (a + m)).data.toList = piece t.data.toList a m := by
  rw [extract_list, piece, Nat.add_sub_cancel_left]
theorem ext_small (a : ByteArray) (h : a.size ≤ 4096) (i j : Nat) : (a.extract i j).size ≤ 140737488351232 := by
  rw [ByteArray.size_extract]
  exact Nat.le_trans (Nat.sub_le _ _) (Nat.le_trans (Nat.min_le_right j a.size) (Nat.le_trans h (by decide)))
/-- what the program answers -/
def ComV (a b : ByteArray) (r : Int × Int × Int × Int) : Prop :=
  ∃ m f : Nat, InvP a.data.toList b.data.toList a.size m f ∧ ((m = 0 ∧ r = (0, 0, 0, 0)) ∨ (0 < m ∧ ∃ k, k < b.size ∧ KK a.data.toList b.data.toList f k = m ∧ (∀ k', k' < k → KK a.data.toList b.data.toList f k' < m) ∧ r = ((m : Int), (f : Int), (k : Int), 0)))
section
variable (a b : ByteArray) (ha : a.size ≤ 4096) (hb : b.size ≤ 4096)
include ha hb
theorem com_end (m f : Nat) (h : InvP a.data.toList b.data.toList a.size m f) (z : Int) : ∃ r, Ev (fun K => find_Common.l0 K a (m : Int) (f : Int) (a.size : Int) (a.size : Int) a (ordI a) (overI a) b (ordI b) (overI b)) r ∧ ComV a b r := by
  have la := data_length a
  have lb := data_length b
  by_cases h0 : m = 0
  · subst h0
    refine ⟨(0, 0, 0, 0), Ev.step (f := fun _ => some (0, 0, 0, 0)) (fun K => ?_) (Ev.now _), 0, f, h, Or.inl ⟨rfl, rfl⟩⟩
    rw [find_Common.l0, if_neg (by omega), if_pos (by omega)]
  · have h' := h
    rw [← la] at h'
    obtain ⟨hin, ⟨t1, e1⟩, k, hk, hK, hlt, t2, e2⟩ := com_places h' (by omega)
    refine ⟨((m : Int), (f : Int), (k : Int), 0), Ev.step (f := fun _ => some ((m : Int), (f : Int), (k : Int), 0)) (fun K => ?_) (Ev.now _), m, f, h, Or.inr ⟨by omega, k, by omega, hK, hlt, rfl⟩⟩
    have ew : wrap64 ((f : Int) + (m : Int)) = ((f + m : Nat) : Int) := by rw [w64 (by omega) (by omega)]; omega
    have ep := ext_piece a f m
    have f1 := find_is a (a.extract f (f + m)) ha (ext_small a ha _ _)
    have f2 := find_is b (a.extract f (f + m)) hb (ext_small a ha _ _)
    rw [ep] at f1 f2
    have r1 := rd_nI0 _ _ _ e1
    have r2 := rd_nI0 _ _ _ e2
    rw [find_Common.l0, if_neg (by omega), if_neg (by omega), if_pos (by omega), ew, if_pos (by omega), if_pos (by omega), Int.toNat_natCast, Int.toNat_natCast, f1, f2, Option.bind_some, if_pos (by omega), Option.bind_some, if_pos (by omega), r1.1, r2.1]
theorem com_row (i : Nat) (hi : i < a.size) (next : ∀ m f : Nat, InvP a.data.toList b.data.toList (i + 1) m f → ∃ r, Ev (fun K => find_Common.l0 K a (m : Int) (f : Int) (a.size : Int) ((i + 1 : Nat) : Int) a (ordI a) (overI a) b (ordI b) (overI b)) r ∧ ComV a b r) :
    ∀ (d m f : Nat), m + d = a.size → InvP a.data.toList b.data.toList i m f → ∃ r, Ev (fun K => find_Common.l1 K a (m : Int) (f : Int) (i : Int) (a.size : Int) (i : Int) a (ordI a) (overI a) b (ordI b) (overI b)) r ∧ ComV a b r := by
  have la := data_length a
  have lb := data_length b
  have stop : ∀ m f : Nat, m ≤ a.size → ¬ i + m < a.size → InvP a.data.toList b.data.toList i m f → ∃ r, Ev (fun K => find_Common.l1 K a (m : Int) (f : Int) (i : Int) (a.size : Int) (i : Int) a (ordI a) (overI a) b (ordI b) (overI b)) r ∧ ComV a b r := by
    intro m f hm hin h
    obtain ⟨r, hr, hv⟩ := next m f (h.next fun k hk q => by have := KK_le a.data.toList b.data.toList i k; omega)
    refine ⟨r, Ev.step (fun K => ?_) hr, hv⟩
    have e1 : wrap64 ((i : Int) + (m : Int)) = ((i + m : Nat) : Int) := by rw [w64 (by omega) (by omega)]; omega
    have c1 : ¬ ((i + m : Nat) : Int) < (a.size : Int) := by omega
    have e3 : wrap64 ((i : Int) + 1) = ((i + 1 : Nat) : Int) := by rw [w64 (by omega) (by omega)]; omega
    conv => lhs; unfold find_Common.l1
    rw [e1, if_neg c1, e3]
  intro d
  induction d with
  | zero =>
    intro m f hd h
    exact stop m f (by omega) (by omega) h
  | succ d ih =>
    intro m f hd h
    by_cases hin : i + m < a.size
    · have hil : i < a.data.toList.length := by omega
      have hd' : m + 1 + d = a.size := by omega
      have hL : i + (m + 1) ≤ a.data.toList.length := by omega
      have c1 : ((i + m : Nat) : Int) < (a.size : Int) := by omega
      have c2 : (0 : Int) ≤ (i : Int) := by omega
      have c3 : (i : Int) ≤ ((i + (m + 1) : Nat) : Int) := by omega
      have c4 : ((i + (m + 1) : Nat) : Int) ≤ (a.size : Int) := by omega
      have e1 : wrap64 ((i : Int) + (m : Int)) = ((i + m : Nat) : Int) := by rw [w64 (by omega) (by omega)]; omega
      have e2 : wrap64 (((i + m : Nat) : Int) + 1) = ((i + (m + 1) : Nat) : Int) := by
        clear e1
        rw [w64 (by omega) (by omega)]; omega
      have e3 : wrap64 ((i : Int) + 1) = ((i + 1 : Nat) : Int) := by
        clear e1 e2
        rw [w64 (by omega) (by omega)]; omega
      have e4 : wrap64 ((m : Int) + 1) = ((m + 1 : Nat) : Int) := by
        clear e1 e2 e3
        rw [w64 (by omega) (by omega)]; omega
      have hp := occ_pos a.data.toList b.data.toList (i := i) (L := m + 1) hL
      have hc := count_occ b (a.extract i (i + (m + 1))) hb (ext_small a ha _ _)
      rw [ext_piece] at hc
      generalize occN b.data.toList (piece a.data.toList i (m + 1)) = c at hc hp
      by_cases h0 : 0 < c
      · obtain ⟨k, hk, hmk⟩ := hp.1 h0
        obtain ⟨r, hr, hv⟩ := ih (m + 1) i hd' (h.longer hil hk hmk)
        refine ⟨r, Ev.step (fun K => ?_) hr, hv⟩
        conv => lhs; unfold find_Common.l1
        rw [e1, if_pos c1, if_pos c2, e2, if_pos c3, if_pos c4, Int.toNat_natCast, Int.toNat_natCast, hc, Option.bind_some, if_pos (show (c : Int) > 0 by omega), e4]
      · obtain ⟨r, hr, hv⟩ := next m f (h.next fun k hk q => h0 (hp.2 ⟨k, hk, q⟩))
        refine ⟨r, Ev.step (fun K => ?_) hr, hv⟩
        conv => lhs; unfold find_Common.l1
        rw [e1, if_pos c1, if_pos c2, e2, if_pos c3, if_pos c4, Int.toNat_natCast, Int.toNat_natCast, hc, Option.bind_some, if_neg (show ¬ (c : Int) > 0 by omega), e3]
    · exact stop m f (by omega) hin h
theorem com_all : ∀ (d i m f : Nat), i + d = a.size → InvP a.data.toList b.data.toList i m f → m ≤ a.size → ∃ r, Ev (fun K => find_Common.l0 K a (m : Int) (f : Int) (a.size : Int) (i : Int) a (ordI a) (overI a) b (ordI b) (overI b)) r ∧ ComV a b r
  | 0, i, m, f, hi, h, hm => by
    obtain rfl : i = a.size := by omega
    exact com_end a b ha hb m f h 0
  | d + 1, i, m, f, hi, h, hm => by
    have la := data_length a
    have lb := data_length b
    obtain ⟨r, hr, hv⟩ := com_row a b ha hb i (by omega) (fun m f h => com_all d (i + 1) m f (by omega) h (by
      rcases h.hit with ⟨h1, _⟩ | ⟨h1, h2, h3, ⟨k, hk, h4⟩, _⟩
      · omega
      · have := KK_le a.data.toList b.data.toList f k; omega)) (a.size - m) m f (by omega) h
    refine ⟨r, Ev.step (fun K => ?_) hr, hv⟩
    conv => lhs; unfold find_Common.l0
    rw [if_pos (by omega)]
theorem common_ev4 : ∃ r, Ev (fun K => find_Common.f K a b) r ∧ ComV a b r := by
  obtain ⟨r, hr, hv⟩ := com_all a b ha hb a.size 0 0 0 (by omega) (InvP.start _ _) (by omega)
  refine ⟨r, ?_, hv⟩
  unfold find_Common.f
  refine Ev.bind (find_New_ev a ha) (Ev.bind (find_New_ev b hb) (ev_pos rfl ?_))
  refine Ev.step (fun K => ?_) hr
  rw [find_Common.j0, if_neg (by simp)]
  rfl
theorem ref_row (i : Nat) (hi : i < a.size) (next : ∀ n x y : Nat, InvR a.data.toList b.data.toList (i + 1) 0 n x y → ∃ n' x' y' : Nat, Ev (fun K => silversideref07_Longest.l0 K a b (n : Int) (x : Int) (y : Int) ((i + 1 : Nat) : Int)) ((n' : Int), (x' : Int), (y' : Int)) ∧ InvR a.data.toList b.data.toList a.size 0 n' x' y') :
    ∀ (d k n x y : Nat), k + d = b.size → InvR a.data.toList b.data.toList i k n x y → ∃ n' x' y' : Nat, Ev (fun K => silversideref07_Longest.l1 K a b (n : Int) (x : Int) (y : Int) (i : Int) (k : Int)) ((n' : Int), (x' : Int), (y' : Int)) ∧ InvR a.data.toList b.data.toList a.size 0 n' x' y'
  | 0, k, n, x, y, hd, h => by
    have la := data_length a
    have lb := data_length b
    obtain rfl : k = b.size := by omega
    rw [← lb] at h
    obtain ⟨n', x', y', he, hr⟩ := next n x y h.next
    refine ⟨n', x', y', Ev.step (fun K => ?_) he, hr⟩
    conv => lhs; unfold silversideref07_Longest.l1
    rw [if_neg (by omega), w64 (x := (i : Int) + 1) (by omega) (by omega)]
    rfl
  | d + 1, k, n, x, y, hd, h => by
    have la := data_length a
    have lb := data_length b
    have hc := common_ev a b (by omega) (by omega) i k (by omega) (by omega)
    have hkk : cpl (a.data.toList.drop i) (b.data.toList.drop k) = KK a.data.toList b.data.toList i k := rfl
    rw [hkk] at hc
    have e3 : wrap64 ((k : Int) + 1) = ((k + 1 : Nat) : Int) := by rw [w64 (by omega) (by omega)]; omega
    by_cases hn : n < KK a.data.toList b.data.toList i k
    · obtain ⟨n', x', y', he, hr⟩ := ref_row i hi next d (k + 1) _ i k (by omega) (h.more (by omega) (by omega) hn)
      refine ⟨n', x', y', Ev.step (fun K => by rw [silversideref07_Longest.l1, if_pos (by omega), e3]) (Ev.bind hc (ev_pos (show ((KK a.data.toList b.data.toList i k : Nat) : Int) > (n : Int) by omega) he)), hr⟩
    · obtain ⟨n', x', y', he, hr⟩ := ref_row i hi next d (k + 1) n x y (by omega) (h.less hn)
      refine ⟨n', x', y', Ev.step (fun K => by rw [silversideref07_Longest.l1, if_pos (by omega), e3]) (Ev.bind hc (ev_neg (show ¬ ((KK a.data.toList b.data.toList i k : Nat) : Int) > (n : Int) by omega) he)), hr⟩
theorem ref_all : ∀ (d i n x y : Nat), i + d = a.size → InvR a.data.toList b.data.toList i 0 n x y → ∃ n' x' y' : Nat, Ev (fun K => silversideref07_Longest.l0 K a b (n : Int) (x : Int) (y : Int) (i : Int)) ((n' : Int), (x' : Int), (y' : Int)) ∧ InvR a.data.toList b.data.toList a.size 0 n' x' y'
  | 0, i, n, x, y, hi, h => by
    obtain rfl : i = a.size := by omega
    exact ⟨n, x, y, Ev.step (f := fun _ => some ((n : Int), (x : Int), (y : Int))) (fun K => by rw [silversideref07_Longest.l0, if_neg (by omega)]) (Ev.now _), h⟩
  | d + 1, i, n, x, y, hi, h => by
    obtain ⟨n', x', y', he, hr⟩ := ref_row a b ha hb i (by omega) (fun n x y h => ref_all d (i + 1) n x y (by omega) h) b.size 0 n x y (by omega) h
    refine ⟨n', x', y', Ev.step (fun K => ?_) he, hr⟩
    conv => lhs; unfold silversideref07_Longest.l0
    rw [if_pos (by omega)]
    rfl
theorem longest_ev : ∃ n x y : Nat, Ev (fun K => silversideref07_Longest.f K a b) ((n : Int), (x : Int), (y : Int)) ∧ InvR a.data.toList b.data.toList a.size 0 n x y :=
  ref_all a b ha hb a.size 0 0 0 0 (by omega) (InvR.start _ _)
omit ha hb in
/-- the two answers are one -/
theorem com_same {r : Int × Int × Int × Int} {n x y : Nat} (h : ComV a b r) (g : InvR a.data.toList b.data.toList a.size 0 n x y) : r = ((n : Int), (x : Int), (y : Int), 0) := by
  have la := data_length a
  have lb := data_length b
  obtain ⟨m, f, hi, hr⟩ := h
  rw [← la] at hi g
  obtain ⟨rfl, rfl⟩ := both_same hi g
  rcases hr with ⟨rfl, rfl⟩ | ⟨h0, k, hk, hK, hlt, rfl⟩
  · rcases g.hit with ⟨_, h2, rfl⟩ | ⟨h1, _⟩
    · rw [h2]; rfl
    · omega
  · rcases g.hit with ⟨h1, _⟩ | ⟨h1, h2, h3, h4, h5, h6, h7⟩
    · omega
    · have : k = y := by
        rcases Nat.lt_trichotomy k y with c | c | c
        · have := h7 k c; omega
        · exact c
        · have := hlt y c; omega
      rw [this]
end
end Go.Proofs.Ytppelnlocfcgfaa.P
namespace Go.Proofs.Ytppelnlocfcgfaa.Pure
open Go.RowKit Go.Proofs.Ytppelnlocfcgfaa.P Go.Proofs.YtppelnlocfcgfaaW.PrintWords Go.Proofs.YtppelnlocfcgfaaW.PrintLast
open Go.Proofs.Fnd
theorem new_long (t : ByteArray) (ht : 4096 < t.size) : Ev (fun k => find_New.f k t) ((⟨#[]⟩ : ByteArray), ([] : List Int), ([] : List Int), (2 : Int)) := by
  unfold find_New.f
  exact ev_pos (by omega) (Ev.now _)
theorem com_long (a b : ByteArray) (h : 4096 < a.size ∨ 4096 < b.size) : Ev (fun k => find_Common.f k a b) (0, 0, 0, 2) := by
  unfold find_Common.f
  by_cases h1 : 4096 < a.size
  · by_cases h2 : 4096 < b.size
    · exact Ev.bind (new_long a h1) (Ev.bind (new_long b h2) (ev_neg (by simp) (Ev.step (fun k => by rw [find_Common.j0, if_pos rfl]) (Ev.now _))))
    · exact Ev.bind (new_long a h1) (Ev.bind (find_New_ev b (by omega)) (ev_neg (by simp) (Ev.step (fun k => by rw [find_Common.j0, if_pos rfl]) (Ev.now _))))
  · exact Ev.bind (find_New_ev a (by omega)) (Ev.bind (new_long b (by omega)) (ev_pos rfl (Ev.step (fun k => by rw [find_Common.j0, if_pos (by simp)]) (Ev.now _))))
theorem FindCommon : silversidelaw07_FindCommon.Pure := by
  intro a0 a1 _ _
  obtain ⟨a, ha, hta⟩ := short_is a0 120 (by omega)
  obtain ⟨b, hb, htb⟩ := short_is a1 120 (by omega)
  refine Ev.rounds ?_
  unfold silversidelaw07_FindCommon.f
  rw [show ((120 : Nat) : Int) = 120 from rfl] at ha hb
  simp only [ha, hb, Option.bind_some]
  have bad : Ev (fun k => silversidelaw07_FindCommon.j0 k a b 0 0 0 2 true) true :=
    Ev.step (fun k => by rw [silversidelaw07_FindCommon.j0, if_pos rfl]) (ev_pos rfl (ev_pos rfl (ev_pos rfl (ev_pos rfl (Ev.bind awake_ev (Ev.now _))))))
  by_cases h1 : 4096 < a.size
  · exact Ev.bind (com_long a b (Or.inl h1)) (ev_pos (by omega) bad)
  · by_cases h2 : 4096 < b.size
    · refine Ev.bind (com_long a b (Or.inr h2)) (ev_neg (by omega) ?_)
      rw [decide_eq_true (show (b.size : Int) > 4096 by omega)]
      exact bad
    · obtain ⟨r, hr, hv⟩ := common_ev4 a b (by omega) (by omega)
      obtain ⟨n, x, y, hl, hi⟩ := longest_ev a b (by omega) (by omega)
      obtain rfl := com_same a b hv hi
      refine Ev.bind hr (ev_neg (by omega) ?_)
      rw [decide_eq_false (show ¬ (b.size : Int) > 4096 by omega)]
      exact Ev.step (fun k => by rw [silversidelaw07_FindCommon.j0, if_neg (by simp)]) (Ev.bind hl (ev_pos rfl (ev_pos rfl (ev_pos rfl (ev_pos rfl (Ev.bind awake_ev (Ev.now _)))))))
end Go.Proofs.Ytppelnlocfcgfaa.Pure
