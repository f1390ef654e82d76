/- Proved here: what functions that the law reaches compute, and plain laws of that. No conditions but those that the theorems state. -/
import Derived.Test.YtppelnlocfcgfaaB2
import Derived.Test.YtppelnlocfcgfaaB3
import Derived.Test.YtppelnlocfcgfaaB1
set_option linter.unusedVariables false
set_option linter.unusedSimpArgs false
namespace Go.Proofs.Ytppelnlocfcgfaa.P
open Go.RowKit Go.Proofs.YtppelnlocfcgfaaW.PrintWords Go.Proofs.YtppelnlocfcgfaaW.PrintLast Go.Proofs.YtppelnlocfcgfaaW.PrintMore
open Go.Proofs.Fnd
theorem turn_banana : find_Turn.f (⟨#[98, 97, 110, 97, 110, 97]⟩ : ByteArray) = some ((⟨#[97, 110, 110, 98, 97, 97]⟩ : ByteArray), 4, 0) := by
  unfold find_Turn.f bwt bmark
  rw [show (⟨#[98, 97, 110, 97, 110, 97]⟩ : ByteArray).data.toList = [98, 97, 110, 97, 110, 97] from rfl, sufOrd_banana]
  rw [if_neg (by decide), if_neg (by decide)]
  decide
theorem restore_banana : find_Restore.f (⟨#[97, 110, 110, 98, 97, 97]⟩ : ByteArray) 4 = some ((⟨#[98, 97, 110, 97, 110, 97]⟩ : ByteArray), 0) := by
  unfold find_Restore.f
  rw [if_neg (by decide), if_pos (by decide)]
  decide
theorem awake_ev : Ev (fun k => silversidelaw07_awake.f k) true := by
  unfold silversidelaw07_awake.f
  refine Ev.bind (find_New_ev _ (by decide)) ?_
  refine Ev.bind (repeat_ev _ (by decide)) ?_
  rw [repeat_banana, turn_banana, restore_banana]
  have e1 : (⟨#[97, 110, 97]⟩ : ByteArray).toList = [97, 110, 97] := by rw [ByteArray.toList_eq]
  have e2 : (⟨#[97, 110, 110, 98, 97, 97]⟩ : ByteArray).toList = [97, 110, 110, 98, 97, 97] := by rw [ByteArray.toList_eq]
  have e3 : (⟨#[98, 97, 110, 97, 110, 97]⟩ : ByteArray).toList = [98, 97, 110, 97, 110, 97] := by rw [ByteArray.toList_eq]
  have hd := distinct_ev (⟨#[98, 97, 110, 97, 110, 97]⟩ : ByteArray) (by decide)
  rw [distinct_banana] at hd
  simp only [Option.bind_some, e1, e2, e3, if_true]
  refine Ev.bind hd ?_
  simp only [if_true]
  exact Ev.now _
theorem ev_pos {α : Type} {c : Prop} [Decidable c] {f g : Nat → Option α} {r : α} (h : c) (k : Ev f r) : Ev (fun n => if c then f n else g n) r := Ev.congr (fun _ => if_pos h) k
theorem ev_neg {α : Type} {c : Prop} [Decidable c] {f g : Nat → Option α} {r : α} (h : ¬ c) (k : Ev g r) : Ev (fun n => if c then f n else g n) r := Ev.congr (fun _ => if_neg h) k
theorem mn_nat (a b : Nat) : mn (a : Int) (b : Int) = ((min a b : Nat) : Int) := by unfold mn; split <;> omega
theorem short_is (a : ByteArray) (m : Nat) (hm : m ≤ 4096) : ∃ t : ByteArray, silversidelaw07_short.f a (m : Int) = some t ∧ (t.size ≤ m ∨ 4096 < t.size ∧ t.size ≤ 4097) := by
  unfold silversidelaw07_short.f
  by_cases h : (a.size : Int) > 4096
  · rw [if_pos h, if_pos (by omega), if_pos (by omega)]
    refine ⟨_, rfl, .inr ?_⟩
    rw [ByteArray.size_extract]; omega
  · rw [if_neg h, mn_nat, if_pos (by omega), if_pos (by omega)]
    refine ⟨_, rfl, .inl ?_⟩
    rw [ByteArray.size_extract]; omega
theorem ints_ev (l : List Int) (hl : l.length ≤ 1000000) : Ev (fun K => silversidelaw07_ints.f K l l) true := by
  have key : ∀ (d k : Nat), k + d = l.length → Ev (fun K => silversidelaw07_ints.l0 K l l (k : Int)) true := by
    intro d
    induction d with
    | zero =>
      intro k hk
      refine Ev.step (f := fun _ => some true) (fun K => ?_) (Ev.now _)
      conv => lhs; unfold silversidelaw07_ints.l0
      rw [if_neg (by omega)]
    | succ d ih =>
      intro k hk
      refine Ev.step (fun K => ?_) (ih (k + 1) (by omega))
      conv => lhs; unfold silversidelaw07_ints.l0
      rw [if_pos (by omega), if_pos (by omega), if_pos (by omega), if_pos rfl, w64 (by omega) (by omega)]
      rfl
  have := key l.length 0 (by omega)
  refine Ev.congr (fun K => ?_) this
  unfold silversidelaw07_ints.f
  rw [if_pos rfl]; rfl
/-- bytes as the program's numbers -/
def bI (l : List UInt8) : List Int := l.map fun c => (c.toNat : Int)
theorem strOf_bI (l : List UInt8) : strOfNums (bI l) = ⟨l.toArray⟩ := by
  unfold strOfNums bI
  rw [List.map_map]
  congr 2
  conv => rhs; rw [← List.map_id l]
  refine List.map_congr_left fun c _ => ?_
  simp
theorem bI_snoc (l : List UInt8) (c : UInt8) : bI l ++ [(c.toNat : Int)] = bI (l ++ [c]) := by simp [bI]
theorem bt_getD (t : ByteArray) (i : Nat) (h : i < t.size) : bt t (i : Int) = ((t.data.toList.getD i 0).toNat : Int) := by
  rw [bt_nth t i h, List.getD_eq_getElem?_getD, List.getElem?_eq_getElem (by rw [data_length t]; exact h)]; rfl
theorem refturn_l0 (t : ByteArray) (ht : t.size ≤ 4096) : ∀ (d k : Nat), k + d = t.size → Ev (fun K => silversideref07_Turn.l0 K t (ordI t) (bI (accN t.data.toList (sufOrd t.data.toList) k)) (markN (sufOrd t.data.toList) k : Int) (k : Int)) ((⟨(bwt t.data.toList).toArray⟩ : ByteArray), (bmark t.data.toList : Int)) := by
  have hl := data_length t
  have h4 := ordI_length t
  intro d
  induction d with
  | zero =>
    intro k hd
    obtain rfl : k = t.size := by omega
    refine Ev.step (f := fun _ => some ((⟨(bwt t.data.toList).toArray⟩ : ByteArray), (bmark t.data.toList : Int))) (fun K => ?_) (Ev.now _)
    conv => lhs; unfold silversideref07_Turn.l0
    rw [if_neg (by omega), strOf_bI, bwt, bmark, hl]
  | succ d ih =>
    intro k hd
    have h := ih (k + 1) (by omega)
    have hv := rd_ordI t k (by omega)
    have hlen : (bI (accN t.data.toList (sufOrd t.data.toList) k)).length < 140737488355328 := by
      have := accN_length t.data.toList (sufOrd t.data.toList) k
      rw [bI, List.length_map]; omega
    have hlt := ord_lt t.data.toList k (by omega)
    by_cases hz : (sufOrd t.data.toList).getD k 0 = 0
    · rw [accN_skip hz, markN_hit hz] at h
      refine Ev.step (fun K => ?_) h
      conv => lhs; unfold silversideref07_Turn.l0
      rw [if_pos (by omega), if_pos (by omega), hv, hz, if_pos (by omega), w64 (by omega) (by omega)]
      rfl
    · rw [accN_take hz, markN_miss hz, ← bI_snoc] at h
      refine Ev.step (fun K => ?_) h
      have e1 : wrap64 ((((sufOrd t.data.toList).getD k 0 : Nat) : Int) - 1) = (((sufOrd t.data.toList).getD k 0 - 1 : Nat) : Int) := by rw [w64 (by omega) (by omega)]; omega
      conv => lhs; unfold silversideref07_Turn.l0
      rw [if_pos (by omega), if_pos (by omega), hv, if_neg (by omega), e1, if_pos (by omega), if_pos (by omega), if_pos hlen, bt_getD t _ (by omega), w64 (by omega) (by omega)]
      rfl
theorem refturn_ev (t : ByteArray) (ht : t.size ≤ 4096) : Ev (fun K => silversideref07_Turn.f K t) (if t.size = 0 then ((⟨#[]⟩ : ByteArray), (0 : Int)) else ((⟨(bwt t.data.toList).toArray⟩ : ByteArray), (bmark t.data.toList : Int))) := by
  have hl := data_length t
  unfold silversideref07_Turn.f
  refine Ev.bind (order_ev t ht) ?_
  by_cases h0 : t.size = 0
  · rw [if_pos h0]
    refine ev_neg (by omega) ?_
    have h4 := ordI_length t
    refine Ev.step (f := fun K => silversideref07_Turn.l0 K t (ordI t) [] 0 0) (fun K => by rw [silversideref07_Turn.j0]) ?_
    refine Ev.step (f := fun _ => some ((⟨#[]⟩ : ByteArray), (0 : Int))) (fun K => ?_) (Ev.now _)
    conv => lhs; unfold silversideref07_Turn.l0
    rw [if_neg (by omega)]; rfl
  · rw [if_neg h0]
    refine ev_pos (by omega) ?_
    have e1 : wrap64 ((t.size : Int) - 1) = ((t.size - 1 : Nat) : Int) := by rw [w64 (by omega) (by omega)]; omega
    rw [e1]
    refine ev_pos (by omega) (ev_pos (by omega) (ev_pos (by simp) ?_))
    rw [bt_getD t _ (by omega)]
    have h := refturn_l0 t ht t.size 0 (by omega)
    refine Ev.step (fun K => ?_) h
    conv => lhs; unfold silversideref07_Turn.j0
    rw [accN, markN, hl]; rfl
/-- Turn, as the law needs it -/
theorem turn_is (t : ByteArray) (ht : t.size ≤ 4096) : find_Turn.f t = some ((if t.size = 0 then ((⟨#[]⟩ : ByteArray), (0 : Int)) else ((⟨(bwt t.data.toList).toArray⟩ : ByteArray), (bmark t.data.toList : Int))).1, (if t.size = 0 then ((⟨#[]⟩ : ByteArray), (0 : Int)) else ((⟨(bwt t.data.toList).toArray⟩ : ByteArray), (bmark t.data.toList : Int))).2, 0) := by
  unfold find_Turn.f
  rw [if_neg (by omega)]
  split <;> rfl
theorem turn_long (t : ByteArray) (ht : 4096 < t.size) : find_Turn.f t = some ((⟨#[]⟩ : ByteArray), 0, 2) := by
  unfold find_Turn.f
  rw [if_pos ht]
theorem empty_list : (⟨#[]⟩ : ByteArray).toList = [] := by rw [ByteArray.toList_eq]
end Go.Proofs.Ytppelnlocfcgfaa.P
