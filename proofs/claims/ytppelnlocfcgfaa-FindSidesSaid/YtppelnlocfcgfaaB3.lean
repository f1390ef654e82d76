/- Proved here: what functions that the law reaches compute, and plain laws of that. No conditions but those that the theorems state. -/
import Derived.Test.YtppelnlocfcgfaaB2
import Derived.Shelf.Strings.BuilderK
import Derived.Shelf.Strings.BuilderF
import Derived.Test.YtppelnlocfcgfaaB1
import Derived.Laws.EntriesVeiled
import Derived.Shelf.Strings.MapGrows
import Derived.Sort.Walk0
import Derived.Outline
import Derived.Deep.DeepMust
set_option linter.unusedVariables false
set_option linter.unusedSimpArgs false
namespace Go.Proofs.Ytppelnlocfcgfaa.P
open Go.RowKit Go.Proofs.YtppelnlocfcgfaaW.PrintWords Go.Proofs.YtppelnlocfcgfaaW.PrintLast Go.Proofs.YtppelnlocfcgfaaW.PrintMore
open Go.Proofs.Fnd
/-- a list of positions as the program's numbers -/
def nI (l : List Nat) : List Int := l.map Int.ofNat
theorem nI_length (l : List Nat) : (nI l).length = l.length := List.length_map ..
theorem rd_nI (l : List Nat) (k : Nat) (h : k < l.length) : rd (nI l) (k : Int) = ((l[k] : Nat) : Int) := by
  simp only [rd, nI, Int.toNat_natCast, List.getD_eq_getElem?_getD, List.getElem?_map, List.getElem?_eq_getElem h]
  rfl
/-- sorted positions below i -/
structure Ins (t : ByteArray) (i : Nat) (L : List Nat) : Prop where
  perm : L.Perm (List.range i)
  up : L.Pairwise (fun a b => LtW (t.size + 1) (sq t.data.toList a) (sq t.data.toList b))
theorem Ins.len {t : ByteArray} {i : Nat} {L : List Nat} (h : Ins t i L) : L.length = i := by rw [h.perm.length_eq, List.length_range]
theorem Ins.mem {t : ByteArray} {i : Nat} {L : List Nat} (h : Ins t i L) {k : Nat} (hk : k < L.length) : L[k] < i := List.mem_range.1 (h.perm.mem_iff.1 (List.getElem_mem hk))
theorem Ins.put {t : ByteArray} {i lo : Nat} {L : List Nat} (h : Ins t i L) (hi : i < t.size) (hlo : lo ≤ L.length)
    (h1 : ∀ j, (hj : j < L.length) → j < lo → LtW (t.size + 1) (sq t.data.toList L[j]) (sq t.data.toList i))
    (h2 : ∀ j, (hj : j < L.length) → lo ≤ j → ¬ LtW (t.size + 1) (sq t.data.toList L[j]) (sq t.data.toList i)) : Ins t (i + 1) (L.take lo ++ i :: L.drop lo) := by
  have hl := data_length t
  refine ⟨?_, ?_⟩
  · rw [List.range_succ]
    refine List.perm_middle.trans ?_
    rw [List.take_append_drop]
    exact (List.Perm.cons i h.perm).trans (List.perm_append_singleton i _).symm
  · rw [List.pairwise_append]
    refine ⟨h.up.sublist (List.take_sublist _ _), ?_, ?_⟩
    · rw [List.pairwise_cons]
      refine ⟨fun b hb => ?_, h.up.sublist (List.drop_sublist _ _)⟩
      obtain ⟨j, hj, rfl⟩ := List.getElem_of_mem hb
      rw [List.length_drop] at hj
      rw [List.getElem_drop]
      have hm := h.mem (k := lo + j) (by omega)
      rcases tri (t.size + 1) (sq t.data.toList i) (sq t.data.toList L[lo + j]) with q | q | q
      · exact q
      · have := sq_inj t.data.toList t.size i L[lo + j] (by omega) (by omega) (by omega) q
        omega
      · exact absurd q (h2 (lo + j) (by omega) (by omega))
    · intro a ha b hb
      obtain ⟨j, hj, rfl⟩ := List.getElem_of_mem ha
      rw [List.length_take] at hj
      rw [List.getElem_take]
      have c1 := h1 j (by omega) (by omega)
      rcases List.mem_cons.1 hb with rfl | hb
      · exact c1
      · obtain ⟨j2, hj2, rfl⟩ := List.getElem_of_mem hb
        rw [List.length_drop] at hj2
        rw [List.getElem_drop]
        exact List.pairwise_iff_getElem.1 h.up j (lo + j2) (by omega) (by omega) (by omega)
theorem nI_set (L : List Nat) (k : Nat) (x : Nat) : (nI L).set k (x : Int) = nI (L.set k x) := by simp [nI, List.map_set]
theorem set_mid (L : List Nat) (k c x : Nat) (hk : k ≤ L.length) : (L.take k ++ c :: L.drop k).set k x = L.take k ++ x :: L.drop k := by
  have : (L.take k).length = k := by rw [List.length_take]; omega
  rw [List.set_append_right _ _ (by omega), this, Nat.sub_self]; rfl
theorem mid_down (L : List Nat) (k : Nat) (hk : k < L.length) (c : Nat) : L.take (k + 1) ++ c :: L.drop (k + 1) = L.take k ++ L[k] :: c :: L.drop (k + 1) := by
  rw [List.take_succ_eq_append_getElem hk, List.append_assoc]; rfl
/-- the shift and the rest -/
theorem order_l2 (t : ByteArray) (ht : t.size ≤ 4096) (i lo : Nat) (L : List Nat) (r : List Int) (hi : i < t.size) (hL : L.length = i) (hlo : lo ≤ i)
    (hgo : Ev (fun K => silversideref07_Order.l0 K t (nI (L.take lo ++ i :: L.drop lo)) ((i + 1 : Nat) : Int)) r) :
    ∀ (d k c : Nat), lo + d = k → k ≤ i → Ev (fun K => silversideref07_Order.l2 K t (nI (L.take k ++ c :: L.drop k)) (i : Int) (lo : Int) (k : Int)) r := by
  intro d
  induction d with
  | zero =>
    intro k c hk hki
    obtain rfl : lo = k := by omega
    refine Ev.step (fun K => ?_) hgo
    have h1 : (nI (L.take lo ++ c :: L.drop lo)).length = i + 1 := by rw [nI_length]; simp; omega
    conv => lhs; unfold silversideref07_Order.l2
    rw [if_neg (by omega), if_pos (by omega), if_pos (by omega), Int.toNat_natCast, nI_set, set_mid _ _ _ _ (by omega), w64 (by omega) (by omega)]
    rfl
  | succ d ih =>
    intro k c hk hki
    obtain ⟨q, rfl⟩ : ∃ q, k = q + 1 := ⟨k - 1, by omega⟩
    have h := ih q (L[q]'(by omega)) (by omega) (by omega)
    refine Ev.step (fun K => ?_) h
    have h1 : (nI (L.take (q + 1) ++ c :: L.drop (q + 1))).length = i + 1 := by rw [nI_length]; simp; omega
    have h2 : rd (nI (L.take (q + 1) ++ c :: L.drop (q + 1))) (q : Int) = ((L[q]'(by omega) : Nat) : Int) := by
      rw [rd_nI _ _ (by rw [nI_length] at h1; omega)]
      congr 1
      rw [List.getElem_append_left (by rw [List.length_take]; omega), List.getElem_take]
    have e1 : wrap64 (((q + 1 : Nat) : Int) - 1) = (q : Int) := by rw [w64 (by omega) (by omega)]; omega
    conv => lhs; unfold silversideref07_Order.l2
    rw [e1, if_pos (by omega), if_pos (by omega), if_pos (by omega), if_pos (by omega), if_pos (by omega), h2, Int.toNat_natCast, nI_set, set_mid _ _ _ _ (by omega)]
    have e2 : L.take (q + 1) ++ L[q]'(by omega) :: L.drop (q + 1) = L.take q ++ L[q]'(by omega) :: L.drop q := by
      rw [mid_down L q (by omega), ← List.drop_eq_getElem_cons (by omega : q < L.length)]
    rw [e2]
/-- the search and the rest -/
theorem order_l1 (t : ByteArray) (ht : t.size ≤ 4096) (i : Nat) (L : List Nat) (r : List Int) (hi : i < t.size) (hL : Ins t i L)
    (hgo : ∀ L', Ins t (i + 1) L' → Ev (fun K => silversideref07_Order.l0 K t (nI L') ((i + 1 : Nat) : Int)) r) :
    ∀ (d lo hi : Nat), hi - lo < d → lo ≤ hi → hi ≤ i →
      (∀ j, (hj : j < L.length) → j < lo → LtW (t.size + 1) (sq t.data.toList L[j]) (sq t.data.toList i)) →
      (∀ j, (hj : j < L.length) → hi ≤ j → ¬ LtW (t.size + 1) (sq t.data.toList L[j]) (sq t.data.toList i)) →
      Ev (fun K => silversideref07_Order.l1 K t (nI L) (i : Int) (lo : Int) (hi : Int)) r := by
  have hlen := hL.len
  intro d
  induction d with
  | zero => intro lo hi h; omega
  | succ d ih =>
    intro lo hh hd hlh hhi h1 h2
    by_cases hlt : lo < hh
    · have hm1 : lo ≤ (lo + hh) / 2 := by omega
      have hm2 : (lo + hh) / 2 < hh := by omega
      have em : wrap64 (Int.tdiv (wrap64 ((lo : Int) + (hh : Int))) 2) = (((lo + hh) / 2 : Nat) : Int) := by
        rw [w64 (x := (lo : Int) + hh) (by omega) (by omega), Int.tdiv_eq_ediv_of_nonneg (by omega), w64 (by omega) (by omega)]
        omega
      generalize (lo + hh) / 2 = m at *
      have hmi : m < L.length := by omega
      have hne : L[m] ≠ i := by have := hL.mem hmi; omega
      have hle := less_ev t (by omega) L[m] i (by have := hL.mem hmi; omega) hi hne
      have hrd := rd_nI L m hmi
      have hmono : ∀ a b, (ha : a < L.length) → (hb : b < L.length) → a < b → LtW (t.size + 1) (sq t.data.toList L[a]) (sq t.data.toList L[b]) := fun a b ha hb hab => List.pairwise_iff_getElem.1 hL.up a b ha hb hab
      have hlnI := nI_length L
      by_cases hc : LtW (t.size + 1) (sq t.data.toList L[m]) (sq t.data.toList i)
      · have h := ih (m + 1) hh (by omega) (by omega) hhi (fun j hj hjm => by
          by_cases e : j = m
          · subst e; exact hc
          · exact (hmono j m hj hmi (by omega)).trans hc) h2
        rw [decide_eq_true hc] at hle
        refine Ev.step (fun K => ?_) (Ev.bind hle h (f := fun K (b : Bool) => if b = true then silversideref07_Order.l1 K t (nI L) (i : Int) ((m + 1 : Nat) : Int) (hh : Int) else silversideref07_Order.l1 K t (nI L) (i : Int) (lo : Int) (m : Int)))
        conv => lhs; unfold silversideref07_Order.l1
        rw [em, if_pos (by omega), if_pos (by omega), if_pos (by omega), hrd, w64 (x := (m : Int) + 1) (by omega) (by omega)]
        rfl
      · have h := ih lo m (by omega) (by omega) (by omega) h1 (fun j hj hjm => by
          by_cases e : j = m
          · subst e; exact hc
          · exact fun q => hc ((hmono m j hmi hj (by omega)).trans q))
        rw [decide_eq_false hc] at hle
        refine Ev.step (fun K => ?_) (Ev.bind hle h (f := fun K (b : Bool) => if b = true then silversideref07_Order.l1 K t (nI L) (i : Int) ((m + 1 : Nat) : Int) (hh : Int) else silversideref07_Order.l1 K t (nI L) (i : Int) (lo : Int) (m : Int)))
        conv => lhs; unfold silversideref07_Order.l1
        rw [em, if_pos (by omega), if_pos (by omega), if_pos (by omega), hrd, w64 (x := (m : Int) + 1) (by omega) (by omega)]
        rfl
    · obtain rfl : lo = hh := by omega
      have hput := hL.put hi (by omega) h1 h2
      have h := order_l2 t ht i lo L r hi hlen (by omega) (hgo _ hput) (i - lo) i 0 (by omega) (Nat.le_refl _)
      refine Ev.step (fun K => ?_) h
      have e1 : nI L ++ [0] = nI (L.take i ++ 0 :: L.drop i) := by
        rw [List.take_of_length_le (by omega), List.drop_eq_nil_of_le (by omega)]; simp [nI]
      have e2 : (nI (L.take i ++ 0 :: L.drop i)).length = i + 1 := by rw [nI_length]; simp; omega
      conv => lhs; unfold silversideref07_Order.l1
      rw [if_neg (by omega), if_pos (by rw [nI_length]; omega)]
      simp only [Option.bind_some]
      rw [e1, e2, w64 (by omega) (by omega)]
      congr 1
      omega
theorem order_l0 (t : ByteArray) (ht : t.size ≤ 4096) : ∀ (d i : Nat) (L : List Nat), i + d = t.size → Ins t i L → Ev (fun K => silversideref07_Order.l0 K t (nI L) (i : Int)) (ordI t) := by
  have hl := data_length t
  intro d
  induction d with
  | zero =>
    intro i L hd hL
    obtain rfl : i = t.size := by omega
    have e : L = sufOrd t.data.toList := IsOrd.eq ⟨by rw [hl]; exact hL.perm, by rw [hl]; exact hL.up⟩
    refine Ev.step (f := fun _ => some (ordI t)) (fun K => ?_) (Ev.now _)
    conv => lhs; unfold silversideref07_Order.l0
    rw [if_neg (by omega), e]; rfl
  | succ d ih =>
    intro i L hd hL
    have h := order_l1 t ht i L (ordI t) (by omega) hL (fun L' hL' => ih (i + 1) L' (by omega) hL') (i + 1) 0 i (by omega) (by omega) (Nat.le_refl _) (fun j _ h => by omega) (fun j hj h => by have := hL.len; omega)
    refine Ev.step (fun K => ?_) h
    conv => lhs; unfold silversideref07_Order.l0
    rw [if_pos (by omega), nI_length, hL.len]
    rfl
theorem order_ev (t : ByteArray) (ht : t.size ≤ 4096) : Ev (fun K => silversideref07_Order.f K t) (ordI t) :=
  order_l0 t ht t.size 0 [] (by omega) ⟨by simp, List.Pairwise.nil⟩
theorem take_snoc (l : List Int) (k : Nat) (h : k < l.length) : l.take (k + 1) = l.take k ++ [rd l (k : Int)] := by
  rw [List.take_succ_eq_append_getElem h]
  simp [rd, List.getElem?_eq_getElem h]
theorem overlaps_l0 (t : ByteArray) (ht : t.size ≤ 4096) : ∀ (d k : Nat), k + d = t.size → Ev (fun K => silversideref07_Overlaps.l0 K t (ordI t) ((overI t).take k) (k : Int)) (overI t) := by
  have hl := data_length t
  have h4 := ordI_length t
  have h5 := overI_length t
  intro d
  induction d with
  | zero =>
    intro k hd
    obtain rfl : k = t.size := by omega
    refine Ev.step (f := fun _ => some (overI t)) (fun K => ?_) (Ev.now _)
    conv => lhs; unfold silversideref07_Overlaps.l0
    rw [if_neg (by omega), List.take_of_length_le (by omega)]
  | succ d ih =>
    intro k hd
    have h := ih (k + 1) (by omega)
    have hlt : ((overI t).take k).length < 17592186044416 := by rw [List.length_take]; omega
    have hv := rd_overI t k (by omega)
    rw [take_snoc _ _ (by omega), hv] at h
    by_cases hk : k = 0
    · subst hk
      have e0 : (overL t.data.toList).getD 0 0 = 0 := by rw [overL_at _ _ (by omega), if_pos rfl]
      rw [e0] at h
      refine Ev.step (fun K => ?_) h
      conv => lhs; unfold silversideref07_Overlaps.l0
      rw [if_pos (by omega), if_neg (by omega), if_pos hlt, w64 (by omega) (by omega)]
      rfl
    · have e1 : wrap64 ((k : Int) - 1) = ((k - 1 : Nat) : Int) := by rw [w64 (by omega) (by omega)]; omega
      have hc := common_ev t t (by omega) (by omega) ((sufOrd t.data.toList).getD (k - 1) 0) ((sufOrd t.data.toList).getD k 0) (by have := ord_lt t.data.toList (k - 1) (by omega); omega) (by have := ord_lt t.data.toList k (by omega); omega)
      rw [cpl_lcp (over_is t.data.toList k (by omega) hk)] at hc
      have r1 := rd_ordI t k (by omega)
      have r2 := rd_ordI t (k - 1) (by omega)
      refine Ev.step (fun K => ?_) (Ev.bind hc h (f := fun K x => silversideref07_Overlaps.l0 K t (ordI t) ((overI t).take k ++ [x]) ((k + 1 : Nat) : Int)))
      conv => lhs; unfold silversideref07_Overlaps.l0
      rw [e1, if_pos (by omega), if_pos (by omega), if_pos (by omega), if_pos (by omega), if_pos (by omega), r1, r2]
      simp only [if_pos hlt]
      rw [w64 (by omega) (by omega)]
      rfl
theorem overlaps_ev (t : ByteArray) (ht : t.size ≤ 4096) : Ev (fun K => silversideref07_Overlaps.f K t (ordI t)) (overI t) := by
  have := overlaps_l0 t ht t.size 0 (by omega)
  simpa [silversideref07_Overlaps.f] using this
end Go.Proofs.Ytppelnlocfcgfaa.P
namespace Go.Proofs
open Go.Shelf
def Try.lays167_ren : Go.Shelf.Ren := ⟨fun | 167 => 44 | 240 => 57 | 276 => 70 | n => n, fun | 0 => 0 | 4 => 4 | 5 => 5 | 9 => 9 | 20 => 20 | 37 => 66 | 70 => 65 | 72 => 68 | 75 => 70 | 80 => 46 | 164 => 94 | n => n, fun | n => n⟩
theorem Try.lays167 : Go.Proofs.Lays.n167 Try.prog Try.lays167_ren := {
  mixed := by kernel_rfl
  f167 := Try.func44.trans (congrArg some (by kernel_rfl))
  f240 := Try.func57.trans (congrArg some (by kernel_rfl))
  f276 := Try.func70.trans (congrArg some (by kernel_rfl))
  t0 := Try.underlying0
  a0 := Try.isAgg0
  z0 := Try.sizeOf0
  v0 := Try.zeroValue0
  t4 := Try.underlying4
  a4 := Try.isAgg4
  z4 := Try.sizeOf4
  v4 := Try.zeroValue4
  t5 := Try.underlying5
  a5 := Try.isAgg5
  z5 := Try.sizeOf5
  v5 := Try.zeroValue5
  t9 := Try.underlying9
  a9 := Try.isAgg9
  z9 := Try.sizeOf9
  v9 := Try.zeroValue9
  t20 := Try.underlying20
  a20 := Try.isAgg20
  z20 := Try.sizeOf20
  v20 := Try.zeroValue20
  t37 := Try.underlying66
  a37 := Try.isAgg66
  z37 := Try.sizeOf66
  v37 := Try.zeroValue66
  t70 := Try.underlying65
  a70 := Try.isAgg65
  z70 := Try.sizeOf65
  v70 := Try.zeroValue65
  t72 := Try.underlying68
  a72 := Try.isAgg68
  z72 := Try.sizeOf68
  v72 := Try.zeroValue68
  t75 := Try.underlying70
  a75 := Try.isAgg70
  z75 := Try.sizeOf70
  v75 := Try.zeroValue70
  t164 := Try.underlying94
  a164 := Try.isAgg94
  z164 := Try.sizeOf94
  v164 := Try.zeroValue94 }
theorem Try.Builder_Extra_167 : Builder.Extra Try.prog Try.lays167_ren := {
  sizeBuilder := by kernel_rfl
  liesBuilder := by kernel_rfl
  t5 := Try.underlying5
  a5 := Try.isAgg5
  z5 := Try.sizeOf5
  v5 := Try.zeroValue5
  infoByte := by kernel_rfl
  cellsByte := by kernel_rfl
  sizeByte := by kernel_rfl
  neB5 := by decide }
open Go.RowKit in
theorem Try.Builder_WriteByte_k (B b : Nat) (bs : List Value) (c : Int) (w : World) (h : Lib.IsBuilderF 68 5 B b bs w) (hlen : bs.length + 1 ≤ 140737488355328) (hBw : B ≤ w.heap.size) :
    Calls Try.prog 44 #[.pointer (some ⟨b, 0, none⟩), .int .u8 c] w fun e w' => e = .returned .nilIface ∧ (Lib.BuilderAtF 68 5 B b (.pointer (some ⟨b, 0, none⟩)) (bs ++ [.int .u8 c]) w' ∧ Below B w w' ∧ Lib.OthersKept 5 (some b) w w') := Any.Builder_WriteByte_k Try.lays167 Try.Builder_Extra_167 B b bs c w h hlen hBw
open Go.RowKit in
theorem Try.Builder_String_any_k (B b : Nat) (l : List UInt8) (w : World) (h : Lib.IsBuilderF 68 5 B b (Lib.byteCells l) w) (hBw : B ≤ w.heap.size) :
    Calls Try.prog 45 #[.pointer (some ⟨b, 0, none⟩)] w fun e w' => e = .returned (.string ⟨l.toArray⟩) ∧ (Lib.IsBuilderF 68 5 B b (Lib.byteCells l) w' ∧ Below B w w' ∧ Lib.OthersKept 5 (some b) w w') := Any.Builder_String_any_k Try.lays169 Try.Builder_Extra_169 B b l w h hBw
end Go.Proofs
namespace Go.Proofs.Fnd
/-- the last bytes of the first k rotations behind the first one -/
def accN (s : List UInt8) (o : List Nat) : Nat → List UInt8
  | 0 => [s.getD (s.length - 1) 0]
  | k + 1 => accN s o k ++ (if o.getD k 0 = 0 then [] else [s.getD (o.getD k 0 - 1) 0])
def markN (o : List Nat) : Nat → Nat
  | 0 => 0
  | k + 1 => if o.getD k 0 = 0 then k + 1 else markN o k
theorem accN_length (s : List UInt8) (o : List Nat) (k : Nat) : (accN s o k).length ≤ k + 1 := by
  induction k with
  | zero => simp [accN]
  | succ k ih =>
    unfold accN
    rw [List.length_append]
    split <;> simp <;> omega
theorem accN_skip {s : List UInt8} {o : List Nat} {k : Nat} (h : o.getD k 0 = 0) : accN s o (k + 1) = accN s o k := by
  rw [accN, if_pos h, List.append_nil]
theorem accN_take {s : List UInt8} {o : List Nat} {k : Nat} (h : o.getD k 0 ≠ 0) : accN s o (k + 1) = accN s o k ++ [s.getD (o.getD k 0 - 1) 0] := by
  rw [accN, if_neg h]
theorem markN_hit {o : List Nat} {k : Nat} (h : o.getD k 0 = 0) : markN o (k + 1) = k + 1 := by rw [markN, if_pos h]
theorem markN_miss {o : List Nat} {k : Nat} (h : o.getD k 0 ≠ 0) : markN o (k + 1) = markN o k := by rw [markN, if_neg h]
theorem markN_le (o : List Nat) (k : Nat) : markN o k ≤ k := by
  induction k with
  | zero => exact Nat.le_refl _
  | succ k ih => unfold markN; split <;> omega
/-- the turned text of a text that is not empty -/
def bwt (s : List UInt8) : List UInt8 := accN s (sufOrd s) s.length
def bmark (s : List UInt8) : Nat := markN (sufOrd s) s.length
/-- the place of a row's last byte in the turned text -/
def bix (r m : Nat) : Nat := if m < r then r - 1 else r
def lead (s : List UInt8) (m r : Nat) : Nat := if r = m then 0 else 1 + pos s (bix r m)
def rowNo (s : List UInt8) (m : Nat) : Nat → Nat
  | 0 => 0
  | j + 1 => lead s m (rowNo s m j)
theorem bix_lt {r m n : Nat} (hr : r ≤ n) (hm : m ≤ n) (h : r ≠ m) : bix r m < n := by unfold bix; split <;> omega
theorem bix_next {r m : Nat} (h : r ≠ m) : bix (r + 1) m = bix r m + 1 := by unfold bix; split <;> split <;> omega
theorem bix_mark (m : Nat) : bix (m + 1) m = m := by unfold bix; split <;> omega
theorem bix_self (m : Nat) : bix m m = m := by unfold bix; split <;> omega
theorem bix_zero (m : Nat) : bix 0 m = 0 := by unfold bix; split <;> omega
theorem bix_end {n m : Nat} (h : m ≤ n) : bix (n + 1) m = n := by unfold bix; split <;> omega
theorem lead_le (s : List UInt8) {m r : Nat} (hr : r ≤ s.length) (hm : m ≤ s.length) : lead s m r ≤ s.length := by
  unfold lead
  split
  · omega
  · have := pos_lt s (bix r m) (bix_lt hr hm (by assumption)); omega
theorem rowNo_le (s : List UInt8) {m : Nat} (hm : m ≤ s.length) (j : Nat) : rowNo s m j ≤ s.length := by
  induction j with
  | zero => exact Nat.zero_le _
  | succ j ih => exact lead_le s ih hm
/-- the bytes that the way back meets, the last one first -/
def metL (s : List UInt8) (m : Nat) : List UInt8 := (List.range s.length).map fun i => s.getD (bix (rowNo s m (s.length - 1 - i)) m) 0
end Go.Proofs.Fnd
namespace Go.Proofs.Ytppelnlocfcgfaa.P
open Go.RowKit Go.Proofs.YtppelnlocfcgfaaW.PrintWords Go.Proofs.YtppelnlocfcgfaaW.PrintLast Go.Proofs.YtppelnlocfcgfaaW.PrintMore
open Go.Proofs.Fnd
theorem getD_at (a : ByteArray) (i : Nat) (h : i < a.size) : a.data.toList.getD i 0 = a[i] := by
  have hl : a.data.toList.length = a.size := data_length a
  rw [List.getD_eq_getElem?_getD, List.getElem?_eq_getElem (by omega), Option.getD_some]
  rfl
def IsLead (s : List UInt8) (m k : Nat) (ld : List Int) : Prop := ld.length = s.length + 1 ∧ (∀ r : Nat, r < k → el ld r = (lead s m r : Int)) ∧ ∀ r : Nat, k ≤ r → el ld r = 0
def IsMet (s : List UInt8) (m k : Nat) (out : List Int) : Prop := out.length = s.length ∧ ∀ i : Nat, k ≤ i → i < s.length → el out i = ((s.getD (bix (rowNo s m (s.length - 1 - i)) m) 0).toNat : Int)
theorem el_replicate (n r : Nat) : el (List.replicate n 0) r = 0 := by
  unfold el
  rw [List.getD_eq_getElem?_getD, List.getElem?_replicate]
  split <;> rfl
theorem isLead_zero (s : List UInt8) (m n : Nat) (h : n = s.length + 1) : IsLead s m 0 (List.replicate n 0) := ⟨by simp [h], fun r hr => by omega, fun r _ => el_replicate n r⟩
theorem isLead_skip {s : List UInt8} {m : Nat} {ld : List Int} (h : IsLead s m m ld) : IsLead s m (m + 1) ld := by
  refine ⟨h.1, fun r hr => ?_, fun r hr => h.2.2 r (by omega)⟩
  by_cases e : r = m
  · subst e
    rw [h.2.2 _ (Nat.le_refl _), lead, if_pos rfl]; rfl
  · exact h.2.1 r (by omega)
theorem isLead_step {s : List UInt8} {m k : Nat} {ld : List Int} (h : IsLead s m k ld) (hk : k ≤ s.length) (e : k ≠ m) : IsLead s m (k + 1) (ld.set k (1 + (pos s (bix k m) : Int))) := by
  refine ⟨by simp [h.1], fun r hr => ?_, fun r hr => ?_⟩
  · by_cases e2 : k = r
    · subst e2
      rw [getD_set_same _ _ _ (by rw [h.1]; omega), lead, if_neg e]; push_cast; rfl
    · rw [getD_set_ne _ _ _ _ e2]; exact h.2.1 r (by omega)
  · rw [getD_set_ne _ _ _ _ (by omega)]; exact h.2.2 r (by omega)
theorem isMet_zero (s : List UInt8) (m n : Nat) (h : n = s.length) : IsMet s m s.length (List.replicate n 0) := ⟨by simp [h], fun i h1 h2 => by omega⟩
theorem isMet_step {s : List UInt8} {m k : Nat} {out : List Int} (h : IsMet s m (k + 1) out) (hk : k < s.length) : IsMet s m k (out.set k ((s.getD (bix (rowNo s m (s.length - 1 - k)) m) 0).toNat : Int)) := by
  refine ⟨by simp [h.1], fun i h1 h2 => ?_⟩
  by_cases e : k = i
  · subst e
    rw [getD_set_same _ _ _ (by rw [h.1]; omega)]
  · rw [getD_set_ne _ _ _ _ e]; exact h.2 i (by omega) h2
theorem isMet_str {s : List UInt8} {m : Nat} {out : List Int} (h : IsMet s m 0 out) : strOfNums out = ⟨(metL s m).toArray⟩ := by
  have e : out = (metL s m).map (fun c => (c.toNat : Int)) := by
    refine List.ext_getElem (by simp [metL, h.1]) fun i h1 h2 => ?_
    have h3 : i < s.length := by rw [← h.1]; exact h1
    have h4 := h.2 i (Nat.zero_le _) h3
    unfold el at h4
    rw [List.getD_eq_getElem?_getD, List.getElem?_eq_getElem h1, Option.getD_some] at h4
    rw [h4]
    simp [metL]
  subst e
  unfold strOfNums
  rw [List.map_map]
  congr 2
  conv => rhs; rw [← List.map_id (metL s m)]
  refine List.map_congr_left fun c _ => ?_
  simp
/-- what Restore answers -/
def find_Restore.f (a0 : ByteArray) (a1 : Int) : Option (ByteArray × Int) :=
  some (if 4096 < a0.size ∨ a1 < 0 ∨ (a0.size : Int) < a1 then ((⟨#[]⟩ : ByteArray), 2)
    else if (∀ j, j < a0.size → rowNo a0.data.toList a1.toNat j ≠ a1.toNat) ∧ rowNo a0.data.toList a1.toNat a0.size = a1.toNat then ((⟨(metL a0.data.toList a1.toNat).toArray⟩ : ByteArray), 0)
    else ((⟨#[]⟩ : ByteArray), 70))
set_option maxHeartbeats 2000000 in
set_option maxRecDepth 100000 in
theorem index_calls (r m : Nat) (hr : r ≤ 4096) (w : World) :
    Calls Try.prog 47 #[.int .i64 r, .int .i64 m] w fun e w' => e = .returned (.int .i64 (bix r m : Nat)) ∧ w' = w := by
  by_cases h : m < r
  · have hI : (m : Int) < (r : Int) := by omega
    rw [show ((bix r m : Nat) : Int) = (r : Int) - 1 by unfold bix; rw [if_pos h]; omega]
    go_enter Try.func47, Try.ntmps47
    go_wp2
    go_ret
    exact ⟨rfl, rfl⟩
  · have hI : ¬ (m : Int) < (r : Int) := by omega
    rw [show ((bix r m : Nat) : Int) = (r : Int) by unfold bix; rw [if_neg h]]
    go_enter Try.func47, Try.ntmps47
    go_wp2
    go_ret
    exact ⟨rfl, rfl⟩
set_option maxHeartbeats 2000000 in
set_option maxRecDepth 100000 in
theorem restore_arg_calls (a0 : ByteArray) (a1 : Int) (h : 4096 < a0.size ∨ a1 < 0 ∨ (a0.size : Int) < a1) (w : World) :
    Calls Try.prog 25 #[.string a0, .int .i64 a1] w fun e w' => e = .returned (.tuple #[.string (⟨#[]⟩ : ByteArray), .int .i64 2]) ∧ Below w.heap.size w w' := by
  have HB := Aside0.mk (Below.refl w.heap.size w)
  by_cases h1 : 4096 < a0.size
  · have h1I : (4096 : Int) < (a0.size : Int) := by omega
    go_enter Try.func25, Try.ntmps25
    go_wp2
    go_ret2
    refine ⟨rfl, ?_⟩
    repeat (first | (with_reducible first | exact HB.out | apply below_alloc | apply pw_below_drewN | apply below_drew1) | exact HB.out)
  · have h1I : ¬ (4096 : Int) < (a0.size : Int) := by omega
    by_cases h2 : a1 < 0
    · go_enter Try.func25, Try.ntmps25
      go_wp2
      go_ret2
      refine ⟨rfl, ?_⟩
      repeat (first | (with_reducible first | exact HB.out | apply below_alloc | apply pw_below_drewN | apply below_drew1) | exact HB.out)
    · have h3 : (a0.size : Int) < a1 := by omega
      go_enter Try.func25, Try.ntmps25
      go_wp2
      go_ret2
      refine ⟨rfl, ?_⟩
      repeat (first | (with_reducible first | exact HB.out | apply below_alloc | apply pw_below_drewN | apply below_drew1) | exact HB.out)
theorem builder_new (w : World) : Lib.IsBuilderF 68 5 w.heap.size w.heap.size [] (w.alloc (Obj.cells #[.pointer none, .slice none 0 0] 68)) :=
  .inl ⟨Nat.le_refl _, .slice none 0 0, heap_alloc_new _ _, World.ownsRowF_of (own_nil _ _ _ _), by simp [Value.ownBlock]⟩
theorem R_others {w w' : World} {base B : Nat} {ok : Nat → Prop} {v : Value} {xs : List Int} (h : Kd.R (Kd.int .i64) 3 w base ok v xs) (hk : Lib.OthersKept 5 (some B) w w') (hB : v.ownBlock ≠ some B) : Kd.R (Kd.int .i64) 3 w' base ok v xs := by
  have ho := Kd.own_of_R h
  refine Kd.R_of_own (own_move ho fun k hv => ?_) h.1
  obtain ⟨cells, hc⟩ := own_typed ho k hv
  rw [hc]
  refine hk k _ hc (fun e => hB (by rw [hv]; exact e)) (fun c fz e => ?_)
  simp at e
theorem builder_of {B b : Nat} {bs : List Value} {w : World} (h : Lib.BuilderAtF 68 5 B b (.pointer (some ⟨b, 0, none⟩)) bs w) : Lib.IsBuilderF 68 5 B b bs w := .inr h
theorem byteCells_snoc (l : List UInt8) (c : UInt8) : Lib.byteCells l ++ [.int .u8 (c.toNat : Int)] = Lib.byteCells (l ++ [c]) := by simp [Lib.byteCells]
theorem getD_mem (l : List Nat) (k : Nat) (h : k < l.length) : l.getD k 0 ∈ l := by
  rw [List.getD_eq_getElem?_getD, List.getElem?_eq_getElem h]
  exact List.getElem_mem h
theorem field24_1 (t : ByteArray) (A B : Option Addr) (n c m d : Nat) (w : World) : Sem.run Try.prog (Instr.field 24 (.agg #[.string t, .slice A n c, .slice B m d]) 1) w = .ok (.slice A n c) w := by kernel_rfl
set_option maxHeartbeats 2000000 in
set_option maxRecDepth 100000 in
theorem turn_calls (a0 : ByteArray) (hs : a0.size ≤ 4096) (h0 : 0 < a0.size) (w : World) :
    Calls Try.prog 23 #[.string a0] w fun e w' => e = .returned (.tuple #[.string ⟨(bwt a0.data.toList).toArray⟩, .int .i64 (bmark a0.data.toList : Int), .int .i64 0]) ∧ Below w.heap.size w w' := by
  obtain ⟨kf, hkf⟩ := find_newIndex_is a0 hs
  have HKF := Aside0.mk hkf
  have HBN := Aside0.mk (builder_new w)
  have HSZ := Aside0.mk (show a0.data.toList.length = a0.size from data_length a0)
  have hse : (a0.toList == []) = false := by
    rw [ByteArray.toList_eq, beq_eq_false_iff_ne]
    intro e
    have := HSZ.out
    rw [e] at this
    simp at this; omega
  have HC0 : Aside0 ([] ++ [Value.int .u8 (a0[a0.size - 1].toNat : Int)] = Lib.byteCells (accN a0.data.toList (sufOrd a0.data.toList) 0)) := ⟨by
    rw [accN, HSZ.out, getD_at a0 (a0.size - 1) (by omega)]
    rfl⟩
  have hs4 : ¬ (4096 : Int) < ((a0.size : Nat) : Int) := by omega
  clear hkf
  have hfl := field24_1
  go_enter Try.func23, Try.ntmps23
  go_wp2_with (first | (go_at_call 44; go_must (refine (Try.Builder_WriteByte_k w.heap.size w.heap.size [] _ _ HBN.out (by simp) (by simp)).mono ?_); rintro e w1 ⟨rfl, hb1, hbl1, ho1⟩; rw [HC0.out] at hb1; have HLT := Aside0.mk hb1.lt; have HBU := Aside0.mk (builder_of hb1); have HB1 := Aside0.mk (below_then (Below.refl w.heap.size w) (Nat.le_refl _) (Below.trans ((Below.refl w.heap.size w).alloc (Nat.le_refl _) _) hbl1)); clear hb1 hbl1 ho1) | (go_at_call 41; go_must (refine (find_newIndex.calls kf a0 _ _ _ _ HKF.out).mono ?_); rintro e w2 ⟨v1, v2, rfl, hr1, hr2, hb2⟩; obtain ⟨A1, c1, rfl⟩ := Kd.R_slice hr1; obtain ⟨A2, c2, rfl⟩ := Kd.R_slice hr2; have HR1 := Aside0.mk hr1; have HR2 := Aside0.mk hr2; have HB2 := Aside0.mk hb2; clear hr1 hr2 hb2))
  have HL1 := Aside0.mk (ordI_length a0)
  have HBU2 := Aside0.mk (HBU.out.below HB2.out)
  have HBB := Aside0.mk (below_step HB1.out HB2.out)
  clear HBU HB1 HBN HC0 hs4
  go_loopw [24, 6] (fun v24 v6 wr => ∃ k : Nat, k ≤ a0.size ∧ v24 = .int .i64 k ∧ v6 = .int .i64 ((markN (sufOrd a0.data.toList) k : Nat) : Int) ∧ Aside0 (Lib.IsBuilderF 68 5 w.heap.size w.heap.size (Lib.byteCells (accN a0.data.toList (sufOrd a0.data.toList) k)) wr) ∧ Aside0 (Kd.R (Kd.int .i64) 3 wr w1.heap.size (fun _ => True) (.slice A1 (ordI a0).length c1) (ordI a0)) ∧ Aside0 (Below w.heap.size w wr)) (fun v24 _ _ => a0.size - (intOf v24).toNat)
  case atStart => exact ⟨0, by omega, rfl, rfl, HBU2, ⟨Kd.R_mono HR1.out (fun _ _ => trivial)⟩, HBB⟩
  case round =>
    obtain ⟨k, hk, rfl, rfl, HBU, HR, HB⟩ := hrel
    clear HBU2 HBB HR1 HR2
    by_cases hlt : k < a0.size
    · obtain ⟨ad, rfl, hx⟩ := Kd.at_int (Kd.R_reads' HR.out).2.2 (k : Int) (by omega) (by rw [HL1.out]; omega)
      rw [rd_ordI a0 k hlt, Int.toNat_natCast] at hx
      have hkl : (k : Int) < (((ordI a0).length : Nat) : Int) := by rw [HL1.out]; omega
      have hoi : (sufOrd a0.data.toList).getD k 0 < a0.size := by
        rw [← HSZ.out]
        exact sufOrd_lt _ _ (getD_mem _ k (by rw [sufOrd_length, HSZ.out]; exact hlt))
      by_cases hz : (sufOrd a0.data.toList).getD k 0 = 0
      · have hm := Aside0.mk (markN_hit hz)
        have ha := Aside0.mk (accN_skip (s := a0.data.toList) hz)
        rw [hz] at hx
        go_wp2
        go_roundw
        case rel =>
          refine ⟨k + 1, by omega, by go_num, ?_, ⟨by rw [ha.out]; exact HBU.out⟩, HR, HB⟩
          rw [hm.out]; rfl
        case measure => simp [intOf]; omega
      · have hm := Aside0.mk (markN_miss hz)
        have ha := Aside0.mk (accN_take (s := a0.data.toList) hz)
        generalize (sufOrd a0.data.toList).getD k 0 = i at *
        have hne0 : ((i : Int) == 0) = false := by rw [beq_eq_false_iff_ne]; omega
        have hi1 : ((i : Nat) : Int) < ((a0.size : Nat) : Int) := by omega
        have hi0 : 0 < ((i : Nat) : Int) := by omega
        have hal := accN_length a0.data.toList (sufOrd a0.data.toList) k
        have hby : Aside0 (Lib.byteCells (accN a0.data.toList (sufOrd a0.data.toList) k) ++ [Value.int .u8 (a0[i - 1].toNat : Int)] = Lib.byteCells (accN a0.data.toList (sufOrd a0.data.toList) (k + 1))) := ⟨by rw [byteCells_snoc, ha.out, getD_at a0 (i - 1) (by omega)]⟩
        have hal2 : Aside0 ((Lib.byteCells (accN a0.data.toList (sufOrd a0.data.toList) k)).length + 1 ≤ 140737488355328) := ⟨by simp [Lib.byteCells]; omega⟩
        clear hal
        go_wp2_with (first | (go_at_call 44; go_must (refine (Try.Builder_WriteByte_k w.heap.size w.heap.size _ _ _ HBU.out hal2.out HB.out.size).mono ?_); rintro e w3 ⟨rfl, hb3, hbl3, ho3⟩; have HBU3 := Aside0.mk (builder_of hb3); have HB3 := Aside0.mk (Below.trans HB.out hbl3); have HO3 := Aside0.mk ho3; clear hb3 hbl3 ho3))
        go_roundw
        case rel =>
          have hA := HR.out
          refine ⟨k + 1, by omega, by go_num, ?_, ⟨by rw [← hby.out]; exact HBU3.out⟩, ⟨R_others HR.out HO3.out ?_⟩, HB3⟩
          · rw [hm.out]
          · intro e
            have h1 := own_base (Kd.own_of_R HR.out) _ e
            have h2 := HLT.out
            omega
        case measure => simp [intOf]; omega
    · obtain rfl : k = a0.size := by omega
      have hkl : ¬ ((a0.size : Nat) : Int) < (((ordI a0).length : Nat) : Int) := by rw [HL1.out]; omega
      go_wp2_with (first | (go_at_call 45; go_must (refine (Try.Builder_String_any_k w.heap.size w.heap.size _ _ HBU.out HB.out.size).mono ?_); rintro e w3 ⟨rfl, hb3, hbl3, ho3⟩; have HB3 := Aside0.mk (Below.trans HB.out hbl3); clear hb3 hbl3 ho3))
      refine bodyPost_ret (results_tmp3 rfl _ _ _) rfl ?_
      exact ⟨rfl, HB3.out⟩
/-- what Turn answers -/
def find_Turn.f (a0 : ByteArray) : Option (ByteArray × Int × Int) :=
  some (if 4096 < a0.size then ((⟨#[]⟩ : ByteArray), 0, 2) else if a0.size = 0 then ((⟨#[]⟩ : ByteArray), 0, 0) else ((⟨(bwt a0.data.toList).toArray⟩ : ByteArray), (bmark a0.data.toList : Int), 0))
set_option maxHeartbeats 2000000 in
set_option maxRecDepth 100000 in
theorem turn_long_calls (a0 : ByteArray) (hs : (4096 : Int) < (a0.size : Int)) (w : World) :
    Calls Try.prog 23 #[.string a0] w fun e w' => e = .returned (.tuple #[.string (⟨#[]⟩ : ByteArray), .int .i64 0, .int .i64 2]) ∧ Below w.heap.size w w' := by
  have HB := Aside0.mk (Below.refl w.heap.size w)
  go_enter Try.func23, Try.ntmps23
  go_wp2
  refine bodyPost_ret (results_tmp3 rfl _ _ _) rfl ?_
  refine ⟨rfl, ?_⟩
  repeat (first | (with_reducible first | exact HB.out | apply below_alloc | apply pw_below_drewN | apply below_drew1) | exact HB.out)
set_option maxHeartbeats 2000000 in
set_option maxRecDepth 100000 in
theorem turn_empty_calls (w : World) :
    Calls Try.prog 23 #[.string (⟨#[]⟩ : ByteArray)] w fun e w' => e = .returned (.tuple #[.string (⟨#[]⟩ : ByteArray), .int .i64 0, .int .i64 0]) ∧ Below w.heap.size w w' := by
  have HB := Aside0.mk (Below.refl w.heap.size w)
  have hse : ((⟨#[]⟩ : ByteArray).toList == []) = true := by kernel_rfl
  go_enter Try.func23, Try.ntmps23
  go_wp2
  refine bodyPost_ret (results_tmp3 rfl _ _ _) rfl ?_
  refine ⟨rfl, ?_⟩
  repeat (first | (with_reducible first | exact HB.out | apply below_alloc | apply pw_below_drewN | apply below_drew1) | exact HB.out)
theorem find_Turn.calls (a0 : ByteArray) (r1 : ByteArray) (r2 r3 : Int) (w : World) (h : find_Turn.f a0 = some (r1, r2, r3)) :
    Calls Try.prog 23 #[.string a0] w fun e w' => e = .returned (.tuple #[.string r1, .int .i64 r2, .int .i64 r3]) ∧ Below w.heap.size w w' := by
  rw [find_Turn.f, Option.some.injEq] at h
  by_cases h1 : 4096 < a0.size
  · rw [if_pos h1] at h
    obtain ⟨rfl, rfl, rfl⟩ := h
    exact turn_long_calls a0 (by omega) w
  · rw [if_neg h1] at h
    by_cases h2 : a0.size = 0
    · rw [if_pos h2] at h
      obtain ⟨rfl, rfl, rfl⟩ := h
      obtain rfl : a0 = ⟨#[]⟩ := by
        obtain ⟨d⟩ := a0
        have h3 : d.size = 0 := h2
        rw [Array.eq_empty_of_size_eq_zero h3]
      exact turn_empty_calls w
    · rw [if_neg h2] at h
      obtain ⟨rfl, rfl, rfl⟩ := h
      exact turn_calls a0 (by omega) (by omega) w
set_option maxHeartbeats 4000000 in
set_option maxRecDepth 100000 in
theorem restore_calls (a0 : ByteArray) (m : Nat) (hs : a0.size ≤ 4096) (hm : m ≤ a0.size) (w : World) :
    Calls Try.prog 25 #[.string a0, .int .i64 m] w fun e w' => e = (if (∀ j, j < a0.size → rowNo a0.data.toList m j ≠ m) ∧ rowNo a0.data.toList m a0.size = m then .returned (.tuple #[.string ⟨(metL a0.data.toList m).toArray⟩, .int .i64 0]) else .returned (.tuple #[.string (⟨#[]⟩ : ByteArray), .int .i64 70])) ∧ Below w.heap.size w w' := by
  have hsz : a0.data.toList.length = a0.size := data_length a0
  have HSZ := Aside0.mk hsz
  clear hsz
  have HG0 := Aside0.mk (show (w.alloc (Obj.cells Try.zeroCells73 73)).heap[w.heap.size]? = some (.cells (nums .i64 (List.replicate 256 0)).toArray 73 (0, 0)) by rw [← zero73]; exact heap_alloc_new _ _)
  have HB0 := Aside0.mk ((Below.refl w.heap.size w).alloc (Nat.le_refl _) (Obj.cells Try.zeroCells73 73))
  have hs4 : ¬ (4096 : Int) < ((a0.size : Nat) : Int) := by omega
  have hm1 : ¬ ((a0.size : Nat) : Int) < (m : Int) := by omega
  have hm0 : ¬ (m : Int) < 0 := by omega
  obtain ⟨E, hE⟩ : ∃ E : Ending, (if (∀ j, j < a0.size → rowNo a0.data.toList m j ≠ m) ∧ rowNo a0.data.toList m a0.size = m then .returned (.tuple #[.string ⟨(metL a0.data.toList m).toArray⟩, .int .i64 0]) else .returned (.tuple #[.string (⟨#[]⟩ : ByteArray), .int .i64 70])) = E := ⟨_, rfl⟩
  have HE := Aside0.mk hE
  rw [hE]
  clear hE
  go_enter Try.func25, Try.ntmps25
  go_wp2
  clear hs4 hm0
  go_loopw [30] (fun v30 wr => ∃ (k : Nat) (cur : List Int), k ≤ a0.size ∧ v30 = .int .i64 k ∧ Aside0 (IsOcc a0.data.toList k cur) ∧ Aside0 (wr.heap[w.heap.size]? = some (.cells (nums .i64 cur).toArray 73 (0, 0))) ∧ Aside0 (Below w.heap.size w wr)) (fun v30 _ => a0.size - (intOf v30).toNat)
  case atStart => exact ⟨0, _, by omega, rfl, ⟨isOcc_zero _⟩, HG0, HB0⟩
  case round =>
    obtain ⟨k, cur, hk, rfl, HO, HG, HB⟩ := hrel
    clear HG0 HB0
    by_cases hlt : k < a0.size
    · have hc8 : a0[k].toNat < 256 := a0[k].toNat_lt
      have hcI : ((a0[k].toNat : Nat) : Int) < 256 := by omega
      have hcell : wr.cell? ⟨w.heap.size, a0[k].toNat, none⟩ = some (.int .i64 (el cur a0[k].toNat)) := blk_num HG.out a0[k].toNat (by rw [HO.out.1]; exact hc8)
      have hfr := blk_frozen HG.out a0[k].toNat
      have ho1 := HO.out.2 _ hc8
      have ho2 := occ_le a0.data.toList k a0[k].toNat
      have hge : 0 ≤ el cur a0[k].toNat := by omega
      have hle : el cur a0[k].toNat ≤ 4096 := by omega
      clear ho1 ho2
      have HG' := Aside0.mk (blk_store HG.out a0[k].toNat (el cur a0[k].toNat + 1))
      have HB' := Aside0.mk (below_set HB.out (Nat.le_refl _) : Below w.heap.size w (wr.setCell ⟨w.heap.size, a0[k].toNat, none⟩ (.int .i64 (el cur a0[k].toNat + 1))))
      have HO' : Aside0 (IsOcc a0.data.toList (k + 1) (cur.set a0[k].toNat (el cur a0[k].toNat + 1))) := ⟨isOcc_step HO.out (by rw [HSZ.out]; exact hlt)⟩
      go_wp2
      go_roundw
      case rel => exact ⟨k + 1, _, by omega, by go_num, HO', HG', HB'⟩
      case measure => simp [intOf]; omega
    · obtain rfl : k = a0.size := by omega
      have hb := HO.out.2
      have hbd : ∀ i, 0 ≤ rd cur i ∧ rd cur i ≤ 1099511627776 := fun i => by
        rw [show rd cur i = el cur i.toNat from rfl]
        by_cases hi : i.toNat < 256
        · rw [hb _ hi]
          have := occ_le a0.data.toList a0.size i.toNat
          omega
        · unfold el; rw [List.getD_eq_getElem?_getD, List.getElem?_eq_none (by rw [HO.out.1]; omega)]
          simp
      have HBD := Aside0.mk hbd
      clear hb hbd
      have HCL := Aside0.mk (show cur.length = 256 from HO.out.1)
      have hz1 : 0 ≤ ((a0.size : Nat) : Int) + 1 := by omega
      have hz2 : (((a0.size : Nat) : Int) + 1).toNat * 8 ≤ 281474976710656 := by omega
      go_wp2_with (first | (go_at_call 46; go_must (with_reducible refine (find_buckets_starts_calls cur HCL.out HBD.out _).mono ?_); rintro e w1 ⟨rfl, hb1⟩; have HB1 := Aside0.mk (below_step HB.out hb1); clear hb1) | (refine wpList_load_row rfl 73 (.tmp 7) rfl w.heap.size rfl 73 (nums .i64 cur).toArray (0, 0) _ HG.out Try.underlying73 rfl ?hi ?_) | (refine wpList_store_row rfl 73 (.tmp 9) (.tmp 42) rfl w1.heap.size (nums .i64 (startsL cur)).toArray rfl rfl 73 Try.zeroCells73 (heap_alloc_new _ _) ?hi2 ?hi3 (nums_one _) ?_) | ((with_reducible refine gate_dst (N := 45) rfl ?_); go_must (refine Kd.R_make (Kd.int .i64) _ 3 rfl (N := 45) rfl 22 _ _ rfl ((a0.size : Int) + 1) rfl rfl Try.underlying22 (.int .i64 0) 8 info3 rfl (by decide) (by omega) 0 (ok := fun _ => True) (okp := fun _ => True) rfl (fun _ hk => hk) trivial hz1 hz2 (Below.refl _ _) (Nat.le_refl _) ?_); intro v2 w2 ho2 hb2 hg2_ hnew2_))
      case hi => rw [info73, nums_size, HCL.out]
      case hi2 => rw [info73, nums_size, startsL, List.length_map, List.length_range, HCL.out]
      case hi3 => rw [zero73, nums_size, nums_size, List.length_replicate, startsL, List.length_map, List.length_range, HCL.out]
      have hbx := below_setRow (below_alloc HB1.out (Obj.cells Try.zeroCells73 73)) HB1.out.size (nums IntKind.i64 (startsL cur)).toArray
      have HB2 := Aside0.mk (below_step hbx hb2)
      have hax : ((w1.alloc (Obj.cells Try.zeroCells73 73)).setRow w1.heap.size (nums IntKind.i64 (startsL cur)).toArray).heap[w1.heap.size]? = some (.cells (nums .i64 (startsL cur)).toArray 73 (0, 0)) := setRow_heap _ _ _ _ _ _ (heap_alloc_new _ _)
      have HA2 := Aside0.mk (blk_below hax hb2)
      have HO2 := Aside0.mk (Kd.R_lower ho2 hbx.size)
      have HI2 : Aside0 (IsAt a0.data.toList 0 (startsL cur)) := ⟨isAt_starts (by rw [HSZ.out]; exact HO.out)⟩
      have HU2 : Aside0 (IsLead a0.data.toList m 0 (List.replicate (((a0.size : Nat) : Int) + 1).toNat 0)) := ⟨isLead_zero _ _ _ (by rw [HSZ.out]; omega)⟩
      have HG1 := Aside0.mk (HB1.out.size)
      clear ho2 hb2 hg2_ hnew2_ hbx hax HO HBD HG HB hz1 hz2 HCL HB1
      have hbix0 : bix 0 m = 0 := bix_zero m
      go_loopw [48] (fun v48 wr => ∃ (k : Nat) (acur ld : List Int), k ≤ a0.size + 1 ∧ v48 = .int .i64 k ∧ Aside0 (IsAt a0.data.toList (bix k m) acur) ∧ Aside0 (IsLead a0.data.toList m k ld) ∧ Aside0 (wr.heap[w1.heap.size]? = some (.cells (nums .i64 acur).toArray 73 (0, 0))) ∧ Aside0 (Kd.R (Kd.int .i64) 3 wr w.heap.size (fun _ => True) v2 ld) ∧ Aside0 (Below w.heap.size w wr)) (fun v48 _ => a0.size + 1 - (intOf v48).toNat)
      case atStart => exact ⟨0, _, _, by omega, rfl, (by rw [hbix0]; exact HI2), HU2, HA2, HO2, HB2⟩
      case round =>
        obtain ⟨k, acur, ld, hk, rfl, HI, HU, HA, HO, HB⟩ := hrel
        clear HI2 HU2 HA2 HO2 HB2 hbix0
        by_cases hlt : k < a0.size + 1
        · have hltI : ((k : Nat) : Int) < ((a0.size : Nat) : Int) + 1 := by omega
          by_cases hkm : k = m
          · subst hkm
            have hU' : Aside0 (IsLead a0.data.toList k (k + 1) ld) := ⟨isLead_skip HU.out⟩
            have hI' : Aside0 (IsAt a0.data.toList (bix (k + 1) k) acur) := ⟨by rw [bix_mark, ← bix_self k]; exact HI.out⟩
            clear HI HU
            go_wp2
            go_roundw
            case rel => exact ⟨k + 1, _, _, by omega, by go_num, hI', hU', HA, HO, HB⟩
            case measure => simp [intOf]; omega
          · have hkmI : ((k : Nat) : Int) ≠ (m : Int) := by omega
            have hkmB : (((k : Nat) : Int) == (m : Int)) = false := by rw [beq_eq_false_iff_ne]; exact hkmI
            have hbl : bix k m < a0.size := bix_lt (by omega) hm hkm
            have hbn : bix (k + 1) m = bix k m + 1 := bix_next hkm
            have hU' : Aside0 (IsLead a0.data.toList m (k + 1) (ld.set k (1 + (pos a0.data.toList (bix k m) : Int)))) := ⟨isLead_step HU.out (by rw [HSZ.out]; omega) hkm⟩
            have HIX := Aside0.mk (index_calls k m (by omega))
            obtain ⟨j, hj⟩ : ∃ j, bix k m = j := ⟨_, rfl⟩
            rw [hj] at hbl hbn hU' HI HIX
            have hks : j < a0.data.toList.length := by rw [HSZ.out]; exact hbl
            have hc8 : a0[j].toNat < 256 := a0[j].toNat_lt
            have hcI : ((a0[j].toNat : Nat) : Int) < 256 := by omega
            have hp := pos_eq a0.data.toList j hks
            have hpl := pos_lt a0.data.toList j hks
            have he : el acur a0[j].toNat = (pos a0.data.toList j : Int) := by rw [HI.out.2 _ hc8, hp]; simp; rfl
            have hcell : wr.cell? ⟨w1.heap.size, a0[j].toNat, none⟩ = some (.int .i64 (pos a0.data.toList j : Int)) := by
              rw [← he]; exact blk_num HA.out a0[j].toNat (by rw [HI.out.1]; exact hc8)
            have hll : ld.length = a0.size + 1 := by rw [HU.out.1, HSZ.out]
            obtain ⟨g, cp, rfl, hg1, hg2, cl, hgc⟩ := Kd.R_form HO.out (by omega)
            obtain ⟨hx, hf⟩ := Kd.R_celln 0 HO.out (k : Int) (by omega) (by omega)
            have HP := Kd.R_putg HO.out (k : Int) (1 + (pos a0.data.toList j : Int))
            have hne : g ≠ w1.heap.size := fun e => by rw [e, HA.out] at hgc; simp at hgc
            have hps : pos a0.data.toList j ≤ 4096 := by
              have h1 := HSZ.out
              omega
            have hI' : Aside0 (IsAt a0.data.toList (bix (k + 1) m) (acur.set a0[j].toNat ((pos a0.data.toList j : Int) + 1))) := ⟨by
              have h1 := isAt_step HI.out hks
              rw [show el acur (a0.data.toList[j]).toNat = (pos a0.data.toList j : Int) from he] at h1
              rw [hbn]
              exact h1⟩
            generalize pos a0.data.toList j = p at *
            simp only [Int.toNat_natCast] at hx hf HP
            have hfr2 : (wr.setCell ⟨g, k, none⟩ (.int .i64 (1 + (p : Int)))).frozen? ⟨w1.heap.size, a0[j].toNat, none⟩ = false := blk_frozen (blk_far HA.out (p := ⟨g, k, none⟩) (fun e => hne e.symm) _) _
            have hA1 := blk_far HA.out (p := ⟨g, k, none⟩) (fun e => hne e.symm) (.int .i64 (1 + (p : Int)))
            have hcell2 : (wr.setCell ⟨g, k, none⟩ (.int .i64 (1 + (p : Int)))).cell? ⟨w1.heap.size, a0[j].toNat, none⟩ = some (.int .i64 (p : Int)) := by
              rw [blk_cell hA1, ← blk_cell HA.out]; exact hcell
            have HA' := Aside0.mk (blk_store hA1 a0[j].toNat ((p : Int) + 1))
            have HO' := Aside0.mk (Kd.R_set HP.1 hA1 (by intro q hq; simp [Kd.int, Kd.scalar] at hq; omega) a0[j].toNat (.int .i64 ((p : Int) + 1)))
            have HB' : Aside0 (Below w.heap.size w ((wr.setCell ⟨g, k, none⟩ (.int .i64 (1 + (p : Int)))).setCell ⟨w1.heap.size, a0[j].toNat, none⟩ (.int .i64 ((p : Int) + 1)))) := ⟨below_set (below_set HB.out hg1) HG1.out⟩
            have hpl3 : ((k : Nat) : Int) < (ld.length : Int) := by omega
            have hjI : ((j : Nat) : Int) < ((a0.size : Nat) : Int) := by omega
            clear HP hA1 hgc he HI HU HO HB HA hp hpl hj hbn hll
            go_wp2_with (first | (go_at_call 47; go_must (refine (HIX.out _).mono ?_); rintro e w9 ⟨rfl, rfl⟩))
            go_roundw
            case rel => exact ⟨k + 1, _, _, by omega, by go_num, hI', hU', HA', HO', HB'⟩
            case measure => simp [intOf]; omega
        · obtain rfl : k = a0.size + 1 := by omega
          have hltI : ¬ (((a0.size + 1 : Nat) : Nat) : Int) < ((a0.size : Nat) : Int) + 1 := by omega
          clear HI HA
          have hz1 : 0 ≤ ((a0.size : Nat) : Int) := by omega
          have hz2 : ((a0.size : Nat) : Int).toNat * 1 ≤ 281474976710656 := by omega
          have HLL := Aside0.mk (show ld.length = a0.size + 1 by rw [HU.out.1, HSZ.out])
          go_wp2_with (first | ((with_reducible refine gate_dst (N := 73) rfl ?_); go_must (refine Kd.R_make (Kd.int .u8) _ 5 rfl (N := 73) rfl 66 _ _ rfl (a0.size : Int) rfl rfl Try.underlying66 (.int .u8 0) 1 info5 rfl (by decide) (by omega) 0 (ok := fun k => wr.heap.size ≤ k) (okp := fun k => wr.heap.size ≤ k) rfl (fun _ hk => hk) (Nat.le_refl _) hz1 hz2 (Below.refl _ _) (Nat.le_refl _) ?_); intro v3 w3 ho3 hb3 hg3_ hnew3_))
          have HB3 := Aside0.mk (below_step HB.out hb3)
          have HO3 := Aside0.mk (Kd.R_below (Kd.R_mono (ok' := fun k => k < wr.heap.size) (Kd.R_bound HO.out) (fun k hk => hk.2.2.1)) hb3)
          have HK3 := Aside0.mk (Kd.R_lower ho3 HB.out.size)
          have HM3 : Aside0 (IsMet a0.data.toList m a0.size (List.replicate ((a0.size : Nat) : Int).toNat 0)) := ⟨by
            have h := isMet_zero a0.data.toList m ((a0.size : Nat) : Int).toNat (by rw [HSZ.out]; omega)
            rwa [HSZ.out] at h⟩
          have HWS := Aside0.mk HB.out.size
          clear ho3 hb3 hg3_ hnew3_ hz1 hz2 HB HO
          obtain ⟨W, hW⟩ : ∃ W : World, W = wr := ⟨_, rfl⟩
          subst hW
          go_loopw [4, 5, 14, 15] (fun v4 v5 v14 v15 wx => ∃ (k : Nat) (out : List Int), k ≤ a0.size ∧ v4 = .string ⟨#[]⟩ ∧ v5 = .int .i64 0 ∧ v15 = .int .i64 ((k : Int) - 1) ∧ v14 = .int .i64 ((rowNo a0.data.toList m (a0.size - k) : Nat) : Int) ∧ Aside0 (∀ j, j < a0.size - k → rowNo a0.data.toList m j ≠ m) ∧ Aside0 (IsMet a0.data.toList m k out) ∧ Aside0 (Kd.R (Kd.int .i64) 3 wx w.heap.size (fun k => k < W.heap.size) v2 ld) ∧ Aside0 (Kd.R (Kd.int .u8) 5 wx w.heap.size (fun k => W.heap.size ≤ k) v3 out) ∧ Aside0 (Below w.heap.size w wx)) (fun _ _ _ v15 _ => (intOf v15 + 1).toNat)
          case atStart => exact ⟨a0.size, _, by omega, rfl, rfl, by rfl, by rw [Nat.sub_self]; rfl, ⟨fun j hj => by omega⟩, HM3, HO3, HK3, HB3⟩
          case round =>
            obtain ⟨k, out, hk, rfl, rfl, rfl, rfl, HN, HM, HO, HK, HB⟩ := hrel
            clear HO3 HK3 HM3 HB3
            have hrl := rowNo_le a0.data.toList (m := m) (by rw [HSZ.out]; exact hm) (a0.size - k)
            rw [HSZ.out] at hrl
            rcases k with _ | k
            · have hcvt := own_string (P := Try.prog) Try.underlying66 Try.underlying5 Try.underlying9 (Kd.own_of_R HK.out)
              by_cases hrm : rowNo a0.data.toList m (a0.size - 0) = m
              · have HEE := Aside0.mk (HE.out.symm.trans (if_pos ⟨fun j hj => HN.out j (by omega), hrm⟩))
                have HST := Aside0.mk (isMet_str HM.out)
                rw [hrm]
                clear HM HN HO HE hrm hrl
                go_wp2
                go_ret2
                refine ⟨?_, HB.out⟩
                rw [← HST.out] at HEE
                exact HEE.out.symm
              · have HEE := Aside0.mk (HE.out.symm.trans (if_neg (fun h => hrm h.2)))
                have hne : ¬ ((rowNo a0.data.toList m (a0.size - 0) : Nat) : Int) = (m : Int) := by omega
                generalize rowNo a0.data.toList m (a0.size - 0) = r at *
                clear HM HN HO HE hrm
                go_wp2
                go_ret2
                exact ⟨HEE.out.symm, HB.out⟩
            · by_cases hrm : rowNo a0.data.toList m (a0.size - (k + 1)) = m
              · have HEE := Aside0.mk (HE.out.symm.trans (if_neg (fun h => h.1 (a0.size - (k + 1)) (by omega) hrm)))
                rw [hrm]
                clear HM HN HO HE hrm hrl
                go_wp2
                go_ret2
                exact ⟨HEE.out.symm, HB.out⟩
              · have hne : ¬ ((rowNo a0.data.toList m (a0.size - (k + 1)) : Nat) : Int) = (m : Int) := by omega
                have HN' : Aside0 (∀ j, j < a0.size - k → rowNo a0.data.toList m j ≠ m) := ⟨fun j hj => by
                  by_cases e : j = a0.size - (k + 1)
                  · rw [e]; exact hrm
                  · exact HN.out j (by omega)⟩
                have hstep : rowNo a0.data.toList m (a0.size - k) = lead a0.data.toList m (rowNo a0.data.toList m (a0.size - (k + 1))) := by
                  rw [show a0.size - k = (a0.size - (k + 1)) + 1 by omega]; rfl
                have hbl : bix (rowNo a0.data.toList m (a0.size - (k + 1))) m < a0.size := bix_lt hrl hm hrm
                have hM' := isMet_step HM.out (by rw [HSZ.out]; omega)
                rw [HSZ.out, show a0.size - 1 - k = a0.size - (k + 1) by omega] at hM'
                have hldr := HU.out.2.1 (rowNo a0.data.toList m (a0.size - (k + 1))) (by omega)
                rw [← hstep] at hldr
                have HST := Aside0.mk hstep
                clear hstep
                have hoL : out.length = a0.size := by rw [HM.out.1, HSZ.out]
                generalize rowNo a0.data.toList m (a0.size - (k + 1)) = r at *
                obtain ⟨r', hr'⟩ : ∃ r', rowNo a0.data.toList m (a0.size - k) = r' := ⟨_, rfl⟩
                rw [hr'] at hldr HST
                have HR' := Aside0.mk hr'
                clear hr'
                have HIX := Aside0.mk (index_calls r m (by omega))
                generalize bix r m = j at *
                rw [getD_at a0 j hbl] at hM'
                have hjI : ((j : Nat) : Int) < ((a0.size : Nat) : Int) := by omega
                obtain ⟨g, cp, rfl, hg1, hg2, cl, hgc⟩ := Kd.R_form HK.out (by omega)
                obtain ⟨g4, cp4, rfl, hg41, hg42, cl4, hgc4⟩ := Kd.R_form HO.out (by rw [HLL.out]; omega)
                obtain ⟨hx, hf⟩ := Kd.R_celln 0 HK.out (k : Int) (by omega) (by omega)
                have hne2 : g4 ≠ g := by
                  have h1 := HO.out.1 g4 rfl
                  have h2 := HK.out.1 g rfl
                  omega
                have HP := Kd.R_putg HK.out (k : Int) ((a0[j].toNat : Nat) : Int)
                have HO' := Aside0.mk (Kd.R_far HO.out (p := ⟨g, k, none⟩) (fun q hq => by have h2 := HK.out.1 g rfl; simp; omega) (.int .u8 ((a0[j].toNat : Nat) : Int)))
                have HB' : Aside0 (Below w.heap.size w (wr.setCell ⟨g, k, none⟩ (.int .u8 ((a0[j].toNat : Nat) : Int)))) := ⟨below_set HB.out hg1⟩
                obtain ⟨hx4, hf4⟩ := Kd.R_celln 0 HO'.out (r : Int) (by omega) (by rw [HLL.out]; omega)
                simp only [Int.toNat_natCast] at hx hf HP hx4 hf4
                rw [show rdOf 0 ld (r : Int) = el ld r from by simp [rdOf, el], hldr] at hx4
                have HP' := Aside0.mk HP.1
                have HM' := Aside0.mk hM'
                have hLI : ((r : Nat) : Int) < ((ld.length : Nat) : Int) := by rw [HLL.out]; omega
                have hkI : ((k : Nat) : Int) < ((out.length : Nat) : Int) := by omega
                clear HP hM' HM HN HO HK HB hgc hgc4 hldr HU hoL
                go_wp2_with (first | (go_at_call 47; go_must (refine (HIX.out _).mono ?_); rintro e w9 ⟨rfl, rfl⟩))
                go_roundw
                case rel =>
                  exact ⟨k, _, by omega, rfl, rfl, by go_num, by rw [HR'.out], HN', HM', HO', HP', HB'⟩
                case measure => simp [intOf] <;> omega
theorem find_Restore.calls (a0 : ByteArray) (a1 : Int) (r1 : ByteArray) (r2 : Int) (w : World) (h : find_Restore.f a0 a1 = some (r1, r2)) :
    Calls Try.prog 25 #[.string a0, .int .i64 a1] w fun e w' => e = .returned (.tuple #[.string r1, .int .i64 r2]) ∧ Below w.heap.size w w' := by
  rw [find_Restore.f, Option.some.injEq] at h
  by_cases h1 : 4096 < a0.size ∨ a1 < 0 ∨ (a0.size : Int) < a1
  · rw [if_pos h1] at h
    obtain ⟨rfl, rfl⟩ := h
    exact restore_arg_calls a0 a1 h1 w
  · rw [if_neg h1] at h
    obtain ⟨m, rfl⟩ : ∃ m : Nat, a1 = (m : Int) := ⟨a1.toNat, by omega⟩
    have h2 := restore_calls a0 m (by omega) (by omega) w
    rw [Int.toNat_natCast] at h
    refine h2.mono ?_
    rintro e w' ⟨rfl, hb⟩
    refine ⟨?_, hb⟩
    split at h <;> (rename_i hc; obtain ⟨rfl, rfl⟩ := h)
    · rw [if_pos hc]
    · rw [if_neg hc]
end Go.Proofs.Ytppelnlocfcgfaa.P
namespace Go.Proofs.Ytppelnlocfcgfaa.P
open Go.RowKit Go.Proofs.YtppelnlocfcgfaaW.PrintWords Go.Proofs.YtppelnlocfcgfaaW.PrintLast Go.Proofs.YtppelnlocfcgfaaW.PrintMore
attribute [local go_sem] max2_int min2_int max_two min_two max_three min_three max_four min_four   -- for this text's walks alone

/-! ### silversidelaw07_awake: function 21 -/
def silversidelaw07_awake.f (k : Nat)  : Option (Bool) := (find_New.f k (⟨#[98, 97, 110, 97, 110, 97]⟩ : ByteArray)).bind fun bt148 => ((find_Index_Repeat.f k bt148.1 bt148.2.1 bt148.2.2.1).bind fun bt157 => ((find_Turn.f (⟨#[98, 97, 110, 97, 110, 97]⟩ : ByteArray)).bind fun bt160 => ((find_Restore.f (⟨#[97, 110, 110, 98, 97, 97]⟩ : ByteArray) 4).bind fun bt163 => (if bt148.2.2.2 = 0 then (if bt157.1.toList = ([97, 110, 97] : List UInt8) then (if bt157.2.1 = 2 then (if bt157.2.2 = 0 then ((find_Index_Distinct.f k bt148.1 bt148.2.1 bt148.2.2.1).bind fun t165 => (if t165 = 15 then (if bt160.1.toList = ([97, 110, 110, 98, 97, 97] : List UInt8) then (if bt160.2.1 = 4 then (if bt160.2.2 = 0 then (if bt163.1.toList = ([98, 97, 110, 97, 110, 97] : List UInt8) then (if bt163.2 = 0 then (some true) else (some false)) else (some false)) else (some false)) else (some false)) else (some false)) else (some false))) else (some false)) else (some false)) else (some false)) else (some false)))))
theorem silversidelaw07_awake.mono : ∀ k, LeO (silversidelaw07_awake.f k ) (silversidelaw07_awake.f (k + 1) ) := by
 intro  k
 unfold silversidelaw07_awake.f
 repeat' first
   | (with_reducible exact find_Index_Distinct.mono _ _ _ _)
   | (with_reducible exact find_Index_Repeat.mono _ _ _ _)
   | (with_reducible exact find_New.mono _ _)
   | (with_reducible exact LeO.refl _)
   | (with_reducible exact LeO.none _)
   | (with_reducible refine LeO.ite ?_ ?_)
   | (with_reducible refine LeO.bind ?_ (fun _ => ?_))
   | exact find_Index_Distinct.mono _ _ _ _
   | exact find_Index_Repeat.mono _ _ _ _
   | exact find_New.mono _ _
   | exact LeO.none _
   | refine LeO.ite ?_ ?_
   | refine LeO.bind ?_ (fun _ => ?_)
set_option maxHeartbeats 8000000 in
set_option maxRecDepth 100000 in
theorem silversidelaw07_awake.calls (k : Nat)  (r : Bool) (w : World) (h : silversidelaw07_awake.f k  = some r) :
  Calls Try.prog 21 #[] w fun e w' => e = .returned (.bool r) ∧ Below w.heap.size w w' := by
 have hu24 := Try.underlying24
 have HB := Aside0.mk (Below.refl w.heap.size w)
 have H : ((find_New.f k (⟨#[98, 97, 110, 97, 110, 97]⟩ : ByteArray)).bind fun bt148 => ((find_Index_Repeat.f k bt148.1 bt148.2.1 bt148.2.2.1).bind fun bt157 => ((find_Turn.f (⟨#[98, 97, 110, 97, 110, 97]⟩ : ByteArray)).bind fun bt160 => ((find_Restore.f (⟨#[97, 110, 110, 98, 97, 97]⟩ : ByteArray) 4).bind fun bt163 => (if bt148.2.2.2 = 0 then (if bt157.1.toList = ([97, 110, 97] : List UInt8) then (if bt157.2.1 = 2 then (if bt157.2.2 = 0 then ((find_Index_Distinct.f k bt148.1 bt148.2.1 bt148.2.2.1).bind fun t165 => (if t165 = 15 then (if bt160.1.toList = ([97, 110, 110, 98, 97, 97] : List UInt8) then (if bt160.2.1 = 4 then (if bt160.2.2 = 0 then (if bt163.1.toList = ([98, 97, 110, 97, 110, 97] : List UInt8) then (if bt163.2 = 0 then (some true) else (some false)) else (some false)) else (some false)) else (some false)) else (some false)) else (some false))) else (some false)) else (some false)) else (some false)) else (some false)))))) = some r := h
 clear h
 replace H := Option.bind_eq_some_iff.mp H
 obtain ⟨⟨t148, t149, t152, t155⟩, A10, H⟩ := H
 replace H : ((find_Index_Repeat.f k t148 t149 t152).bind fun bt157 => ((find_Turn.f (⟨#[98, 97, 110, 97, 110, 97]⟩ : ByteArray)).bind fun bt160 => ((find_Restore.f (⟨#[97, 110, 110, 98, 97, 97]⟩ : ByteArray) 4).bind fun bt163 => (if t155 = 0 then (if bt157.1.toList = ([97, 110, 97] : List UInt8) then (if bt157.2.1 = 2 then (if bt157.2.2 = 0 then ((find_Index_Distinct.f k t148 t149 t152).bind fun t165 => (if t165 = 15 then (if bt160.1.toList = ([97, 110, 110, 98, 97, 97] : List UInt8) then (if bt160.2.1 = 4 then (if bt160.2.2 = 0 then (if bt163.1.toList = ([98, 97, 110, 97, 110, 97] : List UInt8) then (if bt163.2 = 0 then (some true) else (some false)) else (some false)) else (some false)) else (some false)) else (some false)) else (some false))) else (some false)) else (some false)) else (some false)) else (some false))))) = some r := H
 have A1 := Aside0.mk A10
 clear A10
 replace H := Option.bind_eq_some_iff.mp H
 obtain ⟨⟨t157, t158, t159⟩, A20, H⟩ := H
 replace H : ((find_Turn.f (⟨#[98, 97, 110, 97, 110, 97]⟩ : ByteArray)).bind fun bt160 => ((find_Restore.f (⟨#[97, 110, 110, 98, 97, 97]⟩ : ByteArray) 4).bind fun bt163 => (if t155 = 0 then (if t157.toList = ([97, 110, 97] : List UInt8) then (if t158 = 2 then (if t159 = 0 then ((find_Index_Distinct.f k t148 t149 t152).bind fun t165 => (if t165 = 15 then (if bt160.1.toList = ([97, 110, 110, 98, 97, 97] : List UInt8) then (if bt160.2.1 = 4 then (if bt160.2.2 = 0 then (if bt163.1.toList = ([98, 97, 110, 97, 110, 97] : List UInt8) then (if bt163.2 = 0 then (some true) else (some false)) else (some false)) else (some false)) else (some false)) else (some false)) else (some false))) else (some false)) else (some false)) else (some false)) else (some false)))) = some r := H
 have A2 := Aside0.mk A20
 clear A20
 replace H := Option.bind_eq_some_iff.mp H
 obtain ⟨⟨t160, t161, t162⟩, A30, H⟩ := H
 replace H : ((find_Restore.f (⟨#[97, 110, 110, 98, 97, 97]⟩ : ByteArray) 4).bind fun bt163 => (if t155 = 0 then (if t157.toList = ([97, 110, 97] : List UInt8) then (if t158 = 2 then (if t159 = 0 then ((find_Index_Distinct.f k t148 t149 t152).bind fun t165 => (if t165 = 15 then (if t160.toList = ([97, 110, 110, 98, 97, 97] : List UInt8) then (if t161 = 4 then (if t162 = 0 then (if bt163.1.toList = ([98, 97, 110, 97, 110, 97] : List UInt8) then (if bt163.2 = 0 then (some true) else (some false)) else (some false)) else (some false)) else (some false)) else (some false)) else (some false))) else (some false)) else (some false)) else (some false)) else (some false))) = some r := H
 have A3 := Aside0.mk A30
 clear A30
 replace H := Option.bind_eq_some_iff.mp H
 obtain ⟨⟨t163, t164⟩, A40, H⟩ := H
 replace H : (if t155 = 0 then (if t157.toList = ([97, 110, 97] : List UInt8) then (if t158 = 2 then (if t159 = 0 then ((find_Index_Distinct.f k t148 t149 t152).bind fun t165 => (if t165 = 15 then (if t160.toList = ([97, 110, 110, 98, 97, 97] : List UInt8) then (if t161 = 4 then (if t162 = 0 then (if t163.toList = ([98, 97, 110, 97, 110, 97] : List UInt8) then (if t164 = 0 then (some true) else (some false)) else (some false)) else (some false)) else (some false)) else (some false)) else (some false))) else (some false)) else (some false)) else (some false)) else (some false)) = some r := H
 have A4 := Aside0.mk A40
 clear A40
 by_cases c5 : t155 = 0
 ·rw [if_pos c5] at H
  have c5b0 : (t155 == 0) = true := beq_iff_eq.mpr c5
  have c5b1 : (t155 != 0) = false := bne_eq_false_iff_eq.mpr c5
  clear c5
  by_cases c6 : t157.toList = ([97, 110, 97] : List UInt8)
  ·rw [if_pos c6] at H
   have c6b0 : (t157.toList == ([97, 110, 97] : List UInt8)) = true := beq_iff_eq.mpr c6
   have c6b1 : (t157.toList != ([97, 110, 97] : List UInt8)) = false := bne_eq_false_iff_eq.mpr c6
   clear c6
   by_cases c7 : t158 = 2
   ·rw [if_pos c7] at H
    have c7b0 : (t158 == 2) = true := beq_iff_eq.mpr c7
    have c7b1 : (t158 != 2) = false := bne_eq_false_iff_eq.mpr c7
    clear c7
    by_cases c8 : t159 = 0
    ·rw [if_pos c8] at H
     have c8b0 : (t159 == 0) = true := beq_iff_eq.mpr c8
     have c8b1 : (t159 != 0) = false := bne_eq_false_iff_eq.mpr c8
     clear c8
     replace H := Option.bind_eq_some_iff.mp H
     obtain ⟨t165, A90, H⟩ := H
     replace H : (if t165 = 15 then (if t160.toList = ([97, 110, 110, 98, 97, 97] : List UInt8) then (if t161 = 4 then (if t162 = 0 then (if t163.toList = ([98, 97, 110, 97, 110, 97] : List UInt8) then (if t164 = 0 then (some true) else (some false)) else (some false)) else (some false)) else (some false)) else (some false)) else (some false)) = some r := H
     have A9 := Aside0.mk A90
     clear A90
     by_cases c10 : t165 = 15
     ·rw [if_pos c10] at H
      have c10b0 : (t165 == 15) = true := beq_iff_eq.mpr c10
      have c10b1 : (t165 != 15) = false := bne_eq_false_iff_eq.mpr c10
      clear c10
      by_cases c11 : t160.toList = ([97, 110, 110, 98, 97, 97] : List UInt8)
      ·rw [if_pos c11] at H
       have c11b0 : (t160.toList == ([97, 110, 110, 98, 97, 97] : List UInt8)) = true := beq_iff_eq.mpr c11
       have c11b1 : (t160.toList != ([97, 110, 110, 98, 97, 97] : List UInt8)) = false := bne_eq_false_iff_eq.mpr c11
       clear c11
       by_cases c12 : t161 = 4
       ·rw [if_pos c12] at H
        have c12b0 : (t161 == 4) = true := beq_iff_eq.mpr c12
        have c12b1 : (t161 != 4) = false := bne_eq_false_iff_eq.mpr c12
        clear c12
        by_cases c13 : t162 = 0
        ·rw [if_pos c13] at H
         have c13b0 : (t162 == 0) = true := beq_iff_eq.mpr c13
         have c13b1 : (t162 != 0) = false := bne_eq_false_iff_eq.mpr c13
         clear c13
         by_cases c14 : t163.toList = ([98, 97, 110, 97, 110, 97] : List UInt8)
         ·rw [if_pos c14] at H
          have c14b0 : (t163.toList == ([98, 97, 110, 97, 110, 97] : List UInt8)) = true := beq_iff_eq.mpr c14
          have c14b1 : (t163.toList != ([98, 97, 110, 97, 110, 97] : List UInt8)) = false := bne_eq_false_iff_eq.mpr c14
          clear c14
          by_cases c15 : t164 = 0
          ·rw [if_pos c15] at H
           have c15b0 : (t164 == 0) = true := beq_iff_eq.mpr c15
           have c15b1 : (t164 != 0) = false := bne_eq_false_iff_eq.mpr c15
           clear c15
           obtain rfl := Option.some.inj H
           go_enter Try.func21, Try.ntmps21
           go_wp2_with (first | ((with_reducible refine gate_callee (f := 16) rfl ?_); refine goesL_ (some 12) rfl rfl Try.func16 (by kernel_rfl) rfl #[.string (⟨#[98, 97, 110, 97, 110, 97]⟩ : ByteArray)] rfl (by (try simp only [List.map_toArray, List.map_cons, List.map_nil]); first | done | rfl | (simp only [List.length_drop, List.length_take]; rfl)) ?_; (with_reducible refine (find_New.calls k (⟨#[98, 97, 110, 97, 110, 97]⟩ : ByteArray) t148 t149 t152 t155 _ A1.out).mono ?_); rintro e w16 ⟨v150, v153, rfl, ho0, ho1, hb⟩; refine ⟨_, rfl, ?_⟩; have n0_ := Aside0.mk (Kd.R_lower ho0 (below_size (by repeat (first | (with_reducible first | exact HB.out | apply below_alloc | apply pw_below_drewN | apply below_drew1) | exact HB.out)))); have n1_ := Aside0.mk (Kd.R_lower ho1 (below_size (by repeat (first | (with_reducible first | exact HB.out | apply below_alloc | apply pw_below_drewN | apply below_drew1) | exact HB.out)))); have n2_ := Aside0.mk (below_step (by repeat (first | (with_reducible first | exact HB.out | apply below_alloc | apply pw_below_drewN | apply below_drew1) | exact HB.out)) hb); clear HB; have HO151 := n0_; have HO154 := n1_; have HB := n2_; clear n0_ n1_ n2_; (try clear hb); (try clear hb2); (try clear hk); (try clear hi); (try clear ho0); (try clear ho1)) | ((with_reducible refine gate_dst (N := 1) rfl ?_); refine box_event ?hg (N := 1) ?hd (cs := #[.string (⟨#[]⟩ : ByteArray), .slice none 0 0, .slice none 0 0]) (t := 24) ?hr ?_; (case hd => rfl); (case hg => rfl); (case hr => first | (go_simp; done) | (go_simp; rfl)); intro gb156 hg w17 hbox hb; have n0_ := Aside0.mk (Kd.R_below (by (with_reducible repeat (first | apply Kd.R_alloc | apply Kd.R_drewN | apply Kd.R_drew)); exact HO151.out) hb); have n1_ := Aside0.mk (Kd.R_below (by (with_reducible repeat (first | apply Kd.R_alloc | apply Kd.R_drewN | apply Kd.R_drew)); exact HO154.out) hb); have n2_ := Aside0.mk (below_step (by repeat (first | (with_reducible first | exact HB.out | apply below_alloc | apply pw_below_drewN | apply below_drew1) | exact HB.out)) hb); have n3_ := Aside0.mk (hbox); have n4_ := Aside0.mk ((by rw [hg]; exact (below_size (by repeat (first | (with_reducible first | exact HB.out | apply below_alloc | apply pw_below_drewN | apply below_drew1) | exact HB.out))) : w.heap.size ≤ gb156)); have n5_ := Aside0.mk ((by rw [hg]; exact (below_size (by repeat (first | (with_reducible first | exact HB.out | apply below_alloc | apply pw_below_drewN | apply below_drew1) | exact HB.out))) : w.heap.size ≤ gb156)); clear HO151; clear HO154; clear HB; have HO151 := n0_; have HO154 := n1_; have HB := n2_; have BK156 := n3_; have GW156 := n4_; have GE156 := n5_; clear n0_ n1_ n2_ n3_ n4_ n5_; clear hb hbox hg; have hcz18_0 : w17.cell? ⟨gb156, 0, none⟩ = some (.string (⟨#[]⟩ : ByteArray)) := (blk_cell BK156.out 0).trans rfl; have hcz18_1 : w17.cell? ⟨gb156, 1, none⟩ = some (.slice none 0 0) := (blk_cell BK156.out 1).trans rfl; have hcz18_2 : w17.cell? ⟨gb156, 2, none⟩ = some (.slice none 0 0) := (blk_cell BK156.out 2).trans rfl; have hfz18_0 := blk_frozen BK156.out 0; have hfz18_1 := blk_frozen BK156.out 1; have hfz18_2 := blk_frozen BK156.out 2; obtain ⟨Ao19, co19, eo19⟩ := Kd.R_slice HO151.out; subst eo19; obtain ⟨Ao20, co20, eo20⟩ := Kd.R_slice HO154.out; subst eo20) | ((with_reducible refine gate_callee (f := 17) rfl ?_); refine goesL_ (some 17) rfl rfl Try.func17 (by kernel_rfl) rfl #[.agg #[.string t148, .slice Ao19 t149.length co19, .slice Ao20 t152.length co20]] rfl (by (try simp only [List.map_toArray, List.map_cons, List.map_nil]); first | done | rfl | (simp only [List.length_drop, List.length_take]; rfl)) ?_; (with_reducible refine (find_Index_Repeat.calls k t148 _ _ t149 _ _ t152 t157 t158 t159 _ ?side1 ?side2 ?side3 ?side4 A2.out).mono ?_); (case side1 => refine (Kd.R_reads' (e := 3) (base := w.heap.size) (ok := fun k_ => some k_ ≠ (.slice Ao20 t152.length co20 : Value).ownBlock) (n := t149.length) (c := co19) ?_).2.2; exact (by (with_reducible repeat (first | apply Kd.R_alloc | apply Kd.R_drewN | apply Kd.R_drew)); exact (Kd.R_mono (Kd.R_far (p := ⟨gb156, 2, none⟩) (Kd.R_far (p := ⟨gb156, 1, none⟩) (Kd.R_far (p := ⟨gb156, 0, none⟩) (Kd.R_types HO151.out BK156.out (by decide)) (fun _ hk => hk.2) (.string t148)) (fun _ hk => hk.2) (.slice Ao19 t149.length co19)) (fun _ hk => hk.2) (.slice Ao20 t152.length co20)) (fun _ h_ => h_.1)))); (case side2 => exact (Kd.R_reads' HO151.out).2.1); (case side3 => refine (Kd.R_reads' (e := 3) (base := w.heap.size) (ok := fun k_ => some k_ ≠ (.slice Ao19 t149.length co19 : Value).ownBlock) (n := t152.length) (c := co20) ?_).2.2; exact (by (with_reducible repeat (first | apply Kd.R_alloc | apply Kd.R_drewN | apply Kd.R_drew)); exact (Kd.R_mono (Kd.R_far (p := ⟨gb156, 2, none⟩) (Kd.R_far (p := ⟨gb156, 1, none⟩) (Kd.R_far (p := ⟨gb156, 0, none⟩) (Kd.R_types HO154.out BK156.out (by decide)) (fun _ hk => hk.2) (.string t148)) (fun _ hk => hk.2) (.slice Ao19 t149.length co19)) (fun _ hk => hk.2) (.slice Ao20 t152.length co20)) (fun _ h_ => h_.1)))); (case side4 => exact (Kd.R_reads' HO154.out).2.1); rintro e w21 ⟨rfl, hb⟩; refine ⟨_, rfl, ?_⟩; have n0_ := Aside0.mk (Kd.R_below (by (with_reducible repeat (first | apply Kd.R_alloc | apply Kd.R_drewN | apply Kd.R_drew)); exact (Kd.R_mono (Kd.R_far (p := ⟨gb156, 2, none⟩) (Kd.R_far (p := ⟨gb156, 1, none⟩) (Kd.R_far (p := ⟨gb156, 0, none⟩) (Kd.R_types HO151.out BK156.out (by decide)) (fun _ hk => hk.2) (.string t148)) (fun _ hk => hk.2) (.slice Ao19 t149.length co19)) (fun _ hk => hk.2) (.slice Ao20 t152.length co20)) (fun _ h_ => h_.1))) hb); have n1_ := Aside0.mk (Kd.R_below (by (with_reducible repeat (first | apply Kd.R_alloc | apply Kd.R_drewN | apply Kd.R_drew)); exact (Kd.R_mono (Kd.R_far (p := ⟨gb156, 2, none⟩) (Kd.R_far (p := ⟨gb156, 1, none⟩) (Kd.R_far (p := ⟨gb156, 0, none⟩) (Kd.R_types HO154.out BK156.out (by decide)) (fun _ hk => hk.2) (.string t148)) (fun _ hk => hk.2) (.slice Ao19 t149.length co19)) (fun _ hk => hk.2) (.slice Ao20 t152.length co20)) (fun _ h_ => h_.1))) hb); have n2_ := Aside0.mk (blk_below (g := gb156) (o := .cells #[.string t148, .slice Ao19 t149.length co19, .slice Ao20 t152.length co20] 24 (0, 0)) (by (with_reducible repeat (first | refine blk_drewN ?_ _ | refine blk_drew ?_ | refine blk_alloc ?_ _)); refine blk_put (cs := #[.string t148, .slice Ao19 t149.length co19, .slice none 0 0]) ?_ 2 _ rfl; (with_reducible repeat (first | refine blk_drewN ?_ _ | refine blk_drew ?_ | refine blk_alloc ?_ _)); refine blk_put (cs := #[.string t148, .slice none 0 0, .slice none 0 0]) ?_ 1 _ rfl; (with_reducible repeat (first | refine blk_drewN ?_ _ | refine blk_drew ?_ | refine blk_alloc ?_ _)); refine blk_put (cs := #[.string (⟨#[]⟩ : ByteArray), .slice none 0 0, .slice none 0 0]) ?_ 0 _ rfl; (with_reducible repeat (first | refine blk_drewN ?_ _ | refine blk_drew ?_ | refine blk_alloc ?_ _)); exact BK156.out) hb); have n3_ := Aside0.mk (below_step (by repeat (first | (with_reducible first | exact HB.out | apply below_alloc | apply pw_below_drewN | apply below_drew1 | refine below_set ?_ GE156.out) | exact HB.out)) hb); clear HO151; clear HO154; clear BK156; clear HB; have HO151 := n0_; have HO154 := n1_; have BK156 := n2_; have HB := n3_; clear n0_ n1_ n2_ n3_; (try clear hb); (try clear hb2); (try clear hk); (try clear hi)) | ((with_reducible refine gate_callee (f := 23) rfl ?_); refine goesL_ (some 22) rfl rfl Try.func23 (by kernel_rfl) rfl #[.string (⟨#[98, 97, 110, 97, 110, 97]⟩ : ByteArray)] rfl (by (try simp only [List.map_toArray, List.map_cons, List.map_nil]); first | done | rfl | (simp only [List.length_drop, List.length_take]; rfl)) ?_; (with_reducible refine (find_Turn.calls (⟨#[98, 97, 110, 97, 110, 97]⟩ : ByteArray) t160 t161 t162 _ A3.out).mono ?_); rintro e w22 ⟨rfl, hb⟩; refine ⟨_, rfl, ?_⟩; have n0_ := Aside0.mk (Kd.R_below (by (with_reducible repeat (first | apply Kd.R_alloc | apply Kd.R_drewN | apply Kd.R_drew)); exact HO151.out) hb); have n1_ := Aside0.mk (Kd.R_below (by (with_reducible repeat (first | apply Kd.R_alloc | apply Kd.R_drewN | apply Kd.R_drew)); exact HO154.out) hb); have n2_ := Aside0.mk (blk_below (g := gb156) (o := .cells #[.string t148, .slice Ao19 t149.length co19, .slice Ao20 t152.length co20] 24 (0, 0)) (by (with_reducible repeat (first | refine blk_drewN ?_ _ | refine blk_drew ?_ | refine blk_alloc ?_ _)); exact BK156.out) hb); have n3_ := Aside0.mk (below_step (by repeat (first | (with_reducible first | exact HB.out | apply below_alloc | apply pw_below_drewN | apply below_drew1 | refine below_set ?_ GE156.out) | exact HB.out)) hb); clear HO151; clear HO154; clear BK156; clear HB; have HO151 := n0_; have HO154 := n1_; have BK156 := n2_; have HB := n3_; clear n0_ n1_ n2_ n3_; (try clear hb); (try clear hb2); (try clear hk); (try clear hi)) | ((with_reducible refine gate_callee (f := 25) rfl ?_); refine goesL_ (some 27) rfl rfl Try.func25 (by kernel_rfl) rfl #[.string (⟨#[97, 110, 110, 98, 97, 97]⟩ : ByteArray), .int .i64 4] rfl (by (try simp only [List.map_toArray, List.map_cons, List.map_nil]); first | done | rfl | (simp only [List.length_drop, List.length_take]; rfl)) ?_; (with_reducible refine (find_Restore.calls (⟨#[97, 110, 110, 98, 97, 97]⟩ : ByteArray) 4 t163 t164 _ A4.out).mono ?_); rintro e w23 ⟨rfl, hb⟩; refine ⟨_, rfl, ?_⟩; have n0_ := Aside0.mk (Kd.R_below (by (with_reducible repeat (first | apply Kd.R_alloc | apply Kd.R_drewN | apply Kd.R_drew)); exact HO151.out) hb); have n1_ := Aside0.mk (Kd.R_below (by (with_reducible repeat (first | apply Kd.R_alloc | apply Kd.R_drewN | apply Kd.R_drew)); exact HO154.out) hb); have n2_ := Aside0.mk (blk_below (g := gb156) (o := .cells #[.string t148, .slice Ao19 t149.length co19, .slice Ao20 t152.length co20] 24 (0, 0)) (by (with_reducible repeat (first | refine blk_drewN ?_ _ | refine blk_drew ?_ | refine blk_alloc ?_ _)); exact BK156.out) hb); have n3_ := Aside0.mk (below_step (by repeat (first | (with_reducible first | exact HB.out | apply below_alloc | apply pw_below_drewN | apply below_drew1 | refine below_set ?_ GE156.out) | exact HB.out)) hb); clear HO151; clear HO154; clear BK156; clear HB; have HO151 := n0_; have HO154 := n1_; have BK156 := n2_; have HB := n3_; clear n0_ n1_ n2_ n3_; (try clear hb); (try clear hb2); (try clear hk); (try clear hi); have hcz24_0 : w23.cell? ⟨gb156, 0, none⟩ = some (.string t148) := (blk_cell BK156.out 0).trans rfl; have hcz24_1 : w23.cell? ⟨gb156, 1, none⟩ = some (.slice Ao19 t149.length co19) := (blk_cell BK156.out 1).trans rfl; have hcz24_2 : w23.cell? ⟨gb156, 2, none⟩ = some (.slice Ao20 t152.length co20) := (blk_cell BK156.out 2).trans rfl; have hfz24_0 := blk_frozen BK156.out 0; have hfz24_1 := blk_frozen BK156.out 1; have hfz24_2 := blk_frozen BK156.out 2) | (go_at_call 19; (with_reducible refine (find_Index_Distinct.calls k t148 _ _ t149 _ _ t152 t165 _ ?side1 ?side2 ?side3 ?side4 A9.out).mono ?_); (case side1 => repeat (first | exact (Kd.R_reads' HO151.out).2.2 | (with_reducible refine Kd.C_alloc ?_ _) | (with_reducible refine Kd.C_drewN ?_ _) | (with_reducible refine Kd.C_drew ?_))); (case side2 => exact (Kd.R_reads' HO151.out).2.1); (case side3 => repeat (first | exact (Kd.R_reads' HO154.out).2.2 | (with_reducible refine Kd.C_alloc ?_ _) | (with_reducible refine Kd.C_drewN ?_ _) | (with_reducible refine Kd.C_drew ?_))); (case side4 => exact (Kd.R_reads' HO154.out).2.1); rintro e w25 ⟨rfl, hb⟩; have n0_ := Aside0.mk (Kd.R_below (by (with_reducible repeat (first | apply Kd.R_alloc | apply Kd.R_drewN | apply Kd.R_drew)); exact HO151.out) hb); have n1_ := Aside0.mk (Kd.R_below (by (with_reducible repeat (first | apply Kd.R_alloc | apply Kd.R_drewN | apply Kd.R_drew)); exact HO154.out) hb); have n2_ := Aside0.mk (blk_below (g := gb156) (o := .cells #[.string t148, .slice Ao19 t149.length co19, .slice Ao20 t152.length co20] 24 (0, 0)) (by (with_reducible repeat (first | refine blk_drewN ?_ _ | refine blk_drew ?_ | refine blk_alloc ?_ _)); exact BK156.out) hb); have n3_ := Aside0.mk (below_step (by repeat (first | (with_reducible first | exact HB.out | apply below_alloc | apply pw_below_drewN | apply below_drew1 | refine below_set ?_ GE156.out) | exact HB.out)) hb); clear HO151; clear HO154; clear BK156; clear HB; have HO151 := n0_; have HO154 := n1_; have BK156 := n2_; have HB := n3_; clear n0_ n1_ n2_ n3_; (try clear hb); (try clear hb2); (try clear hk); (try clear hi)))
           go_ret
           exact ⟨by first | rfl | (simp [errW_none, errW_some] <;> rfl) | (simp [*, errW_none, errW_some] <;> rfl), by repeat (first | (with_reducible first | exact HB.out | apply below_alloc | apply pw_below_drewN | apply below_drew1 | refine below_set ?_ GE156.out) | exact HB.out)⟩
          ·rw [if_neg c15] at H
           have c15b0 : (t164 == 0) = false := beq_eq_false_iff_ne.mpr c15
           have c15b1 : (t164 != 0) = true := bne_iff_ne.mpr c15
           obtain rfl := Option.some.inj H
           go_enter Try.func21, Try.ntmps21
           go_wp2_with (first | ((with_reducible refine gate_callee (f := 16) rfl ?_); refine goesL_ (some 12) rfl rfl Try.func16 (by kernel_rfl) rfl #[.string (⟨#[98, 97, 110, 97, 110, 97]⟩ : ByteArray)] rfl (by (try simp only [List.map_toArray, List.map_cons, List.map_nil]); first | done | rfl | (simp only [List.length_drop, List.length_take]; rfl)) ?_; (with_reducible refine (find_New.calls k (⟨#[98, 97, 110, 97, 110, 97]⟩ : ByteArray) t148 t149 t152 t155 _ A1.out).mono ?_); rintro e w26 ⟨v150, v153, rfl, ho0, ho1, hb⟩; refine ⟨_, rfl, ?_⟩; have n0_ := Aside0.mk (Kd.R_lower ho0 (below_size (by repeat (first | (with_reducible first | exact HB.out | apply below_alloc | apply pw_below_drewN | apply below_drew1) | exact HB.out)))); have n1_ := Aside0.mk (Kd.R_lower ho1 (below_size (by repeat (first | (with_reducible first | exact HB.out | apply below_alloc | apply pw_below_drewN | apply below_drew1) | exact HB.out)))); have n2_ := Aside0.mk (below_step (by repeat (first | (with_reducible first | exact HB.out | apply below_alloc | apply pw_below_drewN | apply below_drew1) | exact HB.out)) hb); clear HB; have HO151 := n0_; have HO154 := n1_; have HB := n2_; clear n0_ n1_ n2_; (try clear hb); (try clear hb2); (try clear hk); (try clear hi); (try clear ho0); (try clear ho1)) | ((with_reducible refine gate_dst (N := 1) rfl ?_); refine box_event ?hg (N := 1) ?hd (cs := #[.string (⟨#[]⟩ : ByteArray), .slice none 0 0, .slice none 0 0]) (t := 24) ?hr ?_; (case hd => rfl); (case hg => rfl); (case hr => first | (go_simp; done) | (go_simp; rfl)); intro gb156 hg w27 hbox hb; have n0_ := Aside0.mk (Kd.R_below (by (with_reducible repeat (first | apply Kd.R_alloc | apply Kd.R_drewN | apply Kd.R_drew)); exact HO151.out) hb); have n1_ := Aside0.mk (Kd.R_below (by (with_reducible repeat (first | apply Kd.R_alloc | apply Kd.R_drewN | apply Kd.R_drew)); exact HO154.out) hb); have n2_ := Aside0.mk (below_step (by repeat (first | (with_reducible first | exact HB.out | apply below_alloc | apply pw_below_drewN | apply below_drew1) | exact HB.out)) hb); have n3_ := Aside0.mk (hbox); have n4_ := Aside0.mk ((by rw [hg]; exact (below_size (by repeat (first | (with_reducible first | exact HB.out | apply below_alloc | apply pw_below_drewN | apply below_drew1) | exact HB.out))) : w.heap.size ≤ gb156)); have n5_ := Aside0.mk ((by rw [hg]; exact (below_size (by repeat (first | (with_reducible first | exact HB.out | apply below_alloc | apply pw_below_drewN | apply below_drew1) | exact HB.out))) : w.heap.size ≤ gb156)); clear HO151; clear HO154; clear HB; have HO151 := n0_; have HO154 := n1_; have HB := n2_; have BK156 := n3_; have GW156 := n4_; have GE156 := n5_; clear n0_ n1_ n2_ n3_ n4_ n5_; clear hb hbox hg; have hcz28_0 : w27.cell? ⟨gb156, 0, none⟩ = some (.string (⟨#[]⟩ : ByteArray)) := (blk_cell BK156.out 0).trans rfl; have hcz28_1 : w27.cell? ⟨gb156, 1, none⟩ = some (.slice none 0 0) := (blk_cell BK156.out 1).trans rfl; have hcz28_2 : w27.cell? ⟨gb156, 2, none⟩ = some (.slice none 0 0) := (blk_cell BK156.out 2).trans rfl; have hfz28_0 := blk_frozen BK156.out 0; have hfz28_1 := blk_frozen BK156.out 1; have hfz28_2 := blk_frozen BK156.out 2; obtain ⟨Ao29, co29, eo29⟩ := Kd.R_slice HO151.out; subst eo29; obtain ⟨Ao30, co30, eo30⟩ := Kd.R_slice HO154.out; subst eo30) | ((with_reducible refine gate_callee (f := 17) rfl ?_); refine goesL_ (some 17) rfl rfl Try.func17 (by kernel_rfl) rfl #[.agg #[.string t148, .slice Ao29 t149.length co29, .slice Ao30 t152.length co30]] rfl (by (try simp only [List.map_toArray, List.map_cons, List.map_nil]); first | done | rfl | (simp only [List.length_drop, List.length_take]; rfl)) ?_; (with_reducible refine (find_Index_Repeat.calls k t148 _ _ t149 _ _ t152 t157 t158 t159 _ ?side1 ?side2 ?side3 ?side4 A2.out).mono ?_); (case side1 => refine (Kd.R_reads' (e := 3) (base := w.heap.size) (ok := fun k_ => some k_ ≠ (.slice Ao30 t152.length co30 : Value).ownBlock) (n := t149.length) (c := co29) ?_).2.2; exact (by (with_reducible repeat (first | apply Kd.R_alloc | apply Kd.R_drewN | apply Kd.R_drew)); exact (Kd.R_mono (Kd.R_far (p := ⟨gb156, 2, none⟩) (Kd.R_far (p := ⟨gb156, 1, none⟩) (Kd.R_far (p := ⟨gb156, 0, none⟩) (Kd.R_types HO151.out BK156.out (by decide)) (fun _ hk => hk.2) (.string t148)) (fun _ hk => hk.2) (.slice Ao29 t149.length co29)) (fun _ hk => hk.2) (.slice Ao30 t152.length co30)) (fun _ h_ => h_.1)))); (case side2 => exact (Kd.R_reads' HO151.out).2.1); (case side3 => refine (Kd.R_reads' (e := 3) (base := w.heap.size) (ok := fun k_ => some k_ ≠ (.slice Ao29 t149.length co29 : Value).ownBlock) (n := t152.length) (c := co30) ?_).2.2; exact (by (with_reducible repeat (first | apply Kd.R_alloc | apply Kd.R_drewN | apply Kd.R_drew)); exact (Kd.R_mono (Kd.R_far (p := ⟨gb156, 2, none⟩) (Kd.R_far (p := ⟨gb156, 1, none⟩) (Kd.R_far (p := ⟨gb156, 0, none⟩) (Kd.R_types HO154.out BK156.out (by decide)) (fun _ hk => hk.2) (.string t148)) (fun _ hk => hk.2) (.slice Ao29 t149.length co29)) (fun _ hk => hk.2) (.slice Ao30 t152.length co30)) (fun _ h_ => h_.1)))); (case side4 => exact (Kd.R_reads' HO154.out).2.1); rintro e w31 ⟨rfl, hb⟩; refine ⟨_, rfl, ?_⟩; have n0_ := Aside0.mk (Kd.R_below (by (with_reducible repeat (first | apply Kd.R_alloc | apply Kd.R_drewN | apply Kd.R_drew)); exact (Kd.R_mono (Kd.R_far (p := ⟨gb156, 2, none⟩) (Kd.R_far (p := ⟨gb156, 1, none⟩) (Kd.R_far (p := ⟨gb156, 0, none⟩) (Kd.R_types HO151.out BK156.out (by decide)) (fun _ hk => hk.2) (.string t148)) (fun _ hk => hk.2) (.slice Ao29 t149.length co29)) (fun _ hk => hk.2) (.slice Ao30 t152.length co30)) (fun _ h_ => h_.1))) hb); have n1_ := Aside0.mk (Kd.R_below (by (with_reducible repeat (first | apply Kd.R_alloc | apply Kd.R_drewN | apply Kd.R_drew)); exact (Kd.R_mono (Kd.R_far (p := ⟨gb156, 2, none⟩) (Kd.R_far (p := ⟨gb156, 1, none⟩) (Kd.R_far (p := ⟨gb156, 0, none⟩) (Kd.R_types HO154.out BK156.out (by decide)) (fun _ hk => hk.2) (.string t148)) (fun _ hk => hk.2) (.slice Ao29 t149.length co29)) (fun _ hk => hk.2) (.slice Ao30 t152.length co30)) (fun _ h_ => h_.1))) hb); have n2_ := Aside0.mk (blk_below (g := gb156) (o := .cells #[.string t148, .slice Ao29 t149.length co29, .slice Ao30 t152.length co30] 24 (0, 0)) (by (with_reducible repeat (first | refine blk_drewN ?_ _ | refine blk_drew ?_ | refine blk_alloc ?_ _)); refine blk_put (cs := #[.string t148, .slice Ao29 t149.length co29, .slice none 0 0]) ?_ 2 _ rfl; (with_reducible repeat (first | refine blk_drewN ?_ _ | refine blk_drew ?_ | refine blk_alloc ?_ _)); refine blk_put (cs := #[.string t148, .slice none 0 0, .slice none 0 0]) ?_ 1 _ rfl; (with_reducible repeat (first | refine blk_drewN ?_ _ | refine blk_drew ?_ | refine blk_alloc ?_ _)); refine blk_put (cs := #[.string (⟨#[]⟩ : ByteArray), .slice none 0 0, .slice none 0 0]) ?_ 0 _ rfl; (with_reducible repeat (first | refine blk_drewN ?_ _ | refine blk_drew ?_ | refine blk_alloc ?_ _)); exact BK156.out) hb); have n3_ := Aside0.mk (below_step (by repeat (first | (with_reducible first | exact HB.out | apply below_alloc | apply pw_below_drewN | apply below_drew1 | refine below_set ?_ GE156.out) | exact HB.out)) hb); clear HO151; clear HO154; clear BK156; clear HB; have HO151 := n0_; have HO154 := n1_; have BK156 := n2_; have HB := n3_; clear n0_ n1_ n2_ n3_; (try clear hb); (try clear hb2); (try clear hk); (try clear hi)) | ((with_reducible refine gate_callee (f := 23) rfl ?_); refine goesL_ (some 22) rfl rfl Try.func23 (by kernel_rfl) rfl #[.string (⟨#[98, 97, 110, 97, 110, 97]⟩ : ByteArray)] rfl (by (try simp only [List.map_toArray, List.map_cons, List.map_nil]); first | done | rfl | (simp only [List.length_drop, List.length_take]; rfl)) ?_; (with_reducible refine (find_Turn.calls (⟨#[98, 97, 110, 97, 110, 97]⟩ : ByteArray) t160 t161 t162 _ A3.out).mono ?_); rintro e w32 ⟨rfl, hb⟩; refine ⟨_, rfl, ?_⟩; have n0_ := Aside0.mk (Kd.R_below (by (with_reducible repeat (first | apply Kd.R_alloc | apply Kd.R_drewN | apply Kd.R_drew)); exact HO151.out) hb); have n1_ := Aside0.mk (Kd.R_below (by (with_reducible repeat (first | apply Kd.R_alloc | apply Kd.R_drewN | apply Kd.R_drew)); exact HO154.out) hb); have n2_ := Aside0.mk (blk_below (g := gb156) (o := .cells #[.string t148, .slice Ao29 t149.length co29, .slice Ao30 t152.length co30] 24 (0, 0)) (by (with_reducible repeat (first | refine blk_drewN ?_ _ | refine blk_drew ?_ | refine blk_alloc ?_ _)); exact BK156.out) hb); have n3_ := Aside0.mk (below_step (by repeat (first | (with_reducible first | exact HB.out | apply below_alloc | apply pw_below_drewN | apply below_drew1 | refine below_set ?_ GE156.out) | exact HB.out)) hb); clear HO151; clear HO154; clear BK156; clear HB; have HO151 := n0_; have HO154 := n1_; have BK156 := n2_; have HB := n3_; clear n0_ n1_ n2_ n3_; (try clear hb); (try clear hb2); (try clear hk); (try clear hi)) | ((with_reducible refine gate_callee (f := 25) rfl ?_); refine goesL_ (some 27) rfl rfl Try.func25 (by kernel_rfl) rfl #[.string (⟨#[97, 110, 110, 98, 97, 97]⟩ : ByteArray), .int .i64 4] rfl (by (try simp only [List.map_toArray, List.map_cons, List.map_nil]); first | done | rfl | (simp only [List.length_drop, List.length_take]; rfl)) ?_; (with_reducible refine (find_Restore.calls (⟨#[97, 110, 110, 98, 97, 97]⟩ : ByteArray) 4 t163 t164 _ A4.out).mono ?_); rintro e w33 ⟨rfl, hb⟩; refine ⟨_, rfl, ?_⟩; have n0_ := Aside0.mk (Kd.R_below (by (with_reducible repeat (first | apply Kd.R_alloc | apply Kd.R_drewN | apply Kd.R_drew)); exact HO151.out) hb); have n1_ := Aside0.mk (Kd.R_below (by (with_reducible repeat (first | apply Kd.R_alloc | apply Kd.R_drewN | apply Kd.R_drew)); exact HO154.out) hb); have n2_ := Aside0.mk (blk_below (g := gb156) (o := .cells #[.string t148, .slice Ao29 t149.length co29, .slice Ao30 t152.length co30] 24 (0, 0)) (by (with_reducible repeat (first | refine blk_drewN ?_ _ | refine blk_drew ?_ | refine blk_alloc ?_ _)); exact BK156.out) hb); have n3_ := Aside0.mk (below_step (by repeat (first | (with_reducible first | exact HB.out | apply below_alloc | apply pw_below_drewN | apply below_drew1 | refine below_set ?_ GE156.out) | exact HB.out)) hb); clear HO151; clear HO154; clear BK156; clear HB; have HO151 := n0_; have HO154 := n1_; have BK156 := n2_; have HB := n3_; clear n0_ n1_ n2_ n3_; (try clear hb); (try clear hb2); (try clear hk); (try clear hi); have hcz34_0 : w33.cell? ⟨gb156, 0, none⟩ = some (.string t148) := (blk_cell BK156.out 0).trans rfl; have hcz34_1 : w33.cell? ⟨gb156, 1, none⟩ = some (.slice Ao29 t149.length co29) := (blk_cell BK156.out 1).trans rfl; have hcz34_2 : w33.cell? ⟨gb156, 2, none⟩ = some (.slice Ao30 t152.length co30) := (blk_cell BK156.out 2).trans rfl; have hfz34_0 := blk_frozen BK156.out 0; have hfz34_1 := blk_frozen BK156.out 1; have hfz34_2 := blk_frozen BK156.out 2) | (go_at_call 19; (with_reducible refine (find_Index_Distinct.calls k t148 _ _ t149 _ _ t152 t165 _ ?side1 ?side2 ?side3 ?side4 A9.out).mono ?_); (case side1 => repeat (first | exact (Kd.R_reads' HO151.out).2.2 | (with_reducible refine Kd.C_alloc ?_ _) | (with_reducible refine Kd.C_drewN ?_ _) | (with_reducible refine Kd.C_drew ?_))); (case side2 => exact (Kd.R_reads' HO151.out).2.1); (case side3 => repeat (first | exact (Kd.R_reads' HO154.out).2.2 | (with_reducible refine Kd.C_alloc ?_ _) | (with_reducible refine Kd.C_drewN ?_ _) | (with_reducible refine Kd.C_drew ?_))); (case side4 => exact (Kd.R_reads' HO154.out).2.1); rintro e w35 ⟨rfl, hb⟩; have n0_ := Aside0.mk (Kd.R_below (by (with_reducible repeat (first | apply Kd.R_alloc | apply Kd.R_drewN | apply Kd.R_drew)); exact HO151.out) hb); have n1_ := Aside0.mk (Kd.R_below (by (with_reducible repeat (first | apply Kd.R_alloc | apply Kd.R_drewN | apply Kd.R_drew)); exact HO154.out) hb); have n2_ := Aside0.mk (blk_below (g := gb156) (o := .cells #[.string t148, .slice Ao29 t149.length co29, .slice Ao30 t152.length co30] 24 (0, 0)) (by (with_reducible repeat (first | refine blk_drewN ?_ _ | refine blk_drew ?_ | refine blk_alloc ?_ _)); exact BK156.out) hb); have n3_ := Aside0.mk (below_step (by repeat (first | (with_reducible first | exact HB.out | apply below_alloc | apply pw_below_drewN | apply below_drew1 | refine below_set ?_ GE156.out) | exact HB.out)) hb); clear HO151; clear HO154; clear BK156; clear HB; have HO151 := n0_; have HO154 := n1_; have BK156 := n2_; have HB := n3_; clear n0_ n1_ n2_ n3_; (try clear hb); (try clear hb2); (try clear hk); (try clear hi)))
           go_ret
           exact ⟨by first | rfl | (simp [errW_none, errW_some] <;> rfl) | (simp [*, errW_none, errW_some] <;> rfl), by repeat (first | (with_reducible first | exact HB.out | apply below_alloc | apply pw_below_drewN | apply below_drew1 | refine below_set ?_ GE156.out) | exact HB.out)⟩
         ·rw [if_neg c14] at H
          have c14b0 : (t163.toList == ([98, 97, 110, 97, 110, 97] : List UInt8)) = false := beq_eq_false_iff_ne.mpr c14
          have c14b1 : (t163.toList != ([98, 97, 110, 97, 110, 97] : List UInt8)) = true := bne_iff_ne.mpr c14
          obtain rfl := Option.some.inj H
          go_enter Try.func21, Try.ntmps21
          go_wp2_with (first | ((with_reducible refine gate_callee (f := 16) rfl ?_); refine goesL_ (some 12) rfl rfl Try.func16 (by kernel_rfl) rfl #[.string (⟨#[98, 97, 110, 97, 110, 97]⟩ : ByteArray)] rfl (by (try simp only [List.map_toArray, List.map_cons, List.map_nil]); first | done | rfl | (simp only [List.length_drop, List.length_take]; rfl)) ?_; (with_reducible refine (find_New.calls k (⟨#[98, 97, 110, 97, 110, 97]⟩ : ByteArray) t148 t149 t152 t155 _ A1.out).mono ?_); rintro e w36 ⟨v150, v153, rfl, ho0, ho1, hb⟩; refine ⟨_, rfl, ?_⟩; have n0_ := Aside0.mk (Kd.R_lower ho0 (below_size (by repeat (first | (with_reducible first | exact HB.out | apply below_alloc | apply pw_below_drewN | apply below_drew1) | exact HB.out)))); have n1_ := Aside0.mk (Kd.R_lower ho1 (below_size (by repeat (first | (with_reducible first | exact HB.out | apply below_alloc | apply pw_below_drewN | apply below_drew1) | exact HB.out)))); have n2_ := Aside0.mk (below_step (by repeat (first | (with_reducible first | exact HB.out | apply below_alloc | apply pw_below_drewN | apply below_drew1) | exact HB.out)) hb); clear HB; have HO151 := n0_; have HO154 := n1_; have HB := n2_; clear n0_ n1_ n2_; (try clear hb); (try clear hb2); (try clear hk); (try clear hi); (try clear ho0); (try clear ho1)) | ((with_reducible refine gate_dst (N := 1) rfl ?_); refine box_event ?hg (N := 1) ?hd (cs := #[.string (⟨#[]⟩ : ByteArray), .slice none 0 0, .slice none 0 0]) (t := 24) ?hr ?_; (case hd => rfl); (case hg => rfl); (case hr => first | (go_simp; done) | (go_simp; rfl)); intro gb156 hg w37 hbox hb; have n0_ := Aside0.mk (Kd.R_below (by (with_reducible repeat (first | apply Kd.R_alloc | apply Kd.R_drewN | apply Kd.R_drew)); exact HO151.out) hb); have n1_ := Aside0.mk (Kd.R_below (by (with_reducible repeat (first | apply Kd.R_alloc | apply Kd.R_drewN | apply Kd.R_drew)); exact HO154.out) hb); have n2_ := Aside0.mk (below_step (by repeat (first | (with_reducible first | exact HB.out | apply below_alloc | apply pw_below_drewN | apply below_drew1) | exact HB.out)) hb); have n3_ := Aside0.mk (hbox); have n4_ := Aside0.mk ((by rw [hg]; exact (below_size (by repeat (first | (with_reducible first | exact HB.out | apply below_alloc | apply pw_below_drewN | apply below_drew1) | exact HB.out))) : w.heap.size ≤ gb156)); have n5_ := Aside0.mk ((by rw [hg]; exact (below_size (by repeat (first | (with_reducible first | exact HB.out | apply below_alloc | apply pw_below_drewN | apply below_drew1) | exact HB.out))) : w.heap.size ≤ gb156)); clear HO151; clear HO154; clear HB; have HO151 := n0_; have HO154 := n1_; have HB := n2_; have BK156 := n3_; have GW156 := n4_; have GE156 := n5_; clear n0_ n1_ n2_ n3_ n4_ n5_; clear hb hbox hg; have hcz38_0 : w37.cell? ⟨gb156, 0, none⟩ = some (.string (⟨#[]⟩ : ByteArray)) := (blk_cell BK156.out 0).trans rfl; have hcz38_1 : w37.cell? ⟨gb156, 1, none⟩ = some (.slice none 0 0) := (blk_cell BK156.out 1).trans rfl; have hcz38_2 : w37.cell? ⟨gb156, 2, none⟩ = some (.slice none 0 0) := (blk_cell BK156.out 2).trans rfl; have hfz38_0 := blk_frozen BK156.out 0; have hfz38_1 := blk_frozen BK156.out 1; have hfz38_2 := blk_frozen BK156.out 2; obtain ⟨Ao39, co39, eo39⟩ := Kd.R_slice HO151.out; subst eo39; obtain ⟨Ao40, co40, eo40⟩ := Kd.R_slice HO154.out; subst eo40) | ((with_reducible refine gate_callee (f := 17) rfl ?_); refine goesL_ (some 17) rfl rfl Try.func17 (by kernel_rfl) rfl #[.agg #[.string t148, .slice Ao39 t149.length co39, .slice Ao40 t152.length co40]] rfl (by (try simp only [List.map_toArray, List.map_cons, List.map_nil]); first | done | rfl | (simp only [List.length_drop, List.length_take]; rfl)) ?_; (with_reducible refine (find_Index_Repeat.calls k t148 _ _ t149 _ _ t152 t157 t158 t159 _ ?side1 ?side2 ?side3 ?side4 A2.out).mono ?_); (case side1 => refine (Kd.R_reads' (e := 3) (base := w.heap.size) (ok := fun k_ => some k_ ≠ (.slice Ao40 t152.length co40 : Value).ownBlock) (n := t149.length) (c := co39) ?_).2.2; exact (by (with_reducible repeat (first | apply Kd.R_alloc | apply Kd.R_drewN | apply Kd.R_drew)); exact (Kd.R_mono (Kd.R_far (p := ⟨gb156, 2, none⟩) (Kd.R_far (p := ⟨gb156, 1, none⟩) (Kd.R_far (p := ⟨gb156, 0, none⟩) (Kd.R_types HO151.out BK156.out (by decide)) (fun _ hk => hk.2) (.string t148)) (fun _ hk => hk.2) (.slice Ao39 t149.length co39)) (fun _ hk => hk.2) (.slice Ao40 t152.length co40)) (fun _ h_ => h_.1)))); (case side2 => exact (Kd.R_reads' HO151.out).2.1); (case side3 => refine (Kd.R_reads' (e := 3) (base := w.heap.size) (ok := fun k_ => some k_ ≠ (.slice Ao39 t149.length co39 : Value).ownBlock) (n := t152.length) (c := co40) ?_).2.2; exact (by (with_reducible repeat (first | apply Kd.R_alloc | apply Kd.R_drewN | apply Kd.R_drew)); exact (Kd.R_mono (Kd.R_far (p := ⟨gb156, 2, none⟩) (Kd.R_far (p := ⟨gb156, 1, none⟩) (Kd.R_far (p := ⟨gb156, 0, none⟩) (Kd.R_types HO154.out BK156.out (by decide)) (fun _ hk => hk.2) (.string t148)) (fun _ hk => hk.2) (.slice Ao39 t149.length co39)) (fun _ hk => hk.2) (.slice Ao40 t152.length co40)) (fun _ h_ => h_.1)))); (case side4 => exact (Kd.R_reads' HO154.out).2.1); rintro e w41 ⟨rfl, hb⟩; refine ⟨_, rfl, ?_⟩; have n0_ := Aside0.mk (Kd.R_below (by (with_reducible repeat (first | apply Kd.R_alloc | apply Kd.R_drewN | apply Kd.R_drew)); exact (Kd.R_mono (Kd.R_far (p := ⟨gb156, 2, none⟩) (Kd.R_far (p := ⟨gb156, 1, none⟩) (Kd.R_far (p := ⟨gb156, 0, none⟩) (Kd.R_types HO151.out BK156.out (by decide)) (fun _ hk => hk.2) (.string t148)) (fun _ hk => hk.2) (.slice Ao39 t149.length co39)) (fun _ hk => hk.2) (.slice Ao40 t152.length co40)) (fun _ h_ => h_.1))) hb); have n1_ := Aside0.mk (Kd.R_below (by (with_reducible repeat (first | apply Kd.R_alloc | apply Kd.R_drewN | apply Kd.R_drew)); exact (Kd.R_mono (Kd.R_far (p := ⟨gb156, 2, none⟩) (Kd.R_far (p := ⟨gb156, 1, none⟩) (Kd.R_far (p := ⟨gb156, 0, none⟩) (Kd.R_types HO154.out BK156.out (by decide)) (fun _ hk => hk.2) (.string t148)) (fun _ hk => hk.2) (.slice Ao39 t149.length co39)) (fun _ hk => hk.2) (.slice Ao40 t152.length co40)) (fun _ h_ => h_.1))) hb); have n2_ := Aside0.mk (blk_below (g := gb156) (o := .cells #[.string t148, .slice Ao39 t149.length co39, .slice Ao40 t152.length co40] 24 (0, 0)) (by (with_reducible repeat (first | refine blk_drewN ?_ _ | refine blk_drew ?_ | refine blk_alloc ?_ _)); refine blk_put (cs := #[.string t148, .slice Ao39 t149.length co39, .slice none 0 0]) ?_ 2 _ rfl; (with_reducible repeat (first | refine blk_drewN ?_ _ | refine blk_drew ?_ | refine blk_alloc ?_ _)); refine blk_put (cs := #[.string t148, .slice none 0 0, .slice none 0 0]) ?_ 1 _ rfl; (with_reducible repeat (first | refine blk_drewN ?_ _ | refine blk_drew ?_ | refine blk_alloc ?_ _)); refine blk_put (cs := #[.string (⟨#[]⟩ : ByteArray), .slice none 0 0, .slice none 0 0]) ?_ 0 _ rfl; (with_reducible repeat (first | refine blk_drewN ?_ _ | refine blk_drew ?_ | refine blk_alloc ?_ _)); exact BK156.out) hb); have n3_ := Aside0.mk (below_step (by repeat (first | (with_reducible first | exact HB.out | apply below_alloc | apply pw_below_drewN | apply below_drew1 | refine below_set ?_ GE156.out) | exact HB.out)) hb); clear HO151; clear HO154; clear BK156; clear HB; have HO151 := n0_; have HO154 := n1_; have BK156 := n2_; have HB := n3_; clear n0_ n1_ n2_ n3_; (try clear hb); (try clear hb2); (try clear hk); (try clear hi)) | ((with_reducible refine gate_callee (f := 23) rfl ?_); refine goesL_ (some 22) rfl rfl Try.func23 (by kernel_rfl) rfl #[.string (⟨#[98, 97, 110, 97, 110, 97]⟩ : ByteArray)] rfl (by (try simp only [List.map_toArray, List.map_cons, List.map_nil]); first | done | rfl | (simp only [List.length_drop, List.length_take]; rfl)) ?_; (with_reducible refine (find_Turn.calls (⟨#[98, 97, 110, 97, 110, 97]⟩ : ByteArray) t160 t161 t162 _ A3.out).mono ?_); rintro e w42 ⟨rfl, hb⟩; refine ⟨_, rfl, ?_⟩; have n0_ := Aside0.mk (Kd.R_below (by (with_reducible repeat (first | apply Kd.R_alloc | apply Kd.R_drewN | apply Kd.R_drew)); exact HO151.out) hb); have n1_ := Aside0.mk (Kd.R_below (by (with_reducible repeat (first | apply Kd.R_alloc | apply Kd.R_drewN | apply Kd.R_drew)); exact HO154.out) hb); have n2_ := Aside0.mk (blk_below (g := gb156) (o := .cells #[.string t148, .slice Ao39 t149.length co39, .slice Ao40 t152.length co40] 24 (0, 0)) (by (with_reducible repeat (first | refine blk_drewN ?_ _ | refine blk_drew ?_ | refine blk_alloc ?_ _)); exact BK156.out) hb); have n3_ := Aside0.mk (below_step (by repeat (first | (with_reducible first | exact HB.out | apply below_alloc | apply pw_below_drewN | apply below_drew1 | refine below_set ?_ GE156.out) | exact HB.out)) hb); clear HO151; clear HO154; clear BK156; clear HB; have HO151 := n0_; have HO154 := n1_; have BK156 := n2_; have HB := n3_; clear n0_ n1_ n2_ n3_; (try clear hb); (try clear hb2); (try clear hk); (try clear hi)) | ((with_reducible refine gate_callee (f := 25) rfl ?_); refine goesL_ (some 27) rfl rfl Try.func25 (by kernel_rfl) rfl #[.string (⟨#[97, 110, 110, 98, 97, 97]⟩ : ByteArray), .int .i64 4] rfl (by (try simp only [List.map_toArray, List.map_cons, List.map_nil]); first | done | rfl | (simp only [List.length_drop, List.length_take]; rfl)) ?_; (with_reducible refine (find_Restore.calls (⟨#[97, 110, 110, 98, 97, 97]⟩ : ByteArray) 4 t163 t164 _ A4.out).mono ?_); rintro e w43 ⟨rfl, hb⟩; refine ⟨_, rfl, ?_⟩; have n0_ := Aside0.mk (Kd.R_below (by (with_reducible repeat (first | apply Kd.R_alloc | apply Kd.R_drewN | apply Kd.R_drew)); exact HO151.out) hb); have n1_ := Aside0.mk (Kd.R_below (by (with_reducible repeat (first | apply Kd.R_alloc | apply Kd.R_drewN | apply Kd.R_drew)); exact HO154.out) hb); have n2_ := Aside0.mk (blk_below (g := gb156) (o := .cells #[.string t148, .slice Ao39 t149.length co39, .slice Ao40 t152.length co40] 24 (0, 0)) (by (with_reducible repeat (first | refine blk_drewN ?_ _ | refine blk_drew ?_ | refine blk_alloc ?_ _)); exact BK156.out) hb); have n3_ := Aside0.mk (below_step (by repeat (first | (with_reducible first | exact HB.out | apply below_alloc | apply pw_below_drewN | apply below_drew1 | refine below_set ?_ GE156.out) | exact HB.out)) hb); clear HO151; clear HO154; clear BK156; clear HB; have HO151 := n0_; have HO154 := n1_; have BK156 := n2_; have HB := n3_; clear n0_ n1_ n2_ n3_; (try clear hb); (try clear hb2); (try clear hk); (try clear hi); have hcz44_0 : w43.cell? ⟨gb156, 0, none⟩ = some (.string t148) := (blk_cell BK156.out 0).trans rfl; have hcz44_1 : w43.cell? ⟨gb156, 1, none⟩ = some (.slice Ao39 t149.length co39) := (blk_cell BK156.out 1).trans rfl; have hcz44_2 : w43.cell? ⟨gb156, 2, none⟩ = some (.slice Ao40 t152.length co40) := (blk_cell BK156.out 2).trans rfl; have hfz44_0 := blk_frozen BK156.out 0; have hfz44_1 := blk_frozen BK156.out 1; have hfz44_2 := blk_frozen BK156.out 2) | (go_at_call 19; (with_reducible refine (find_Index_Distinct.calls k t148 _ _ t149 _ _ t152 t165 _ ?side1 ?side2 ?side3 ?side4 A9.out).mono ?_); (case side1 => repeat (first | exact (Kd.R_reads' HO151.out).2.2 | (with_reducible refine Kd.C_alloc ?_ _) | (with_reducible refine Kd.C_drewN ?_ _) | (with_reducible refine Kd.C_drew ?_))); (case side2 => exact (Kd.R_reads' HO151.out).2.1); (case side3 => repeat (first | exact (Kd.R_reads' HO154.out).2.2 | (with_reducible refine Kd.C_alloc ?_ _) | (with_reducible refine Kd.C_drewN ?_ _) | (with_reducible refine Kd.C_drew ?_))); (case side4 => exact (Kd.R_reads' HO154.out).2.1); rintro e w45 ⟨rfl, hb⟩; have n0_ := Aside0.mk (Kd.R_below (by (with_reducible repeat (first | apply Kd.R_alloc | apply Kd.R_drewN | apply Kd.R_drew)); exact HO151.out) hb); have n1_ := Aside0.mk (Kd.R_below (by (with_reducible repeat (first | apply Kd.R_alloc | apply Kd.R_drewN | apply Kd.R_drew)); exact HO154.out) hb); have n2_ := Aside0.mk (blk_below (g := gb156) (o := .cells #[.string t148, .slice Ao39 t149.length co39, .slice Ao40 t152.length co40] 24 (0, 0)) (by (with_reducible repeat (first | refine blk_drewN ?_ _ | refine blk_drew ?_ | refine blk_alloc ?_ _)); exact BK156.out) hb); have n3_ := Aside0.mk (below_step (by repeat (first | (with_reducible first | exact HB.out | apply below_alloc | apply pw_below_drewN | apply below_drew1 | refine below_set ?_ GE156.out) | exact HB.out)) hb); clear HO151; clear HO154; clear BK156; clear HB; have HO151 := n0_; have HO154 := n1_; have BK156 := n2_; have HB := n3_; clear n0_ n1_ n2_ n3_; (try clear hb); (try clear hb2); (try clear hk); (try clear hi)))
          go_ret
          exact ⟨by first | rfl | (simp [errW_none, errW_some] <;> rfl) | (simp [*, errW_none, errW_some] <;> rfl), by repeat (first | (with_reducible first | exact HB.out | apply below_alloc | apply pw_below_drewN | apply below_drew1 | refine below_set ?_ GE156.out) | exact HB.out)⟩
        ·rw [if_neg c13] at H
         have c13b0 : (t162 == 0) = false := beq_eq_false_iff_ne.mpr c13
         have c13b1 : (t162 != 0) = true := bne_iff_ne.mpr c13
         obtain rfl := Option.some.inj H
         go_enter Try.func21, Try.ntmps21
         go_wp2_with (first | ((with_reducible refine gate_callee (f := 16) rfl ?_); refine goesL_ (some 12) rfl rfl Try.func16 (by kernel_rfl) rfl #[.string (⟨#[98, 97, 110, 97, 110, 97]⟩ : ByteArray)] rfl (by (try simp only [List.map_toArray, List.map_cons, List.map_nil]); first | done | rfl | (simp only [List.length_drop, List.length_take]; rfl)) ?_; (with_reducible refine (find_New.calls k (⟨#[98, 97, 110, 97, 110, 97]⟩ : ByteArray) t148 t149 t152 t155 _ A1.out).mono ?_); rintro e w46 ⟨v150, v153, rfl, ho0, ho1, hb⟩; refine ⟨_, rfl, ?_⟩; have n0_ := Aside0.mk (Kd.R_lower ho0 (below_size (by repeat (first | (with_reducible first | exact HB.out | apply below_alloc | apply pw_below_drewN | apply below_drew1) | exact HB.out)))); have n1_ := Aside0.mk (Kd.R_lower ho1 (below_size (by repeat (first | (with_reducible first | exact HB.out | apply below_alloc | apply pw_below_drewN | apply below_drew1) | exact HB.out)))); have n2_ := Aside0.mk (below_step (by repeat (first | (with_reducible first | exact HB.out | apply below_alloc | apply pw_below_drewN | apply below_drew1) | exact HB.out)) hb); clear HB; have HO151 := n0_; have HO154 := n1_; have HB := n2_; clear n0_ n1_ n2_; (try clear hb); (try clear hb2); (try clear hk); (try clear hi); (try clear ho0); (try clear ho1)) | ((with_reducible refine gate_dst (N := 1) rfl ?_); refine box_event ?hg (N := 1) ?hd (cs := #[.string (⟨#[]⟩ : ByteArray), .slice none 0 0, .slice none 0 0]) (t := 24) ?hr ?_; (case hd => rfl); (case hg => rfl); (case hr => first | (go_simp; done) | (go_simp; rfl)); intro gb156 hg w47 hbox hb; have n0_ := Aside0.mk (Kd.R_below (by (with_reducible repeat (first | apply Kd.R_alloc | apply Kd.R_drewN | apply Kd.R_drew)); exact HO151.out) hb); have n1_ := Aside0.mk (Kd.R_below (by (with_reducible repeat (first | apply Kd.R_alloc | apply Kd.R_drewN | apply Kd.R_drew)); exact HO154.out) hb); have n2_ := Aside0.mk (below_step (by repeat (first | (with_reducible first | exact HB.out | apply below_alloc | apply pw_below_drewN | apply below_drew1) | exact HB.out)) hb); have n3_ := Aside0.mk (hbox); have n4_ := Aside0.mk ((by rw [hg]; exact (below_size (by repeat (first | (with_reducible first | exact HB.out | apply below_alloc | apply pw_below_drewN | apply below_drew1) | exact HB.out))) : w.heap.size ≤ gb156)); have n5_ := Aside0.mk ((by rw [hg]; exact (below_size (by repeat (first | (with_reducible first | exact HB.out | apply below_alloc | apply pw_below_drewN | apply below_drew1) | exact HB.out))) : w.heap.size ≤ gb156)); clear HO151; clear HO154; clear HB; have HO151 := n0_; have HO154 := n1_; have HB := n2_; have BK156 := n3_; have GW156 := n4_; have GE156 := n5_; clear n0_ n1_ n2_ n3_ n4_ n5_; clear hb hbox hg; have hcz48_0 : w47.cell? ⟨gb156, 0, none⟩ = some (.string (⟨#[]⟩ : ByteArray)) := (blk_cell BK156.out 0).trans rfl; have hcz48_1 : w47.cell? ⟨gb156, 1, none⟩ = some (.slice none 0 0) := (blk_cell BK156.out 1).trans rfl; have hcz48_2 : w47.cell? ⟨gb156, 2, none⟩ = some (.slice none 0 0) := (blk_cell BK156.out 2).trans rfl; have hfz48_0 := blk_frozen BK156.out 0; have hfz48_1 := blk_frozen BK156.out 1; have hfz48_2 := blk_frozen BK156.out 2; obtain ⟨Ao49, co49, eo49⟩ := Kd.R_slice HO151.out; subst eo49; obtain ⟨Ao50, co50, eo50⟩ := Kd.R_slice HO154.out; subst eo50) | ((with_reducible refine gate_callee (f := 17) rfl ?_); refine goesL_ (some 17) rfl rfl Try.func17 (by kernel_rfl) rfl #[.agg #[.string t148, .slice Ao49 t149.length co49, .slice Ao50 t152.length co50]] rfl (by (try simp only [List.map_toArray, List.map_cons, List.map_nil]); first | done | rfl | (simp only [List.length_drop, List.length_take]; rfl)) ?_; (with_reducible refine (find_Index_Repeat.calls k t148 _ _ t149 _ _ t152 t157 t158 t159 _ ?side1 ?side2 ?side3 ?side4 A2.out).mono ?_); (case side1 => refine (Kd.R_reads' (e := 3) (base := w.heap.size) (ok := fun k_ => some k_ ≠ (.slice Ao50 t152.length co50 : Value).ownBlock) (n := t149.length) (c := co49) ?_).2.2; exact (by (with_reducible repeat (first | apply Kd.R_alloc | apply Kd.R_drewN | apply Kd.R_drew)); exact (Kd.R_mono (Kd.R_far (p := ⟨gb156, 2, none⟩) (Kd.R_far (p := ⟨gb156, 1, none⟩) (Kd.R_far (p := ⟨gb156, 0, none⟩) (Kd.R_types HO151.out BK156.out (by decide)) (fun _ hk => hk.2) (.string t148)) (fun _ hk => hk.2) (.slice Ao49 t149.length co49)) (fun _ hk => hk.2) (.slice Ao50 t152.length co50)) (fun _ h_ => h_.1)))); (case side2 => exact (Kd.R_reads' HO151.out).2.1); (case side3 => refine (Kd.R_reads' (e := 3) (base := w.heap.size) (ok := fun k_ => some k_ ≠ (.slice Ao49 t149.length co49 : Value).ownBlock) (n := t152.length) (c := co50) ?_).2.2; exact (by (with_reducible repeat (first | apply Kd.R_alloc | apply Kd.R_drewN | apply Kd.R_drew)); exact (Kd.R_mono (Kd.R_far (p := ⟨gb156, 2, none⟩) (Kd.R_far (p := ⟨gb156, 1, none⟩) (Kd.R_far (p := ⟨gb156, 0, none⟩) (Kd.R_types HO154.out BK156.out (by decide)) (fun _ hk => hk.2) (.string t148)) (fun _ hk => hk.2) (.slice Ao49 t149.length co49)) (fun _ hk => hk.2) (.slice Ao50 t152.length co50)) (fun _ h_ => h_.1)))); (case side4 => exact (Kd.R_reads' HO154.out).2.1); rintro e w51 ⟨rfl, hb⟩; refine ⟨_, rfl, ?_⟩; have n0_ := Aside0.mk (Kd.R_below (by (with_reducible repeat (first | apply Kd.R_alloc | apply Kd.R_drewN | apply Kd.R_drew)); exact (Kd.R_mono (Kd.R_far (p := ⟨gb156, 2, none⟩) (Kd.R_far (p := ⟨gb156, 1, none⟩) (Kd.R_far (p := ⟨gb156, 0, none⟩) (Kd.R_types HO151.out BK156.out (by decide)) (fun _ hk => hk.2) (.string t148)) (fun _ hk => hk.2) (.slice Ao49 t149.length co49)) (fun _ hk => hk.2) (.slice Ao50 t152.length co50)) (fun _ h_ => h_.1))) hb); have n1_ := Aside0.mk (Kd.R_below (by (with_reducible repeat (first | apply Kd.R_alloc | apply Kd.R_drewN | apply Kd.R_drew)); exact (Kd.R_mono (Kd.R_far (p := ⟨gb156, 2, none⟩) (Kd.R_far (p := ⟨gb156, 1, none⟩) (Kd.R_far (p := ⟨gb156, 0, none⟩) (Kd.R_types HO154.out BK156.out (by decide)) (fun _ hk => hk.2) (.string t148)) (fun _ hk => hk.2) (.slice Ao49 t149.length co49)) (fun _ hk => hk.2) (.slice Ao50 t152.length co50)) (fun _ h_ => h_.1))) hb); have n2_ := Aside0.mk (blk_below (g := gb156) (o := .cells #[.string t148, .slice Ao49 t149.length co49, .slice Ao50 t152.length co50] 24 (0, 0)) (by (with_reducible repeat (first | refine blk_drewN ?_ _ | refine blk_drew ?_ | refine blk_alloc ?_ _)); refine blk_put (cs := #[.string t148, .slice Ao49 t149.length co49, .slice none 0 0]) ?_ 2 _ rfl; (with_reducible repeat (first | refine blk_drewN ?_ _ | refine blk_drew ?_ | refine blk_alloc ?_ _)); refine blk_put (cs := #[.string t148, .slice none 0 0, .slice none 0 0]) ?_ 1 _ rfl; (with_reducible repeat (first | refine blk_drewN ?_ _ | refine blk_drew ?_ | refine blk_alloc ?_ _)); refine blk_put (cs := #[.string (⟨#[]⟩ : ByteArray), .slice none 0 0, .slice none 0 0]) ?_ 0 _ rfl; (with_reducible repeat (first | refine blk_drewN ?_ _ | refine blk_drew ?_ | refine blk_alloc ?_ _)); exact BK156.out) hb); have n3_ := Aside0.mk (below_step (by repeat (first | (with_reducible first | exact HB.out | apply below_alloc | apply pw_below_drewN | apply below_drew1 | refine below_set ?_ GE156.out) | exact HB.out)) hb); clear HO151; clear HO154; clear BK156; clear HB; have HO151 := n0_; have HO154 := n1_; have BK156 := n2_; have HB := n3_; clear n0_ n1_ n2_ n3_; (try clear hb); (try clear hb2); (try clear hk); (try clear hi)) | ((with_reducible refine gate_callee (f := 23) rfl ?_); refine goesL_ (some 22) rfl rfl Try.func23 (by kernel_rfl) rfl #[.string (⟨#[98, 97, 110, 97, 110, 97]⟩ : ByteArray)] rfl (by (try simp only [List.map_toArray, List.map_cons, List.map_nil]); first | done | rfl | (simp only [List.length_drop, List.length_take]; rfl)) ?_; (with_reducible refine (find_Turn.calls (⟨#[98, 97, 110, 97, 110, 97]⟩ : ByteArray) t160 t161 t162 _ A3.out).mono ?_); rintro e w52 ⟨rfl, hb⟩; refine ⟨_, rfl, ?_⟩; have n0_ := Aside0.mk (Kd.R_below (by (with_reducible repeat (first | apply Kd.R_alloc | apply Kd.R_drewN | apply Kd.R_drew)); exact HO151.out) hb); have n1_ := Aside0.mk (Kd.R_below (by (with_reducible repeat (first | apply Kd.R_alloc | apply Kd.R_drewN | apply Kd.R_drew)); exact HO154.out) hb); have n2_ := Aside0.mk (blk_below (g := gb156) (o := .cells #[.string t148, .slice Ao49 t149.length co49, .slice Ao50 t152.length co50] 24 (0, 0)) (by (with_reducible repeat (first | refine blk_drewN ?_ _ | refine blk_drew ?_ | refine blk_alloc ?_ _)); exact BK156.out) hb); have n3_ := Aside0.mk (below_step (by repeat (first | (with_reducible first | exact HB.out | apply below_alloc | apply pw_below_drewN | apply below_drew1 | refine below_set ?_ GE156.out) | exact HB.out)) hb); clear HO151; clear HO154; clear BK156; clear HB; have HO151 := n0_; have HO154 := n1_; have BK156 := n2_; have HB := n3_; clear n0_ n1_ n2_ n3_; (try clear hb); (try clear hb2); (try clear hk); (try clear hi)) | ((with_reducible refine gate_callee (f := 25) rfl ?_); refine goesL_ (some 27) rfl rfl Try.func25 (by kernel_rfl) rfl #[.string (⟨#[97, 110, 110, 98, 97, 97]⟩ : ByteArray), .int .i64 4] rfl (by (try simp only [List.map_toArray, List.map_cons, List.map_nil]); first | done | rfl | (simp only [List.length_drop, List.length_take]; rfl)) ?_; (with_reducible refine (find_Restore.calls (⟨#[97, 110, 110, 98, 97, 97]⟩ : ByteArray) 4 t163 t164 _ A4.out).mono ?_); rintro e w53 ⟨rfl, hb⟩; refine ⟨_, rfl, ?_⟩; have n0_ := Aside0.mk (Kd.R_below (by (with_reducible repeat (first | apply Kd.R_alloc | apply Kd.R_drewN | apply Kd.R_drew)); exact HO151.out) hb); have n1_ := Aside0.mk (Kd.R_below (by (with_reducible repeat (first | apply Kd.R_alloc | apply Kd.R_drewN | apply Kd.R_drew)); exact HO154.out) hb); have n2_ := Aside0.mk (blk_below (g := gb156) (o := .cells #[.string t148, .slice Ao49 t149.length co49, .slice Ao50 t152.length co50] 24 (0, 0)) (by (with_reducible repeat (first | refine blk_drewN ?_ _ | refine blk_drew ?_ | refine blk_alloc ?_ _)); exact BK156.out) hb); have n3_ := Aside0.mk (below_step (by repeat (first | (with_reducible first | exact HB.out | apply below_alloc | apply pw_below_drewN | apply below_drew1 | refine below_set ?_ GE156.out) | exact HB.out)) hb); clear HO151; clear HO154; clear BK156; clear HB; have HO151 := n0_; have HO154 := n1_; have BK156 := n2_; have HB := n3_; clear n0_ n1_ n2_ n3_; (try clear hb); (try clear hb2); (try clear hk); (try clear hi); have hcz54_0 : w53.cell? ⟨gb156, 0, none⟩ = some (.string t148) := (blk_cell BK156.out 0).trans rfl; have hcz54_1 : w53.cell? ⟨gb156, 1, none⟩ = some (.slice Ao49 t149.length co49) := (blk_cell BK156.out 1).trans rfl; have hcz54_2 : w53.cell? ⟨gb156, 2, none⟩ = some (.slice Ao50 t152.length co50) := (blk_cell BK156.out 2).trans rfl; have hfz54_0 := blk_frozen BK156.out 0; have hfz54_1 := blk_frozen BK156.out 1; have hfz54_2 := blk_frozen BK156.out 2) | (go_at_call 19; (with_reducible refine (find_Index_Distinct.calls k t148 _ _ t149 _ _ t152 t165 _ ?side1 ?side2 ?side3 ?side4 A9.out).mono ?_); (case side1 => repeat (first | exact (Kd.R_reads' HO151.out).2.2 | (with_reducible refine Kd.C_alloc ?_ _) | (with_reducible refine Kd.C_drewN ?_ _) | (with_reducible refine Kd.C_drew ?_))); (case side2 => exact (Kd.R_reads' HO151.out).2.1); (case side3 => repeat (first | exact (Kd.R_reads' HO154.out).2.2 | (with_reducible refine Kd.C_alloc ?_ _) | (with_reducible refine Kd.C_drewN ?_ _) | (with_reducible refine Kd.C_drew ?_))); (case side4 => exact (Kd.R_reads' HO154.out).2.1); rintro e w55 ⟨rfl, hb⟩; have n0_ := Aside0.mk (Kd.R_below (by (with_reducible repeat (first | apply Kd.R_alloc | apply Kd.R_drewN | apply Kd.R_drew)); exact HO151.out) hb); have n1_ := Aside0.mk (Kd.R_below (by (with_reducible repeat (first | apply Kd.R_alloc | apply Kd.R_drewN | apply Kd.R_drew)); exact HO154.out) hb); have n2_ := Aside0.mk (blk_below (g := gb156) (o := .cells #[.string t148, .slice Ao49 t149.length co49, .slice Ao50 t152.length co50] 24 (0, 0)) (by (with_reducible repeat (first | refine blk_drewN ?_ _ | refine blk_drew ?_ | refine blk_alloc ?_ _)); exact BK156.out) hb); have n3_ := Aside0.mk (below_step (by repeat (first | (with_reducible first | exact HB.out | apply below_alloc | apply pw_below_drewN | apply below_drew1 | refine below_set ?_ GE156.out) | exact HB.out)) hb); clear HO151; clear HO154; clear BK156; clear HB; have HO151 := n0_; have HO154 := n1_; have BK156 := n2_; have HB := n3_; clear n0_ n1_ n2_ n3_; (try clear hb); (try clear hb2); (try clear hk); (try clear hi)))
         go_ret
         exact ⟨by first | rfl | (simp [errW_none, errW_some] <;> rfl) | (simp [*, errW_none, errW_some] <;> rfl), by repeat (first | (with_reducible first | exact HB.out | apply below_alloc | apply pw_below_drewN | apply below_drew1 | refine below_set ?_ GE156.out) | exact HB.out)⟩
       ·rw [if_neg c12] at H
        have c12b0 : (t161 == 4) = false := beq_eq_false_iff_ne.mpr c12
        have c12b1 : (t161 != 4) = true := bne_iff_ne.mpr c12
        obtain rfl := Option.some.inj H
        go_enter Try.func21, Try.ntmps21
        go_wp2_with (first | ((with_reducible refine gate_callee (f := 16) rfl ?_); refine goesL_ (some 12) rfl rfl Try.func16 (by kernel_rfl) rfl #[.string (⟨#[98, 97, 110, 97, 110, 97]⟩ : ByteArray)] rfl (by (try simp only [List.map_toArray, List.map_cons, List.map_nil]); first | done | rfl | (simp only [List.length_drop, List.length_take]; rfl)) ?_; (with_reducible refine (find_New.calls k (⟨#[98, 97, 110, 97, 110, 97]⟩ : ByteArray) t148 t149 t152 t155 _ A1.out).mono ?_); rintro e w56 ⟨v150, v153, rfl, ho0, ho1, hb⟩; refine ⟨_, rfl, ?_⟩; have n0_ := Aside0.mk (Kd.R_lower ho0 (below_size (by repeat (first | (with_reducible first | exact HB.out | apply below_alloc | apply pw_below_drewN | apply below_drew1) | exact HB.out)))); have n1_ := Aside0.mk (Kd.R_lower ho1 (below_size (by repeat (first | (with_reducible first | exact HB.out | apply below_alloc | apply pw_below_drewN | apply below_drew1) | exact HB.out)))); have n2_ := Aside0.mk (below_step (by repeat (first | (with_reducible first | exact HB.out | apply below_alloc | apply pw_below_drewN | apply below_drew1) | exact HB.out)) hb); clear HB; have HO151 := n0_; have HO154 := n1_; have HB := n2_; clear n0_ n1_ n2_; (try clear hb); (try clear hb2); (try clear hk); (try clear hi); (try clear ho0); (try clear ho1)) | ((with_reducible refine gate_dst (N := 1) rfl ?_); refine box_event ?hg (N := 1) ?hd (cs := #[.string (⟨#[]⟩ : ByteArray), .slice none 0 0, .slice none 0 0]) (t := 24) ?hr ?_; (case hd => rfl); (case hg => rfl); (case hr => first | (go_simp; done) | (go_simp; rfl)); intro gb156 hg w57 hbox hb; have n0_ := Aside0.mk (Kd.R_below (by (with_reducible repeat (first | apply Kd.R_alloc | apply Kd.R_drewN | apply Kd.R_drew)); exact HO151.out) hb); have n1_ := Aside0.mk (Kd.R_below (by (with_reducible repeat (first | apply Kd.R_alloc | apply Kd.R_drewN | apply Kd.R_drew)); exact HO154.out) hb); have n2_ := Aside0.mk (below_step (by repeat (first | (with_reducible first | exact HB.out | apply below_alloc | apply pw_below_drewN | apply below_drew1) | exact HB.out)) hb); have n3_ := Aside0.mk (hbox); have n4_ := Aside0.mk ((by rw [hg]; exact (below_size (by repeat (first | (with_reducible first | exact HB.out | apply below_alloc | apply pw_below_drewN | apply below_drew1) | exact HB.out))) : w.heap.size ≤ gb156)); have n5_ := Aside0.mk ((by rw [hg]; exact (below_size (by repeat (first | (with_reducible first | exact HB.out | apply below_alloc | apply pw_below_drewN | apply below_drew1) | exact HB.out))) : w.heap.size ≤ gb156)); clear HO151; clear HO154; clear HB; have HO151 := n0_; have HO154 := n1_; have HB := n2_; have BK156 := n3_; have GW156 := n4_; have GE156 := n5_; clear n0_ n1_ n2_ n3_ n4_ n5_; clear hb hbox hg; have hcz58_0 : w57.cell? ⟨gb156, 0, none⟩ = some (.string (⟨#[]⟩ : ByteArray)) := (blk_cell BK156.out 0).trans rfl; have hcz58_1 : w57.cell? ⟨gb156, 1, none⟩ = some (.slice none 0 0) := (blk_cell BK156.out 1).trans rfl; have hcz58_2 : w57.cell? ⟨gb156, 2, none⟩ = some (.slice none 0 0) := (blk_cell BK156.out 2).trans rfl; have hfz58_0 := blk_frozen BK156.out 0; have hfz58_1 := blk_frozen BK156.out 1; have hfz58_2 := blk_frozen BK156.out 2; obtain ⟨Ao59, co59, eo59⟩ := Kd.R_slice HO151.out; subst eo59; obtain ⟨Ao60, co60, eo60⟩ := Kd.R_slice HO154.out; subst eo60) | ((with_reducible refine gate_callee (f := 17) rfl ?_); refine goesL_ (some 17) rfl rfl Try.func17 (by kernel_rfl) rfl #[.agg #[.string t148, .slice Ao59 t149.length co59, .slice Ao60 t152.length co60]] rfl (by (try simp only [List.map_toArray, List.map_cons, List.map_nil]); first | done | rfl | (simp only [List.length_drop, List.length_take]; rfl)) ?_; (with_reducible refine (find_Index_Repeat.calls k t148 _ _ t149 _ _ t152 t157 t158 t159 _ ?side1 ?side2 ?side3 ?side4 A2.out).mono ?_); (case side1 => refine (Kd.R_reads' (e := 3) (base := w.heap.size) (ok := fun k_ => some k_ ≠ (.slice Ao60 t152.length co60 : Value).ownBlock) (n := t149.length) (c := co59) ?_).2.2; exact (by (with_reducible repeat (first | apply Kd.R_alloc | apply Kd.R_drewN | apply Kd.R_drew)); exact (Kd.R_mono (Kd.R_far (p := ⟨gb156, 2, none⟩) (Kd.R_far (p := ⟨gb156, 1, none⟩) (Kd.R_far (p := ⟨gb156, 0, none⟩) (Kd.R_types HO151.out BK156.out (by decide)) (fun _ hk => hk.2) (.string t148)) (fun _ hk => hk.2) (.slice Ao59 t149.length co59)) (fun _ hk => hk.2) (.slice Ao60 t152.length co60)) (fun _ h_ => h_.1)))); (case side2 => exact (Kd.R_reads' HO151.out).2.1); (case side3 => refine (Kd.R_reads' (e := 3) (base := w.heap.size) (ok := fun k_ => some k_ ≠ (.slice Ao59 t149.length co59 : Value).ownBlock) (n := t152.length) (c := co60) ?_).2.2; exact (by (with_reducible repeat (first | apply Kd.R_alloc | apply Kd.R_drewN | apply Kd.R_drew)); exact (Kd.R_mono (Kd.R_far (p := ⟨gb156, 2, none⟩) (Kd.R_far (p := ⟨gb156, 1, none⟩) (Kd.R_far (p := ⟨gb156, 0, none⟩) (Kd.R_types HO154.out BK156.out (by decide)) (fun _ hk => hk.2) (.string t148)) (fun _ hk => hk.2) (.slice Ao59 t149.length co59)) (fun _ hk => hk.2) (.slice Ao60 t152.length co60)) (fun _ h_ => h_.1)))); (case side4 => exact (Kd.R_reads' HO154.out).2.1); rintro e w61 ⟨rfl, hb⟩; refine ⟨_, rfl, ?_⟩; have n0_ := Aside0.mk (Kd.R_below (by (with_reducible repeat (first | apply Kd.R_alloc | apply Kd.R_drewN | apply Kd.R_drew)); exact (Kd.R_mono (Kd.R_far (p := ⟨gb156, 2, none⟩) (Kd.R_far (p := ⟨gb156, 1, none⟩) (Kd.R_far (p := ⟨gb156, 0, none⟩) (Kd.R_types HO151.out BK156.out (by decide)) (fun _ hk => hk.2) (.string t148)) (fun _ hk => hk.2) (.slice Ao59 t149.length co59)) (fun _ hk => hk.2) (.slice Ao60 t152.length co60)) (fun _ h_ => h_.1))) hb); have n1_ := Aside0.mk (Kd.R_below (by (with_reducible repeat (first | apply Kd.R_alloc | apply Kd.R_drewN | apply Kd.R_drew)); exact (Kd.R_mono (Kd.R_far (p := ⟨gb156, 2, none⟩) (Kd.R_far (p := ⟨gb156, 1, none⟩) (Kd.R_far (p := ⟨gb156, 0, none⟩) (Kd.R_types HO154.out BK156.out (by decide)) (fun _ hk => hk.2) (.string t148)) (fun _ hk => hk.2) (.slice Ao59 t149.length co59)) (fun _ hk => hk.2) (.slice Ao60 t152.length co60)) (fun _ h_ => h_.1))) hb); have n2_ := Aside0.mk (blk_below (g := gb156) (o := .cells #[.string t148, .slice Ao59 t149.length co59, .slice Ao60 t152.length co60] 24 (0, 0)) (by (with_reducible repeat (first | refine blk_drewN ?_ _ | refine blk_drew ?_ | refine blk_alloc ?_ _)); refine blk_put (cs := #[.string t148, .slice Ao59 t149.length co59, .slice none 0 0]) ?_ 2 _ rfl; (with_reducible repeat (first | refine blk_drewN ?_ _ | refine blk_drew ?_ | refine blk_alloc ?_ _)); refine blk_put (cs := #[.string t148, .slice none 0 0, .slice none 0 0]) ?_ 1 _ rfl; (with_reducible repeat (first | refine blk_drewN ?_ _ | refine blk_drew ?_ | refine blk_alloc ?_ _)); refine blk_put (cs := #[.string (⟨#[]⟩ : ByteArray), .slice none 0 0, .slice none 0 0]) ?_ 0 _ rfl; (with_reducible repeat (first | refine blk_drewN ?_ _ | refine blk_drew ?_ | refine blk_alloc ?_ _)); exact BK156.out) hb); have n3_ := Aside0.mk (below_step (by repeat (first | (with_reducible first | exact HB.out | apply below_alloc | apply pw_below_drewN | apply below_drew1 | refine below_set ?_ GE156.out) | exact HB.out)) hb); clear HO151; clear HO154; clear BK156; clear HB; have HO151 := n0_; have HO154 := n1_; have BK156 := n2_; have HB := n3_; clear n0_ n1_ n2_ n3_; (try clear hb); (try clear hb2); (try clear hk); (try clear hi)) | ((with_reducible refine gate_callee (f := 23) rfl ?_); refine goesL_ (some 22) rfl rfl Try.func23 (by kernel_rfl) rfl #[.string (⟨#[98, 97, 110, 97, 110, 97]⟩ : ByteArray)] rfl (by (try simp only [List.map_toArray, List.map_cons, List.map_nil]); first | done | rfl | (simp only [List.length_drop, List.length_take]; rfl)) ?_; (with_reducible refine (find_Turn.calls (⟨#[98, 97, 110, 97, 110, 97]⟩ : ByteArray) t160 t161 t162 _ A3.out).mono ?_); rintro e w62 ⟨rfl, hb⟩; refine ⟨_, rfl, ?_⟩; have n0_ := Aside0.mk (Kd.R_below (by (with_reducible repeat (first | apply Kd.R_alloc | apply Kd.R_drewN | apply Kd.R_drew)); exact HO151.out) hb); have n1_ := Aside0.mk (Kd.R_below (by (with_reducible repeat (first | apply Kd.R_alloc | apply Kd.R_drewN | apply Kd.R_drew)); exact HO154.out) hb); have n2_ := Aside0.mk (blk_below (g := gb156) (o := .cells #[.string t148, .slice Ao59 t149.length co59, .slice Ao60 t152.length co60] 24 (0, 0)) (by (with_reducible repeat (first | refine blk_drewN ?_ _ | refine blk_drew ?_ | refine blk_alloc ?_ _)); exact BK156.out) hb); have n3_ := Aside0.mk (below_step (by repeat (first | (with_reducible first | exact HB.out | apply below_alloc | apply pw_below_drewN | apply below_drew1 | refine below_set ?_ GE156.out) | exact HB.out)) hb); clear HO151; clear HO154; clear BK156; clear HB; have HO151 := n0_; have HO154 := n1_; have BK156 := n2_; have HB := n3_; clear n0_ n1_ n2_ n3_; (try clear hb); (try clear hb2); (try clear hk); (try clear hi)) | ((with_reducible refine gate_callee (f := 25) rfl ?_); refine goesL_ (some 27) rfl rfl Try.func25 (by kernel_rfl) rfl #[.string (⟨#[97, 110, 110, 98, 97, 97]⟩ : ByteArray), .int .i64 4] rfl (by (try simp only [List.map_toArray, List.map_cons, List.map_nil]); first | done | rfl | (simp only [List.length_drop, List.length_take]; rfl)) ?_; (with_reducible refine (find_Restore.calls (⟨#[97, 110, 110, 98, 97, 97]⟩ : ByteArray) 4 t163 t164 _ A4.out).mono ?_); rintro e w63 ⟨rfl, hb⟩; refine ⟨_, rfl, ?_⟩; have n0_ := Aside0.mk (Kd.R_below (by (with_reducible repeat (first | apply Kd.R_alloc | apply Kd.R_drewN | apply Kd.R_drew)); exact HO151.out) hb); have n1_ := Aside0.mk (Kd.R_below (by (with_reducible repeat (first | apply Kd.R_alloc | apply Kd.R_drewN | apply Kd.R_drew)); exact HO154.out) hb); have n2_ := Aside0.mk (blk_below (g := gb156) (o := .cells #[.string t148, .slice Ao59 t149.length co59, .slice Ao60 t152.length co60] 24 (0, 0)) (by (with_reducible repeat (first | refine blk_drewN ?_ _ | refine blk_drew ?_ | refine blk_alloc ?_ _)); exact BK156.out) hb); have n3_ := Aside0.mk (below_step (by repeat (first | (with_reducible first | exact HB.out | apply below_alloc | apply pw_below_drewN | apply below_drew1 | refine below_set ?_ GE156.out) | exact HB.out)) hb); clear HO151; clear HO154; clear BK156; clear HB; have HO151 := n0_; have HO154 := n1_; have BK156 := n2_; have HB := n3_; clear n0_ n1_ n2_ n3_; (try clear hb); (try clear hb2); (try clear hk); (try clear hi); have hcz64_0 : w63.cell? ⟨gb156, 0, none⟩ = some (.string t148) := (blk_cell BK156.out 0).trans rfl; have hcz64_1 : w63.cell? ⟨gb156, 1, none⟩ = some (.slice Ao59 t149.length co59) := (blk_cell BK156.out 1).trans rfl; have hcz64_2 : w63.cell? ⟨gb156, 2, none⟩ = some (.slice Ao60 t152.length co60) := (blk_cell BK156.out 2).trans rfl; have hfz64_0 := blk_frozen BK156.out 0; have hfz64_1 := blk_frozen BK156.out 1; have hfz64_2 := blk_frozen BK156.out 2) | (go_at_call 19; (with_reducible refine (find_Index_Distinct.calls k t148 _ _ t149 _ _ t152 t165 _ ?side1 ?side2 ?side3 ?side4 A9.out).mono ?_); (case side1 => repeat (first | exact (Kd.R_reads' HO151.out).2.2 | (with_reducible refine Kd.C_alloc ?_ _) | (with_reducible refine Kd.C_drewN ?_ _) | (with_reducible refine Kd.C_drew ?_))); (case side2 => exact (Kd.R_reads' HO151.out).2.1); (case side3 => repeat (first | exact (Kd.R_reads' HO154.out).2.2 | (with_reducible refine Kd.C_alloc ?_ _) | (with_reducible refine Kd.C_drewN ?_ _) | (with_reducible refine Kd.C_drew ?_))); (case side4 => exact (Kd.R_reads' HO154.out).2.1); rintro e w65 ⟨rfl, hb⟩; have n0_ := Aside0.mk (Kd.R_below (by (with_reducible repeat (first | apply Kd.R_alloc | apply Kd.R_drewN | apply Kd.R_drew)); exact HO151.out) hb); have n1_ := Aside0.mk (Kd.R_below (by (with_reducible repeat (first | apply Kd.R_alloc | apply Kd.R_drewN | apply Kd.R_drew)); exact HO154.out) hb); have n2_ := Aside0.mk (blk_below (g := gb156) (o := .cells #[.string t148, .slice Ao59 t149.length co59, .slice Ao60 t152.length co60] 24 (0, 0)) (by (with_reducible repeat (first | refine blk_drewN ?_ _ | refine blk_drew ?_ | refine blk_alloc ?_ _)); exact BK156.out) hb); have n3_ := Aside0.mk (below_step (by repeat (first | (with_reducible first | exact HB.out | apply below_alloc | apply pw_below_drewN | apply below_drew1 | refine below_set ?_ GE156.out) | exact HB.out)) hb); clear HO151; clear HO154; clear BK156; clear HB; have HO151 := n0_; have HO154 := n1_; have BK156 := n2_; have HB := n3_; clear n0_ n1_ n2_ n3_; (try clear hb); (try clear hb2); (try clear hk); (try clear hi)))
        go_ret
        exact ⟨by first | rfl | (simp [errW_none, errW_some] <;> rfl) | (simp [*, errW_none, errW_some] <;> rfl), by repeat (first | (with_reducible first | exact HB.out | apply below_alloc | apply pw_below_drewN | apply below_drew1 | refine below_set ?_ GE156.out) | exact HB.out)⟩
      ·rw [if_neg c11] at H
       have c11b0 : (t160.toList == ([97, 110, 110, 98, 97, 97] : List UInt8)) = false := beq_eq_false_iff_ne.mpr c11
       have c11b1 : (t160.toList != ([97, 110, 110, 98, 97, 97] : List UInt8)) = true := bne_iff_ne.mpr c11
       obtain rfl := Option.some.inj H
       go_enter Try.func21, Try.ntmps21
       go_wp2_with (first | ((with_reducible refine gate_callee (f := 16) rfl ?_); refine goesL_ (some 12) rfl rfl Try.func16 (by kernel_rfl) rfl #[.string (⟨#[98, 97, 110, 97, 110, 97]⟩ : ByteArray)] rfl (by (try simp only [List.map_toArray, List.map_cons, List.map_nil]); first | done | rfl | (simp only [List.length_drop, List.length_take]; rfl)) ?_; (with_reducible refine (find_New.calls k (⟨#[98, 97, 110, 97, 110, 97]⟩ : ByteArray) t148 t149 t152 t155 _ A1.out).mono ?_); rintro e w66 ⟨v150, v153, rfl, ho0, ho1, hb⟩; refine ⟨_, rfl, ?_⟩; have n0_ := Aside0.mk (Kd.R_lower ho0 (below_size (by repeat (first | (with_reducible first | exact HB.out | apply below_alloc | apply pw_below_drewN | apply below_drew1) | exact HB.out)))); have n1_ := Aside0.mk (Kd.R_lower ho1 (below_size (by repeat (first | (with_reducible first | exact HB.out | apply below_alloc | apply pw_below_drewN | apply below_drew1) | exact HB.out)))); have n2_ := Aside0.mk (below_step (by repeat (first | (with_reducible first | exact HB.out | apply below_alloc | apply pw_below_drewN | apply below_drew1) | exact HB.out)) hb); clear HB; have HO151 := n0_; have HO154 := n1_; have HB := n2_; clear n0_ n1_ n2_; (try clear hb); (try clear hb2); (try clear hk); (try clear hi); (try clear ho0); (try clear ho1)) | ((with_reducible refine gate_dst (N := 1) rfl ?_); refine box_event ?hg (N := 1) ?hd (cs := #[.string (⟨#[]⟩ : ByteArray), .slice none 0 0, .slice none 0 0]) (t := 24) ?hr ?_; (case hd => rfl); (case hg => rfl); (case hr => first | (go_simp; done) | (go_simp; rfl)); intro gb156 hg w67 hbox hb; have n0_ := Aside0.mk (Kd.R_below (by (with_reducible repeat (first | apply Kd.R_alloc | apply Kd.R_drewN | apply Kd.R_drew)); exact HO151.out) hb); have n1_ := Aside0.mk (Kd.R_below (by (with_reducible repeat (first | apply Kd.R_alloc | apply Kd.R_drewN | apply Kd.R_drew)); exact HO154.out) hb); have n2_ := Aside0.mk (below_step (by repeat (first | (with_reducible first | exact HB.out | apply below_alloc | apply pw_below_drewN | apply below_drew1) | exact HB.out)) hb); have n3_ := Aside0.mk (hbox); have n4_ := Aside0.mk ((by rw [hg]; exact (below_size (by repeat (first | (with_reducible first | exact HB.out | apply below_alloc | apply pw_below_drewN | apply below_drew1) | exact HB.out))) : w.heap.size ≤ gb156)); have n5_ := Aside0.mk ((by rw [hg]; exact (below_size (by repeat (first | (with_reducible first | exact HB.out | apply below_alloc | apply pw_below_drewN | apply below_drew1) | exact HB.out))) : w.heap.size ≤ gb156)); clear HO151; clear HO154; clear HB; have HO151 := n0_; have HO154 := n1_; have HB := n2_; have BK156 := n3_; have GW156 := n4_; have GE156 := n5_; clear n0_ n1_ n2_ n3_ n4_ n5_; clear hb hbox hg; have hcz68_0 : w67.cell? ⟨gb156, 0, none⟩ = some (.string (⟨#[]⟩ : ByteArray)) := (blk_cell BK156.out 0).trans rfl; have hcz68_1 : w67.cell? ⟨gb156, 1, none⟩ = some (.slice none 0 0) := (blk_cell BK156.out 1).trans rfl; have hcz68_2 : w67.cell? ⟨gb156, 2, none⟩ = some (.slice none 0 0) := (blk_cell BK156.out 2).trans rfl; have hfz68_0 := blk_frozen BK156.out 0; have hfz68_1 := blk_frozen BK156.out 1; have hfz68_2 := blk_frozen BK156.out 2; obtain ⟨Ao69, co69, eo69⟩ := Kd.R_slice HO151.out; subst eo69; obtain ⟨Ao70, co70, eo70⟩ := Kd.R_slice HO154.out; subst eo70) | ((with_reducible refine gate_callee (f := 17) rfl ?_); refine goesL_ (some 17) rfl rfl Try.func17 (by kernel_rfl) rfl #[.agg #[.string t148, .slice Ao69 t149.length co69, .slice Ao70 t152.length co70]] rfl (by (try simp only [List.map_toArray, List.map_cons, List.map_nil]); first | done | rfl | (simp only [List.length_drop, List.length_take]; rfl)) ?_; (with_reducible refine (find_Index_Repeat.calls k t148 _ _ t149 _ _ t152 t157 t158 t159 _ ?side1 ?side2 ?side3 ?side4 A2.out).mono ?_); (case side1 => refine (Kd.R_reads' (e := 3) (base := w.heap.size) (ok := fun k_ => some k_ ≠ (.slice Ao70 t152.length co70 : Value).ownBlock) (n := t149.length) (c := co69) ?_).2.2; exact (by (with_reducible repeat (first | apply Kd.R_alloc | apply Kd.R_drewN | apply Kd.R_drew)); exact (Kd.R_mono (Kd.R_far (p := ⟨gb156, 2, none⟩) (Kd.R_far (p := ⟨gb156, 1, none⟩) (Kd.R_far (p := ⟨gb156, 0, none⟩) (Kd.R_types HO151.out BK156.out (by decide)) (fun _ hk => hk.2) (.string t148)) (fun _ hk => hk.2) (.slice Ao69 t149.length co69)) (fun _ hk => hk.2) (.slice Ao70 t152.length co70)) (fun _ h_ => h_.1)))); (case side2 => exact (Kd.R_reads' HO151.out).2.1); (case side3 => refine (Kd.R_reads' (e := 3) (base := w.heap.size) (ok := fun k_ => some k_ ≠ (.slice Ao69 t149.length co69 : Value).ownBlock) (n := t152.length) (c := co70) ?_).2.2; exact (by (with_reducible repeat (first | apply Kd.R_alloc | apply Kd.R_drewN | apply Kd.R_drew)); exact (Kd.R_mono (Kd.R_far (p := ⟨gb156, 2, none⟩) (Kd.R_far (p := ⟨gb156, 1, none⟩) (Kd.R_far (p := ⟨gb156, 0, none⟩) (Kd.R_types HO154.out BK156.out (by decide)) (fun _ hk => hk.2) (.string t148)) (fun _ hk => hk.2) (.slice Ao69 t149.length co69)) (fun _ hk => hk.2) (.slice Ao70 t152.length co70)) (fun _ h_ => h_.1)))); (case side4 => exact (Kd.R_reads' HO154.out).2.1); rintro e w71 ⟨rfl, hb⟩; refine ⟨_, rfl, ?_⟩; have n0_ := Aside0.mk (Kd.R_below (by (with_reducible repeat (first | apply Kd.R_alloc | apply Kd.R_drewN | apply Kd.R_drew)); exact (Kd.R_mono (Kd.R_far (p := ⟨gb156, 2, none⟩) (Kd.R_far (p := ⟨gb156, 1, none⟩) (Kd.R_far (p := ⟨gb156, 0, none⟩) (Kd.R_types HO151.out BK156.out (by decide)) (fun _ hk => hk.2) (.string t148)) (fun _ hk => hk.2) (.slice Ao69 t149.length co69)) (fun _ hk => hk.2) (.slice Ao70 t152.length co70)) (fun _ h_ => h_.1))) hb); have n1_ := Aside0.mk (Kd.R_below (by (with_reducible repeat (first | apply Kd.R_alloc | apply Kd.R_drewN | apply Kd.R_drew)); exact (Kd.R_mono (Kd.R_far (p := ⟨gb156, 2, none⟩) (Kd.R_far (p := ⟨gb156, 1, none⟩) (Kd.R_far (p := ⟨gb156, 0, none⟩) (Kd.R_types HO154.out BK156.out (by decide)) (fun _ hk => hk.2) (.string t148)) (fun _ hk => hk.2) (.slice Ao69 t149.length co69)) (fun _ hk => hk.2) (.slice Ao70 t152.length co70)) (fun _ h_ => h_.1))) hb); have n2_ := Aside0.mk (blk_below (g := gb156) (o := .cells #[.string t148, .slice Ao69 t149.length co69, .slice Ao70 t152.length co70] 24 (0, 0)) (by (with_reducible repeat (first | refine blk_drewN ?_ _ | refine blk_drew ?_ | refine blk_alloc ?_ _)); refine blk_put (cs := #[.string t148, .slice Ao69 t149.length co69, .slice none 0 0]) ?_ 2 _ rfl; (with_reducible repeat (first | refine blk_drewN ?_ _ | refine blk_drew ?_ | refine blk_alloc ?_ _)); refine blk_put (cs := #[.string t148, .slice none 0 0, .slice none 0 0]) ?_ 1 _ rfl; (with_reducible repeat (first | refine blk_drewN ?_ _ | refine blk_drew ?_ | refine blk_alloc ?_ _)); refine blk_put (cs := #[.string (⟨#[]⟩ : ByteArray), .slice none 0 0, .slice none 0 0]) ?_ 0 _ rfl; (with_reducible repeat (first | refine blk_drewN ?_ _ | refine blk_drew ?_ | refine blk_alloc ?_ _)); exact BK156.out) hb); have n3_ := Aside0.mk (below_step (by repeat (first | (with_reducible first | exact HB.out | apply below_alloc | apply pw_below_drewN | apply below_drew1 | refine below_set ?_ GE156.out) | exact HB.out)) hb); clear HO151; clear HO154; clear BK156; clear HB; have HO151 := n0_; have HO154 := n1_; have BK156 := n2_; have HB := n3_; clear n0_ n1_ n2_ n3_; (try clear hb); (try clear hb2); (try clear hk); (try clear hi)) | ((with_reducible refine gate_callee (f := 23) rfl ?_); refine goesL_ (some 22) rfl rfl Try.func23 (by kernel_rfl) rfl #[.string (⟨#[98, 97, 110, 97, 110, 97]⟩ : ByteArray)] rfl (by (try simp only [List.map_toArray, List.map_cons, List.map_nil]); first | done | rfl | (simp only [List.length_drop, List.length_take]; rfl)) ?_; (with_reducible refine (find_Turn.calls (⟨#[98, 97, 110, 97, 110, 97]⟩ : ByteArray) t160 t161 t162 _ A3.out).mono ?_); rintro e w72 ⟨rfl, hb⟩; refine ⟨_, rfl, ?_⟩; have n0_ := Aside0.mk (Kd.R_below (by (with_reducible repeat (first | apply Kd.R_alloc | apply Kd.R_drewN | apply Kd.R_drew)); exact HO151.out) hb); have n1_ := Aside0.mk (Kd.R_below (by (with_reducible repeat (first | apply Kd.R_alloc | apply Kd.R_drewN | apply Kd.R_drew)); exact HO154.out) hb); have n2_ := Aside0.mk (blk_below (g := gb156) (o := .cells #[.string t148, .slice Ao69 t149.length co69, .slice Ao70 t152.length co70] 24 (0, 0)) (by (with_reducible repeat (first | refine blk_drewN ?_ _ | refine blk_drew ?_ | refine blk_alloc ?_ _)); exact BK156.out) hb); have n3_ := Aside0.mk (below_step (by repeat (first | (with_reducible first | exact HB.out | apply below_alloc | apply pw_below_drewN | apply below_drew1 | refine below_set ?_ GE156.out) | exact HB.out)) hb); clear HO151; clear HO154; clear BK156; clear HB; have HO151 := n0_; have HO154 := n1_; have BK156 := n2_; have HB := n3_; clear n0_ n1_ n2_ n3_; (try clear hb); (try clear hb2); (try clear hk); (try clear hi)) | ((with_reducible refine gate_callee (f := 25) rfl ?_); refine goesL_ (some 27) rfl rfl Try.func25 (by kernel_rfl) rfl #[.string (⟨#[97, 110, 110, 98, 97, 97]⟩ : ByteArray), .int .i64 4] rfl (by (try simp only [List.map_toArray, List.map_cons, List.map_nil]); first | done | rfl | (simp only [List.length_drop, List.length_take]; rfl)) ?_; (with_reducible refine (find_Restore.calls (⟨#[97, 110, 110, 98, 97, 97]⟩ : ByteArray) 4 t163 t164 _ A4.out).mono ?_); rintro e w73 ⟨rfl, hb⟩; refine ⟨_, rfl, ?_⟩; have n0_ := Aside0.mk (Kd.R_below (by (with_reducible repeat (first | apply Kd.R_alloc | apply Kd.R_drewN | apply Kd.R_drew)); exact HO151.out) hb); have n1_ := Aside0.mk (Kd.R_below (by (with_reducible repeat (first | apply Kd.R_alloc | apply Kd.R_drewN | apply Kd.R_drew)); exact HO154.out) hb); have n2_ := Aside0.mk (blk_below (g := gb156) (o := .cells #[.string t148, .slice Ao69 t149.length co69, .slice Ao70 t152.length co70] 24 (0, 0)) (by (with_reducible repeat (first | refine blk_drewN ?_ _ | refine blk_drew ?_ | refine blk_alloc ?_ _)); exact BK156.out) hb); have n3_ := Aside0.mk (below_step (by repeat (first | (with_reducible first | exact HB.out | apply below_alloc | apply pw_below_drewN | apply below_drew1 | refine below_set ?_ GE156.out) | exact HB.out)) hb); clear HO151; clear HO154; clear BK156; clear HB; have HO151 := n0_; have HO154 := n1_; have BK156 := n2_; have HB := n3_; clear n0_ n1_ n2_ n3_; (try clear hb); (try clear hb2); (try clear hk); (try clear hi); have hcz74_0 : w73.cell? ⟨gb156, 0, none⟩ = some (.string t148) := (blk_cell BK156.out 0).trans rfl; have hcz74_1 : w73.cell? ⟨gb156, 1, none⟩ = some (.slice Ao69 t149.length co69) := (blk_cell BK156.out 1).trans rfl; have hcz74_2 : w73.cell? ⟨gb156, 2, none⟩ = some (.slice Ao70 t152.length co70) := (blk_cell BK156.out 2).trans rfl; have hfz74_0 := blk_frozen BK156.out 0; have hfz74_1 := blk_frozen BK156.out 1; have hfz74_2 := blk_frozen BK156.out 2) | (go_at_call 19; (with_reducible refine (find_Index_Distinct.calls k t148 _ _ t149 _ _ t152 t165 _ ?side1 ?side2 ?side3 ?side4 A9.out).mono ?_); (case side1 => repeat (first | exact (Kd.R_reads' HO151.out).2.2 | (with_reducible refine Kd.C_alloc ?_ _) | (with_reducible refine Kd.C_drewN ?_ _) | (with_reducible refine Kd.C_drew ?_))); (case side2 => exact (Kd.R_reads' HO151.out).2.1); (case side3 => repeat (first | exact (Kd.R_reads' HO154.out).2.2 | (with_reducible refine Kd.C_alloc ?_ _) | (with_reducible refine Kd.C_drewN ?_ _) | (with_reducible refine Kd.C_drew ?_))); (case side4 => exact (Kd.R_reads' HO154.out).2.1); rintro e w75 ⟨rfl, hb⟩; have n0_ := Aside0.mk (Kd.R_below (by (with_reducible repeat (first | apply Kd.R_alloc | apply Kd.R_drewN | apply Kd.R_drew)); exact HO151.out) hb); have n1_ := Aside0.mk (Kd.R_below (by (with_reducible repeat (first | apply Kd.R_alloc | apply Kd.R_drewN | apply Kd.R_drew)); exact HO154.out) hb); have n2_ := Aside0.mk (blk_below (g := gb156) (o := .cells #[.string t148, .slice Ao69 t149.length co69, .slice Ao70 t152.length co70] 24 (0, 0)) (by (with_reducible repeat (first | refine blk_drewN ?_ _ | refine blk_drew ?_ | refine blk_alloc ?_ _)); exact BK156.out) hb); have n3_ := Aside0.mk (below_step (by repeat (first | (with_reducible first | exact HB.out | apply below_alloc | apply pw_below_drewN | apply below_drew1 | refine below_set ?_ GE156.out) | exact HB.out)) hb); clear HO151; clear HO154; clear BK156; clear HB; have HO151 := n0_; have HO154 := n1_; have BK156 := n2_; have HB := n3_; clear n0_ n1_ n2_ n3_; (try clear hb); (try clear hb2); (try clear hk); (try clear hi)))
       go_ret
       exact ⟨by first | rfl | (simp [errW_none, errW_some] <;> rfl) | (simp [*, errW_none, errW_some] <;> rfl), by repeat (first | (with_reducible first | exact HB.out | apply below_alloc | apply pw_below_drewN | apply below_drew1 | refine below_set ?_ GE156.out) | exact HB.out)⟩
     ·rw [if_neg c10] at H
      have c10b0 : (t165 == 15) = false := beq_eq_false_iff_ne.mpr c10
      have c10b1 : (t165 != 15) = true := bne_iff_ne.mpr c10
      obtain rfl := Option.some.inj H
      go_enter Try.func21, Try.ntmps21
      go_wp2_with (first | ((with_reducible refine gate_callee (f := 16) rfl ?_); refine goesL_ (some 12) rfl rfl Try.func16 (by kernel_rfl) rfl #[.string (⟨#[98, 97, 110, 97, 110, 97]⟩ : ByteArray)] rfl (by (try simp only [List.map_toArray, List.map_cons, List.map_nil]); first | done | rfl | (simp only [List.length_drop, List.length_take]; rfl)) ?_; (with_reducible refine (find_New.calls k (⟨#[98, 97, 110, 97, 110, 97]⟩ : ByteArray) t148 t149 t152 t155 _ A1.out).mono ?_); rintro e w76 ⟨v150, v153, rfl, ho0, ho1, hb⟩; refine ⟨_, rfl, ?_⟩; have n0_ := Aside0.mk (Kd.R_lower ho0 (below_size (by repeat (first | (with_reducible first | exact HB.out | apply below_alloc | apply pw_below_drewN | apply below_drew1) | exact HB.out)))); have n1_ := Aside0.mk (Kd.R_lower ho1 (below_size (by repeat (first | (with_reducible first | exact HB.out | apply below_alloc | apply pw_below_drewN | apply below_drew1) | exact HB.out)))); have n2_ := Aside0.mk (below_step (by repeat (first | (with_reducible first | exact HB.out | apply below_alloc | apply pw_below_drewN | apply below_drew1) | exact HB.out)) hb); clear HB; have HO151 := n0_; have HO154 := n1_; have HB := n2_; clear n0_ n1_ n2_; (try clear hb); (try clear hb2); (try clear hk); (try clear hi); (try clear ho0); (try clear ho1)) | ((with_reducible refine gate_dst (N := 1) rfl ?_); refine box_event ?hg (N := 1) ?hd (cs := #[.string (⟨#[]⟩ : ByteArray), .slice none 0 0, .slice none 0 0]) (t := 24) ?hr ?_; (case hd => rfl); (case hg => rfl); (case hr => first | (go_simp; done) | (go_simp; rfl)); intro gb156 hg w77 hbox hb; have n0_ := Aside0.mk (Kd.R_below (by (with_reducible repeat (first | apply Kd.R_alloc | apply Kd.R_drewN | apply Kd.R_drew)); exact HO151.out) hb); have n1_ := Aside0.mk (Kd.R_below (by (with_reducible repeat (first | apply Kd.R_alloc | apply Kd.R_drewN | apply Kd.R_drew)); exact HO154.out) hb); have n2_ := Aside0.mk (below_step (by repeat (first | (with_reducible first | exact HB.out | apply below_alloc | apply pw_below_drewN | apply below_drew1) | exact HB.out)) hb); have n3_ := Aside0.mk (hbox); have n4_ := Aside0.mk ((by rw [hg]; exact (below_size (by repeat (first | (with_reducible first | exact HB.out | apply below_alloc | apply pw_below_drewN | apply below_drew1) | exact HB.out))) : w.heap.size ≤ gb156)); have n5_ := Aside0.mk ((by rw [hg]; exact (below_size (by repeat (first | (with_reducible first | exact HB.out | apply below_alloc | apply pw_below_drewN | apply below_drew1) | exact HB.out))) : w.heap.size ≤ gb156)); clear HO151; clear HO154; clear HB; have HO151 := n0_; have HO154 := n1_; have HB := n2_; have BK156 := n3_; have GW156 := n4_; have GE156 := n5_; clear n0_ n1_ n2_ n3_ n4_ n5_; clear hb hbox hg; have hcz78_0 : w77.cell? ⟨gb156, 0, none⟩ = some (.string (⟨#[]⟩ : ByteArray)) := (blk_cell BK156.out 0).trans rfl; have hcz78_1 : w77.cell? ⟨gb156, 1, none⟩ = some (.slice none 0 0) := (blk_cell BK156.out 1).trans rfl; have hcz78_2 : w77.cell? ⟨gb156, 2, none⟩ = some (.slice none 0 0) := (blk_cell BK156.out 2).trans rfl; have hfz78_0 := blk_frozen BK156.out 0; have hfz78_1 := blk_frozen BK156.out 1; have hfz78_2 := blk_frozen BK156.out 2; obtain ⟨Ao79, co79, eo79⟩ := Kd.R_slice HO151.out; subst eo79; obtain ⟨Ao80, co80, eo80⟩ := Kd.R_slice HO154.out; subst eo80) | ((with_reducible refine gate_callee (f := 17) rfl ?_); refine goesL_ (some 17) rfl rfl Try.func17 (by kernel_rfl) rfl #[.agg #[.string t148, .slice Ao79 t149.length co79, .slice Ao80 t152.length co80]] rfl (by (try simp only [List.map_toArray, List.map_cons, List.map_nil]); first | done | rfl | (simp only [List.length_drop, List.length_take]; rfl)) ?_; (with_reducible refine (find_Index_Repeat.calls k t148 _ _ t149 _ _ t152 t157 t158 t159 _ ?side1 ?side2 ?side3 ?side4 A2.out).mono ?_); (case side1 => refine (Kd.R_reads' (e := 3) (base := w.heap.size) (ok := fun k_ => some k_ ≠ (.slice Ao80 t152.length co80 : Value).ownBlock) (n := t149.length) (c := co79) ?_).2.2; exact (by (with_reducible repeat (first | apply Kd.R_alloc | apply Kd.R_drewN | apply Kd.R_drew)); exact (Kd.R_mono (Kd.R_far (p := ⟨gb156, 2, none⟩) (Kd.R_far (p := ⟨gb156, 1, none⟩) (Kd.R_far (p := ⟨gb156, 0, none⟩) (Kd.R_types HO151.out BK156.out (by decide)) (fun _ hk => hk.2) (.string t148)) (fun _ hk => hk.2) (.slice Ao79 t149.length co79)) (fun _ hk => hk.2) (.slice Ao80 t152.length co80)) (fun _ h_ => h_.1)))); (case side2 => exact (Kd.R_reads' HO151.out).2.1); (case side3 => refine (Kd.R_reads' (e := 3) (base := w.heap.size) (ok := fun k_ => some k_ ≠ (.slice Ao79 t149.length co79 : Value).ownBlock) (n := t152.length) (c := co80) ?_).2.2; exact (by (with_reducible repeat (first | apply Kd.R_alloc | apply Kd.R_drewN | apply Kd.R_drew)); exact (Kd.R_mono (Kd.R_far (p := ⟨gb156, 2, none⟩) (Kd.R_far (p := ⟨gb156, 1, none⟩) (Kd.R_far (p := ⟨gb156, 0, none⟩) (Kd.R_types HO154.out BK156.out (by decide)) (fun _ hk => hk.2) (.string t148)) (fun _ hk => hk.2) (.slice Ao79 t149.length co79)) (fun _ hk => hk.2) (.slice Ao80 t152.length co80)) (fun _ h_ => h_.1)))); (case side4 => exact (Kd.R_reads' HO154.out).2.1); rintro e w81 ⟨rfl, hb⟩; refine ⟨_, rfl, ?_⟩; have n0_ := Aside0.mk (Kd.R_below (by (with_reducible repeat (first | apply Kd.R_alloc | apply Kd.R_drewN | apply Kd.R_drew)); exact (Kd.R_mono (Kd.R_far (p := ⟨gb156, 2, none⟩) (Kd.R_far (p := ⟨gb156, 1, none⟩) (Kd.R_far (p := ⟨gb156, 0, none⟩) (Kd.R_types HO151.out BK156.out (by decide)) (fun _ hk => hk.2) (.string t148)) (fun _ hk => hk.2) (.slice Ao79 t149.length co79)) (fun _ hk => hk.2) (.slice Ao80 t152.length co80)) (fun _ h_ => h_.1))) hb); have n1_ := Aside0.mk (Kd.R_below (by (with_reducible repeat (first | apply Kd.R_alloc | apply Kd.R_drewN | apply Kd.R_drew)); exact (Kd.R_mono (Kd.R_far (p := ⟨gb156, 2, none⟩) (Kd.R_far (p := ⟨gb156, 1, none⟩) (Kd.R_far (p := ⟨gb156, 0, none⟩) (Kd.R_types HO154.out BK156.out (by decide)) (fun _ hk => hk.2) (.string t148)) (fun _ hk => hk.2) (.slice Ao79 t149.length co79)) (fun _ hk => hk.2) (.slice Ao80 t152.length co80)) (fun _ h_ => h_.1))) hb); have n2_ := Aside0.mk (blk_below (g := gb156) (o := .cells #[.string t148, .slice Ao79 t149.length co79, .slice Ao80 t152.length co80] 24 (0, 0)) (by (with_reducible repeat (first | refine blk_drewN ?_ _ | refine blk_drew ?_ | refine blk_alloc ?_ _)); refine blk_put (cs := #[.string t148, .slice Ao79 t149.length co79, .slice none 0 0]) ?_ 2 _ rfl; (with_reducible repeat (first | refine blk_drewN ?_ _ | refine blk_drew ?_ | refine blk_alloc ?_ _)); refine blk_put (cs := #[.string t148, .slice none 0 0, .slice none 0 0]) ?_ 1 _ rfl; (with_reducible repeat (first | refine blk_drewN ?_ _ | refine blk_drew ?_ | refine blk_alloc ?_ _)); refine blk_put (cs := #[.string (⟨#[]⟩ : ByteArray), .slice none 0 0, .slice none 0 0]) ?_ 0 _ rfl; (with_reducible repeat (first | refine blk_drewN ?_ _ | refine blk_drew ?_ | refine blk_alloc ?_ _)); exact BK156.out) hb); have n3_ := Aside0.mk (below_step (by repeat (first | (with_reducible first | exact HB.out | apply below_alloc | apply pw_below_drewN | apply below_drew1 | refine below_set ?_ GE156.out) | exact HB.out)) hb); clear HO151; clear HO154; clear BK156; clear HB; have HO151 := n0_; have HO154 := n1_; have BK156 := n2_; have HB := n3_; clear n0_ n1_ n2_ n3_; (try clear hb); (try clear hb2); (try clear hk); (try clear hi)) | ((with_reducible refine gate_callee (f := 23) rfl ?_); refine goesL_ (some 22) rfl rfl Try.func23 (by kernel_rfl) rfl #[.string (⟨#[98, 97, 110, 97, 110, 97]⟩ : ByteArray)] rfl (by (try simp only [List.map_toArray, List.map_cons, List.map_nil]); first | done | rfl | (simp only [List.length_drop, List.length_take]; rfl)) ?_; (with_reducible refine (find_Turn.calls (⟨#[98, 97, 110, 97, 110, 97]⟩ : ByteArray) t160 t161 t162 _ A3.out).mono ?_); rintro e w82 ⟨rfl, hb⟩; refine ⟨_, rfl, ?_⟩; have n0_ := Aside0.mk (Kd.R_below (by (with_reducible repeat (first | apply Kd.R_alloc | apply Kd.R_drewN | apply Kd.R_drew)); exact HO151.out) hb); have n1_ := Aside0.mk (Kd.R_below (by (with_reducible repeat (first | apply Kd.R_alloc | apply Kd.R_drewN | apply Kd.R_drew)); exact HO154.out) hb); have n2_ := Aside0.mk (blk_below (g := gb156) (o := .cells #[.string t148, .slice Ao79 t149.length co79, .slice Ao80 t152.length co80] 24 (0, 0)) (by (with_reducible repeat (first | refine blk_drewN ?_ _ | refine blk_drew ?_ | refine blk_alloc ?_ _)); exact BK156.out) hb); have n3_ := Aside0.mk (below_step (by repeat (first | (with_reducible first | exact HB.out | apply below_alloc | apply pw_below_drewN | apply below_drew1 | refine below_set ?_ GE156.out) | exact HB.out)) hb); clear HO151; clear HO154; clear BK156; clear HB; have HO151 := n0_; have HO154 := n1_; have BK156 := n2_; have HB := n3_; clear n0_ n1_ n2_ n3_; (try clear hb); (try clear hb2); (try clear hk); (try clear hi)) | ((with_reducible refine gate_callee (f := 25) rfl ?_); refine goesL_ (some 27) rfl rfl Try.func25 (by kernel_rfl) rfl #[.string (⟨#[97, 110, 110, 98, 97, 97]⟩ : ByteArray), .int .i64 4] rfl (by (try simp only [List.map_toArray, List.map_cons, List.map_nil]); first | done | rfl | (simp only [List.length_drop, List.length_take]; rfl)) ?_; (with_reducible refine (find_Restore.calls (⟨#[97, 110, 110, 98, 97, 97]⟩ : ByteArray) 4 t163 t164 _ A4.out).mono ?_); rintro e w83 ⟨rfl, hb⟩; refine ⟨_, rfl, ?_⟩; have n0_ := Aside0.mk (Kd.R_below (by (with_reducible repeat (first | apply Kd.R_alloc | apply Kd.R_drewN | apply Kd.R_drew)); exact HO151.out) hb); have n1_ := Aside0.mk (Kd.R_below (by (with_reducible repeat (first | apply Kd.R_alloc | apply Kd.R_drewN | apply Kd.R_drew)); exact HO154.out) hb); have n2_ := Aside0.mk (blk_below (g := gb156) (o := .cells #[.string t148, .slice Ao79 t149.length co79, .slice Ao80 t152.length co80] 24 (0, 0)) (by (with_reducible repeat (first | refine blk_drewN ?_ _ | refine blk_drew ?_ | refine blk_alloc ?_ _)); exact BK156.out) hb); have n3_ := Aside0.mk (below_step (by repeat (first | (with_reducible first | exact HB.out | apply below_alloc | apply pw_below_drewN | apply below_drew1 | refine below_set ?_ GE156.out) | exact HB.out)) hb); clear HO151; clear HO154; clear BK156; clear HB; have HO151 := n0_; have HO154 := n1_; have BK156 := n2_; have HB := n3_; clear n0_ n1_ n2_ n3_; (try clear hb); (try clear hb2); (try clear hk); (try clear hi); have hcz84_0 : w83.cell? ⟨gb156, 0, none⟩ = some (.string t148) := (blk_cell BK156.out 0).trans rfl; have hcz84_1 : w83.cell? ⟨gb156, 1, none⟩ = some (.slice Ao79 t149.length co79) := (blk_cell BK156.out 1).trans rfl; have hcz84_2 : w83.cell? ⟨gb156, 2, none⟩ = some (.slice Ao80 t152.length co80) := (blk_cell BK156.out 2).trans rfl; have hfz84_0 := blk_frozen BK156.out 0; have hfz84_1 := blk_frozen BK156.out 1; have hfz84_2 := blk_frozen BK156.out 2) | (go_at_call 19; (with_reducible refine (find_Index_Distinct.calls k t148 _ _ t149 _ _ t152 t165 _ ?side1 ?side2 ?side3 ?side4 A9.out).mono ?_); (case side1 => repeat (first | exact (Kd.R_reads' HO151.out).2.2 | (with_reducible refine Kd.C_alloc ?_ _) | (with_reducible refine Kd.C_drewN ?_ _) | (with_reducible refine Kd.C_drew ?_))); (case side2 => exact (Kd.R_reads' HO151.out).2.1); (case side3 => repeat (first | exact (Kd.R_reads' HO154.out).2.2 | (with_reducible refine Kd.C_alloc ?_ _) | (with_reducible refine Kd.C_drewN ?_ _) | (with_reducible refine Kd.C_drew ?_))); (case side4 => exact (Kd.R_reads' HO154.out).2.1); rintro e w85 ⟨rfl, hb⟩; have n0_ := Aside0.mk (Kd.R_below (by (with_reducible repeat (first | apply Kd.R_alloc | apply Kd.R_drewN | apply Kd.R_drew)); exact HO151.out) hb); have n1_ := Aside0.mk (Kd.R_below (by (with_reducible repeat (first | apply Kd.R_alloc | apply Kd.R_drewN | apply Kd.R_drew)); exact HO154.out) hb); have n2_ := Aside0.mk (blk_below (g := gb156) (o := .cells #[.string t148, .slice Ao79 t149.length co79, .slice Ao80 t152.length co80] 24 (0, 0)) (by (with_reducible repeat (first | refine blk_drewN ?_ _ | refine blk_drew ?_ | refine blk_alloc ?_ _)); exact BK156.out) hb); have n3_ := Aside0.mk (below_step (by repeat (first | (with_reducible first | exact HB.out | apply below_alloc | apply pw_below_drewN | apply below_drew1 | refine below_set ?_ GE156.out) | exact HB.out)) hb); clear HO151; clear HO154; clear BK156; clear HB; have HO151 := n0_; have HO154 := n1_; have BK156 := n2_; have HB := n3_; clear n0_ n1_ n2_ n3_; (try clear hb); (try clear hb2); (try clear hk); (try clear hi)))
      go_ret
      exact ⟨by first | rfl | (simp [errW_none, errW_some] <;> rfl) | (simp [*, errW_none, errW_some] <;> rfl), by repeat (first | (with_reducible first | exact HB.out | apply below_alloc | apply pw_below_drewN | apply below_drew1 | refine below_set ?_ GE156.out) | exact HB.out)⟩
    ·rw [if_neg c8] at H
     have c8b0 : (t159 == 0) = false := beq_eq_false_iff_ne.mpr c8
     have c8b1 : (t159 != 0) = true := bne_iff_ne.mpr c8
     obtain rfl := Option.some.inj H
     go_enter Try.func21, Try.ntmps21
     go_wp2_with (first | ((with_reducible refine gate_callee (f := 16) rfl ?_); refine goesL_ (some 12) rfl rfl Try.func16 (by kernel_rfl) rfl #[.string (⟨#[98, 97, 110, 97, 110, 97]⟩ : ByteArray)] rfl (by (try simp only [List.map_toArray, List.map_cons, List.map_nil]); first | done | rfl | (simp only [List.length_drop, List.length_take]; rfl)) ?_; (with_reducible refine (find_New.calls k (⟨#[98, 97, 110, 97, 110, 97]⟩ : ByteArray) t148 t149 t152 t155 _ A1.out).mono ?_); rintro e w86 ⟨v150, v153, rfl, ho0, ho1, hb⟩; refine ⟨_, rfl, ?_⟩; have n0_ := Aside0.mk (Kd.R_lower ho0 (below_size (by repeat (first | (with_reducible first | exact HB.out | apply below_alloc | apply pw_below_drewN | apply below_drew1) | exact HB.out)))); have n1_ := Aside0.mk (Kd.R_lower ho1 (below_size (by repeat (first | (with_reducible first | exact HB.out | apply below_alloc | apply pw_below_drewN | apply below_drew1) | exact HB.out)))); have n2_ := Aside0.mk (below_step (by repeat (first | (with_reducible first | exact HB.out | apply below_alloc | apply pw_below_drewN | apply below_drew1) | exact HB.out)) hb); clear HB; have HO151 := n0_; have HO154 := n1_; have HB := n2_; clear n0_ n1_ n2_; (try clear hb); (try clear hb2); (try clear hk); (try clear hi); (try clear ho0); (try clear ho1)) | ((with_reducible refine gate_dst (N := 1) rfl ?_); refine box_event ?hg (N := 1) ?hd (cs := #[.string (⟨#[]⟩ : ByteArray), .slice none 0 0, .slice none 0 0]) (t := 24) ?hr ?_; (case hd => rfl); (case hg => rfl); (case hr => first | (go_simp; done) | (go_simp; rfl)); intro gb156 hg w87 hbox hb; have n0_ := Aside0.mk (Kd.R_below (by (with_reducible repeat (first | apply Kd.R_alloc | apply Kd.R_drewN | apply Kd.R_drew)); exact HO151.out) hb); have n1_ := Aside0.mk (Kd.R_below (by (with_reducible repeat (first | apply Kd.R_alloc | apply Kd.R_drewN | apply Kd.R_drew)); exact HO154.out) hb); have n2_ := Aside0.mk (below_step (by repeat (first | (with_reducible first | exact HB.out | apply below_alloc | apply pw_below_drewN | apply below_drew1) | exact HB.out)) hb); have n3_ := Aside0.mk (hbox); have n4_ := Aside0.mk ((by rw [hg]; exact (below_size (by repeat (first | (with_reducible first | exact HB.out | apply below_alloc | apply pw_below_drewN | apply below_drew1) | exact HB.out))) : w.heap.size ≤ gb156)); have n5_ := Aside0.mk ((by rw [hg]; exact (below_size (by repeat (first | (with_reducible first | exact HB.out | apply below_alloc | apply pw_below_drewN | apply below_drew1) | exact HB.out))) : w.heap.size ≤ gb156)); clear HO151; clear HO154; clear HB; have HO151 := n0_; have HO154 := n1_; have HB := n2_; have BK156 := n3_; have GW156 := n4_; have GE156 := n5_; clear n0_ n1_ n2_ n3_ n4_ n5_; clear hb hbox hg; have hcz88_0 : w87.cell? ⟨gb156, 0, none⟩ = some (.string (⟨#[]⟩ : ByteArray)) := (blk_cell BK156.out 0).trans rfl; have hcz88_1 : w87.cell? ⟨gb156, 1, none⟩ = some (.slice none 0 0) := (blk_cell BK156.out 1).trans rfl; have hcz88_2 : w87.cell? ⟨gb156, 2, none⟩ = some (.slice none 0 0) := (blk_cell BK156.out 2).trans rfl; have hfz88_0 := blk_frozen BK156.out 0; have hfz88_1 := blk_frozen BK156.out 1; have hfz88_2 := blk_frozen BK156.out 2; obtain ⟨Ao89, co89, eo89⟩ := Kd.R_slice HO151.out; subst eo89; obtain ⟨Ao90, co90, eo90⟩ := Kd.R_slice HO154.out; subst eo90) | ((with_reducible refine gate_callee (f := 17) rfl ?_); refine goesL_ (some 17) rfl rfl Try.func17 (by kernel_rfl) rfl #[.agg #[.string t148, .slice Ao89 t149.length co89, .slice Ao90 t152.length co90]] rfl (by (try simp only [List.map_toArray, List.map_cons, List.map_nil]); first | done | rfl | (simp only [List.length_drop, List.length_take]; rfl)) ?_; (with_reducible refine (find_Index_Repeat.calls k t148 _ _ t149 _ _ t152 t157 t158 t159 _ ?side1 ?side2 ?side3 ?side4 A2.out).mono ?_); (case side1 => refine (Kd.R_reads' (e := 3) (base := w.heap.size) (ok := fun k_ => some k_ ≠ (.slice Ao90 t152.length co90 : Value).ownBlock) (n := t149.length) (c := co89) ?_).2.2; exact (by (with_reducible repeat (first | apply Kd.R_alloc | apply Kd.R_drewN | apply Kd.R_drew)); exact (Kd.R_mono (Kd.R_far (p := ⟨gb156, 2, none⟩) (Kd.R_far (p := ⟨gb156, 1, none⟩) (Kd.R_far (p := ⟨gb156, 0, none⟩) (Kd.R_types HO151.out BK156.out (by decide)) (fun _ hk => hk.2) (.string t148)) (fun _ hk => hk.2) (.slice Ao89 t149.length co89)) (fun _ hk => hk.2) (.slice Ao90 t152.length co90)) (fun _ h_ => h_.1)))); (case side2 => exact (Kd.R_reads' HO151.out).2.1); (case side3 => refine (Kd.R_reads' (e := 3) (base := w.heap.size) (ok := fun k_ => some k_ ≠ (.slice Ao89 t149.length co89 : Value).ownBlock) (n := t152.length) (c := co90) ?_).2.2; exact (by (with_reducible repeat (first | apply Kd.R_alloc | apply Kd.R_drewN | apply Kd.R_drew)); exact (Kd.R_mono (Kd.R_far (p := ⟨gb156, 2, none⟩) (Kd.R_far (p := ⟨gb156, 1, none⟩) (Kd.R_far (p := ⟨gb156, 0, none⟩) (Kd.R_types HO154.out BK156.out (by decide)) (fun _ hk => hk.2) (.string t148)) (fun _ hk => hk.2) (.slice Ao89 t149.length co89)) (fun _ hk => hk.2) (.slice Ao90 t152.length co90)) (fun _ h_ => h_.1)))); (case side4 => exact (Kd.R_reads' HO154.out).2.1); rintro e w91 ⟨rfl, hb⟩; refine ⟨_, rfl, ?_⟩; have n0_ := Aside0.mk (Kd.R_below (by (with_reducible repeat (first | apply Kd.R_alloc | apply Kd.R_drewN | apply Kd.R_drew)); exact (Kd.R_mono (Kd.R_far (p := ⟨gb156, 2, none⟩) (Kd.R_far (p := ⟨gb156, 1, none⟩) (Kd.R_far (p := ⟨gb156, 0, none⟩) (Kd.R_types HO151.out BK156.out (by decide)) (fun _ hk => hk.2) (.string t148)) (fun _ hk => hk.2) (.slice Ao89 t149.length co89)) (fun _ hk => hk.2) (.slice Ao90 t152.length co90)) (fun _ h_ => h_.1))) hb); have n1_ := Aside0.mk (Kd.R_below (by (with_reducible repeat (first | apply Kd.R_alloc | apply Kd.R_drewN | apply Kd.R_drew)); exact (Kd.R_mono (Kd.R_far (p := ⟨gb156, 2, none⟩) (Kd.R_far (p := ⟨gb156, 1, none⟩) (Kd.R_far (p := ⟨gb156, 0, none⟩) (Kd.R_types HO154.out BK156.out (by decide)) (fun _ hk => hk.2) (.string t148)) (fun _ hk => hk.2) (.slice Ao89 t149.length co89)) (fun _ hk => hk.2) (.slice Ao90 t152.length co90)) (fun _ h_ => h_.1))) hb); have n2_ := Aside0.mk (blk_below (g := gb156) (o := .cells #[.string t148, .slice Ao89 t149.length co89, .slice Ao90 t152.length co90] 24 (0, 0)) (by (with_reducible repeat (first | refine blk_drewN ?_ _ | refine blk_drew ?_ | refine blk_alloc ?_ _)); refine blk_put (cs := #[.string t148, .slice Ao89 t149.length co89, .slice none 0 0]) ?_ 2 _ rfl; (with_reducible repeat (first | refine blk_drewN ?_ _ | refine blk_drew ?_ | refine blk_alloc ?_ _)); refine blk_put (cs := #[.string t148, .slice none 0 0, .slice none 0 0]) ?_ 1 _ rfl; (with_reducible repeat (first | refine blk_drewN ?_ _ | refine blk_drew ?_ | refine blk_alloc ?_ _)); refine blk_put (cs := #[.string (⟨#[]⟩ : ByteArray), .slice none 0 0, .slice none 0 0]) ?_ 0 _ rfl; (with_reducible repeat (first | refine blk_drewN ?_ _ | refine blk_drew ?_ | refine blk_alloc ?_ _)); exact BK156.out) hb); have n3_ := Aside0.mk (below_step (by repeat (first | (with_reducible first | exact HB.out | apply below_alloc | apply pw_below_drewN | apply below_drew1 | refine below_set ?_ GE156.out) | exact HB.out)) hb); clear HO151; clear HO154; clear BK156; clear HB; have HO151 := n0_; have HO154 := n1_; have BK156 := n2_; have HB := n3_; clear n0_ n1_ n2_ n3_; (try clear hb); (try clear hb2); (try clear hk); (try clear hi)) | ((with_reducible refine gate_callee (f := 23) rfl ?_); refine goesL_ (some 22) rfl rfl Try.func23 (by kernel_rfl) rfl #[.string (⟨#[98, 97, 110, 97, 110, 97]⟩ : ByteArray)] rfl (by (try simp only [List.map_toArray, List.map_cons, List.map_nil]); first | done | rfl | (simp only [List.length_drop, List.length_take]; rfl)) ?_; (with_reducible refine (find_Turn.calls (⟨#[98, 97, 110, 97, 110, 97]⟩ : ByteArray) t160 t161 t162 _ A3.out).mono ?_); rintro e w92 ⟨rfl, hb⟩; refine ⟨_, rfl, ?_⟩; have n0_ := Aside0.mk (Kd.R_below (by (with_reducible repeat (first | apply Kd.R_alloc | apply Kd.R_drewN | apply Kd.R_drew)); exact HO151.out) hb); have n1_ := Aside0.mk (Kd.R_below (by (with_reducible repeat (first | apply Kd.R_alloc | apply Kd.R_drewN | apply Kd.R_drew)); exact HO154.out) hb); have n2_ := Aside0.mk (blk_below (g := gb156) (o := .cells #[.string t148, .slice Ao89 t149.length co89, .slice Ao90 t152.length co90] 24 (0, 0)) (by (with_reducible repeat (first | refine blk_drewN ?_ _ | refine blk_drew ?_ | refine blk_alloc ?_ _)); exact BK156.out) hb); have n3_ := Aside0.mk (below_step (by repeat (first | (with_reducible first | exact HB.out | apply below_alloc | apply pw_below_drewN | apply below_drew1 | refine below_set ?_ GE156.out) | exact HB.out)) hb); clear HO151; clear HO154; clear BK156; clear HB; have HO151 := n0_; have HO154 := n1_; have BK156 := n2_; have HB := n3_; clear n0_ n1_ n2_ n3_; (try clear hb); (try clear hb2); (try clear hk); (try clear hi)) | ((with_reducible refine gate_callee (f := 25) rfl ?_); refine goesL_ (some 27) rfl rfl Try.func25 (by kernel_rfl) rfl #[.string (⟨#[97, 110, 110, 98, 97, 97]⟩ : ByteArray), .int .i64 4] rfl (by (try simp only [List.map_toArray, List.map_cons, List.map_nil]); first | done | rfl | (simp only [List.length_drop, List.length_take]; rfl)) ?_; (with_reducible refine (find_Restore.calls (⟨#[97, 110, 110, 98, 97, 97]⟩ : ByteArray) 4 t163 t164 _ A4.out).mono ?_); rintro e w93 ⟨rfl, hb⟩; refine ⟨_, rfl, ?_⟩; have n0_ := Aside0.mk (Kd.R_below (by (with_reducible repeat (first | apply Kd.R_alloc | apply Kd.R_drewN | apply Kd.R_drew)); exact HO151.out) hb); have n1_ := Aside0.mk (Kd.R_below (by (with_reducible repeat (first | apply Kd.R_alloc | apply Kd.R_drewN | apply Kd.R_drew)); exact HO154.out) hb); have n2_ := Aside0.mk (blk_below (g := gb156) (o := .cells #[.string t148, .slice Ao89 t149.length co89, .slice Ao90 t152.length co90] 24 (0, 0)) (by (with_reducible repeat (first | refine blk_drewN ?_ _ | refine blk_drew ?_ | refine blk_alloc ?_ _)); exact BK156.out) hb); have n3_ := Aside0.mk (below_step (by repeat (first | (with_reducible first | exact HB.out | apply below_alloc | apply pw_below_drewN | apply below_drew1 | refine below_set ?_ GE156.out) | exact HB.out)) hb); clear HO151; clear HO154; clear BK156; clear HB; have HO151 := n0_; have HO154 := n1_; have BK156 := n2_; have HB := n3_; clear n0_ n1_ n2_ n3_; (try clear hb); (try clear hb2); (try clear hk); (try clear hi)))
     go_ret
     exact ⟨by first | rfl | (simp [errW_none, errW_some] <;> rfl) | (simp [*, errW_none, errW_some] <;> rfl), by repeat (first | (with_reducible first | exact HB.out | apply below_alloc | apply pw_below_drewN | apply below_drew1 | refine below_set ?_ GE156.out) | exact HB.out)⟩
   ·rw [if_neg c7] at H
    have c7b0 : (t158 == 2) = false := beq_eq_false_iff_ne.mpr c7
    have c7b1 : (t158 != 2) = true := bne_iff_ne.mpr c7
    obtain rfl := Option.some.inj H
    go_enter Try.func21, Try.ntmps21
    go_wp2_with (first | ((with_reducible refine gate_callee (f := 16) rfl ?_); refine goesL_ (some 12) rfl rfl Try.func16 (by kernel_rfl) rfl #[.string (⟨#[98, 97, 110, 97, 110, 97]⟩ : ByteArray)] rfl (by (try simp only [List.map_toArray, List.map_cons, List.map_nil]); first | done | rfl | (simp only [List.length_drop, List.length_take]; rfl)) ?_; (with_reducible refine (find_New.calls k (⟨#[98, 97, 110, 97, 110, 97]⟩ : ByteArray) t148 t149 t152 t155 _ A1.out).mono ?_); rintro e w94 ⟨v150, v153, rfl, ho0, ho1, hb⟩; refine ⟨_, rfl, ?_⟩; have n0_ := Aside0.mk (Kd.R_lower ho0 (below_size (by repeat (first | (with_reducible first | exact HB.out | apply below_alloc | apply pw_below_drewN | apply below_drew1) | exact HB.out)))); have n1_ := Aside0.mk (Kd.R_lower ho1 (below_size (by repeat (first | (with_reducible first | exact HB.out | apply below_alloc | apply pw_below_drewN | apply below_drew1) | exact HB.out)))); have n2_ := Aside0.mk (below_step (by repeat (first | (with_reducible first | exact HB.out | apply below_alloc | apply pw_below_drewN | apply below_drew1) | exact HB.out)) hb); clear HB; have HO151 := n0_; have HO154 := n1_; have HB := n2_; clear n0_ n1_ n2_; (try clear hb); (try clear hb2); (try clear hk); (try clear hi); (try clear ho0); (try clear ho1)) | ((with_reducible refine gate_dst (N := 1) rfl ?_); refine box_event ?hg (N := 1) ?hd (cs := #[.string (⟨#[]⟩ : ByteArray), .slice none 0 0, .slice none 0 0]) (t := 24) ?hr ?_; (case hd => rfl); (case hg => rfl); (case hr => first | (go_simp; done) | (go_simp; rfl)); intro gb156 hg w95 hbox hb; have n0_ := Aside0.mk (Kd.R_below (by (with_reducible repeat (first | apply Kd.R_alloc | apply Kd.R_drewN | apply Kd.R_drew)); exact HO151.out) hb); have n1_ := Aside0.mk (Kd.R_below (by (with_reducible repeat (first | apply Kd.R_alloc | apply Kd.R_drewN | apply Kd.R_drew)); exact HO154.out) hb); have n2_ := Aside0.mk (below_step (by repeat (first | (with_reducible first | exact HB.out | apply below_alloc | apply pw_below_drewN | apply below_drew1) | exact HB.out)) hb); have n3_ := Aside0.mk (hbox); have n4_ := Aside0.mk ((by rw [hg]; exact (below_size (by repeat (first | (with_reducible first | exact HB.out | apply below_alloc | apply pw_below_drewN | apply below_drew1) | exact HB.out))) : w.heap.size ≤ gb156)); have n5_ := Aside0.mk ((by rw [hg]; exact (below_size (by repeat (first | (with_reducible first | exact HB.out | apply below_alloc | apply pw_below_drewN | apply below_drew1) | exact HB.out))) : w.heap.size ≤ gb156)); clear HO151; clear HO154; clear HB; have HO151 := n0_; have HO154 := n1_; have HB := n2_; have BK156 := n3_; have GW156 := n4_; have GE156 := n5_; clear n0_ n1_ n2_ n3_ n4_ n5_; clear hb hbox hg; have hcz96_0 : w95.cell? ⟨gb156, 0, none⟩ = some (.string (⟨#[]⟩ : ByteArray)) := (blk_cell BK156.out 0).trans rfl; have hcz96_1 : w95.cell? ⟨gb156, 1, none⟩ = some (.slice none 0 0) := (blk_cell BK156.out 1).trans rfl; have hcz96_2 : w95.cell? ⟨gb156, 2, none⟩ = some (.slice none 0 0) := (blk_cell BK156.out 2).trans rfl; have hfz96_0 := blk_frozen BK156.out 0; have hfz96_1 := blk_frozen BK156.out 1; have hfz96_2 := blk_frozen BK156.out 2; obtain ⟨Ao97, co97, eo97⟩ := Kd.R_slice HO151.out; subst eo97; obtain ⟨Ao98, co98, eo98⟩ := Kd.R_slice HO154.out; subst eo98) | ((with_reducible refine gate_callee (f := 17) rfl ?_); refine goesL_ (some 17) rfl rfl Try.func17 (by kernel_rfl) rfl #[.agg #[.string t148, .slice Ao97 t149.length co97, .slice Ao98 t152.length co98]] rfl (by (try simp only [List.map_toArray, List.map_cons, List.map_nil]); first | done | rfl | (simp only [List.length_drop, List.length_take]; rfl)) ?_; (with_reducible refine (find_Index_Repeat.calls k t148 _ _ t149 _ _ t152 t157 t158 t159 _ ?side1 ?side2 ?side3 ?side4 A2.out).mono ?_); (case side1 => refine (Kd.R_reads' (e := 3) (base := w.heap.size) (ok := fun k_ => some k_ ≠ (.slice Ao98 t152.length co98 : Value).ownBlock) (n := t149.length) (c := co97) ?_).2.2; exact (by (with_reducible repeat (first | apply Kd.R_alloc | apply Kd.R_drewN | apply Kd.R_drew)); exact (Kd.R_mono (Kd.R_far (p := ⟨gb156, 2, none⟩) (Kd.R_far (p := ⟨gb156, 1, none⟩) (Kd.R_far (p := ⟨gb156, 0, none⟩) (Kd.R_types HO151.out BK156.out (by decide)) (fun _ hk => hk.2) (.string t148)) (fun _ hk => hk.2) (.slice Ao97 t149.length co97)) (fun _ hk => hk.2) (.slice Ao98 t152.length co98)) (fun _ h_ => h_.1)))); (case side2 => exact (Kd.R_reads' HO151.out).2.1); (case side3 => refine (Kd.R_reads' (e := 3) (base := w.heap.size) (ok := fun k_ => some k_ ≠ (.slice Ao97 t149.length co97 : Value).ownBlock) (n := t152.length) (c := co98) ?_).2.2; exact (by (with_reducible repeat (first | apply Kd.R_alloc | apply Kd.R_drewN | apply Kd.R_drew)); exact (Kd.R_mono (Kd.R_far (p := ⟨gb156, 2, none⟩) (Kd.R_far (p := ⟨gb156, 1, none⟩) (Kd.R_far (p := ⟨gb156, 0, none⟩) (Kd.R_types HO154.out BK156.out (by decide)) (fun _ hk => hk.2) (.string t148)) (fun _ hk => hk.2) (.slice Ao97 t149.length co97)) (fun _ hk => hk.2) (.slice Ao98 t152.length co98)) (fun _ h_ => h_.1)))); (case side4 => exact (Kd.R_reads' HO154.out).2.1); rintro e w99 ⟨rfl, hb⟩; refine ⟨_, rfl, ?_⟩; have n0_ := Aside0.mk (Kd.R_below (by (with_reducible repeat (first | apply Kd.R_alloc | apply Kd.R_drewN | apply Kd.R_drew)); exact (Kd.R_mono (Kd.R_far (p := ⟨gb156, 2, none⟩) (Kd.R_far (p := ⟨gb156, 1, none⟩) (Kd.R_far (p := ⟨gb156, 0, none⟩) (Kd.R_types HO151.out BK156.out (by decide)) (fun _ hk => hk.2) (.string t148)) (fun _ hk => hk.2) (.slice Ao97 t149.length co97)) (fun _ hk => hk.2) (.slice Ao98 t152.length co98)) (fun _ h_ => h_.1))) hb); have n1_ := Aside0.mk (Kd.R_below (by (with_reducible repeat (first | apply Kd.R_alloc | apply Kd.R_drewN | apply Kd.R_drew)); exact (Kd.R_mono (Kd.R_far (p := ⟨gb156, 2, none⟩) (Kd.R_far (p := ⟨gb156, 1, none⟩) (Kd.R_far (p := ⟨gb156, 0, none⟩) (Kd.R_types HO154.out BK156.out (by decide)) (fun _ hk => hk.2) (.string t148)) (fun _ hk => hk.2) (.slice Ao97 t149.length co97)) (fun _ hk => hk.2) (.slice Ao98 t152.length co98)) (fun _ h_ => h_.1))) hb); have n2_ := Aside0.mk (blk_below (g := gb156) (o := .cells #[.string t148, .slice Ao97 t149.length co97, .slice Ao98 t152.length co98] 24 (0, 0)) (by (with_reducible repeat (first | refine blk_drewN ?_ _ | refine blk_drew ?_ | refine blk_alloc ?_ _)); refine blk_put (cs := #[.string t148, .slice Ao97 t149.length co97, .slice none 0 0]) ?_ 2 _ rfl; (with_reducible repeat (first | refine blk_drewN ?_ _ | refine blk_drew ?_ | refine blk_alloc ?_ _)); refine blk_put (cs := #[.string t148, .slice none 0 0, .slice none 0 0]) ?_ 1 _ rfl; (with_reducible repeat (first | refine blk_drewN ?_ _ | refine blk_drew ?_ | refine blk_alloc ?_ _)); refine blk_put (cs := #[.string (⟨#[]⟩ : ByteArray), .slice none 0 0, .slice none 0 0]) ?_ 0 _ rfl; (with_reducible repeat (first | refine blk_drewN ?_ _ | refine blk_drew ?_ | refine blk_alloc ?_ _)); exact BK156.out) hb); have n3_ := Aside0.mk (below_step (by repeat (first | (with_reducible first | exact HB.out | apply below_alloc | apply pw_below_drewN | apply below_drew1 | refine below_set ?_ GE156.out) | exact HB.out)) hb); clear HO151; clear HO154; clear BK156; clear HB; have HO151 := n0_; have HO154 := n1_; have BK156 := n2_; have HB := n3_; clear n0_ n1_ n2_ n3_; (try clear hb); (try clear hb2); (try clear hk); (try clear hi)) | ((with_reducible refine gate_callee (f := 23) rfl ?_); refine goesL_ (some 22) rfl rfl Try.func23 (by kernel_rfl) rfl #[.string (⟨#[98, 97, 110, 97, 110, 97]⟩ : ByteArray)] rfl (by (try simp only [List.map_toArray, List.map_cons, List.map_nil]); first | done | rfl | (simp only [List.length_drop, List.length_take]; rfl)) ?_; (with_reducible refine (find_Turn.calls (⟨#[98, 97, 110, 97, 110, 97]⟩ : ByteArray) t160 t161 t162 _ A3.out).mono ?_); rintro e w100 ⟨rfl, hb⟩; refine ⟨_, rfl, ?_⟩; have n0_ := Aside0.mk (Kd.R_below (by (with_reducible repeat (first | apply Kd.R_alloc | apply Kd.R_drewN | apply Kd.R_drew)); exact HO151.out) hb); have n1_ := Aside0.mk (Kd.R_below (by (with_reducible repeat (first | apply Kd.R_alloc | apply Kd.R_drewN | apply Kd.R_drew)); exact HO154.out) hb); have n2_ := Aside0.mk (blk_below (g := gb156) (o := .cells #[.string t148, .slice Ao97 t149.length co97, .slice Ao98 t152.length co98] 24 (0, 0)) (by (with_reducible repeat (first | refine blk_drewN ?_ _ | refine blk_drew ?_ | refine blk_alloc ?_ _)); exact BK156.out) hb); have n3_ := Aside0.mk (below_step (by repeat (first | (with_reducible first | exact HB.out | apply below_alloc | apply pw_below_drewN | apply below_drew1 | refine below_set ?_ GE156.out) | exact HB.out)) hb); clear HO151; clear HO154; clear BK156; clear HB; have HO151 := n0_; have HO154 := n1_; have BK156 := n2_; have HB := n3_; clear n0_ n1_ n2_ n3_; (try clear hb); (try clear hb2); (try clear hk); (try clear hi)) | ((with_reducible refine gate_callee (f := 25) rfl ?_); refine goesL_ (some 27) rfl rfl Try.func25 (by kernel_rfl) rfl #[.string (⟨#[97, 110, 110, 98, 97, 97]⟩ : ByteArray), .int .i64 4] rfl (by (try simp only [List.map_toArray, List.map_cons, List.map_nil]); first | done | rfl | (simp only [List.length_drop, List.length_take]; rfl)) ?_; (with_reducible refine (find_Restore.calls (⟨#[97, 110, 110, 98, 97, 97]⟩ : ByteArray) 4 t163 t164 _ A4.out).mono ?_); rintro e w101 ⟨rfl, hb⟩; refine ⟨_, rfl, ?_⟩; have n0_ := Aside0.mk (Kd.R_below (by (with_reducible repeat (first | apply Kd.R_alloc | apply Kd.R_drewN | apply Kd.R_drew)); exact HO151.out) hb); have n1_ := Aside0.mk (Kd.R_below (by (with_reducible repeat (first | apply Kd.R_alloc | apply Kd.R_drewN | apply Kd.R_drew)); exact HO154.out) hb); have n2_ := Aside0.mk (blk_below (g := gb156) (o := .cells #[.string t148, .slice Ao97 t149.length co97, .slice Ao98 t152.length co98] 24 (0, 0)) (by (with_reducible repeat (first | refine blk_drewN ?_ _ | refine blk_drew ?_ | refine blk_alloc ?_ _)); exact BK156.out) hb); have n3_ := Aside0.mk (below_step (by repeat (first | (with_reducible first | exact HB.out | apply below_alloc | apply pw_below_drewN | apply below_drew1 | refine below_set ?_ GE156.out) | exact HB.out)) hb); clear HO151; clear HO154; clear BK156; clear HB; have HO151 := n0_; have HO154 := n1_; have BK156 := n2_; have HB := n3_; clear n0_ n1_ n2_ n3_; (try clear hb); (try clear hb2); (try clear hk); (try clear hi)))
    go_ret
    exact ⟨by first | rfl | (simp [errW_none, errW_some] <;> rfl) | (simp [*, errW_none, errW_some] <;> rfl), by repeat (first | (with_reducible first | exact HB.out | apply below_alloc | apply pw_below_drewN | apply below_drew1 | refine below_set ?_ GE156.out) | exact HB.out)⟩
  ·rw [if_neg c6] at H
   have c6b0 : (t157.toList == ([97, 110, 97] : List UInt8)) = false := beq_eq_false_iff_ne.mpr c6
   have c6b1 : (t157.toList != ([97, 110, 97] : List UInt8)) = true := bne_iff_ne.mpr c6
   obtain rfl := Option.some.inj H
   go_enter Try.func21, Try.ntmps21
   go_wp2_with (first | ((with_reducible refine gate_callee (f := 16) rfl ?_); refine goesL_ (some 12) rfl rfl Try.func16 (by kernel_rfl) rfl #[.string (⟨#[98, 97, 110, 97, 110, 97]⟩ : ByteArray)] rfl (by (try simp only [List.map_toArray, List.map_cons, List.map_nil]); first | done | rfl | (simp only [List.length_drop, List.length_take]; rfl)) ?_; (with_reducible refine (find_New.calls k (⟨#[98, 97, 110, 97, 110, 97]⟩ : ByteArray) t148 t149 t152 t155 _ A1.out).mono ?_); rintro e w102 ⟨v150, v153, rfl, ho0, ho1, hb⟩; refine ⟨_, rfl, ?_⟩; have n0_ := Aside0.mk (Kd.R_lower ho0 (below_size (by repeat (first | (with_reducible first | exact HB.out | apply below_alloc | apply pw_below_drewN | apply below_drew1) | exact HB.out)))); have n1_ := Aside0.mk (Kd.R_lower ho1 (below_size (by repeat (first | (with_reducible first | exact HB.out | apply below_alloc | apply pw_below_drewN | apply below_drew1) | exact HB.out)))); have n2_ := Aside0.mk (below_step (by repeat (first | (with_reducible first | exact HB.out | apply below_alloc | apply pw_below_drewN | apply below_drew1) | exact HB.out)) hb); clear HB; have HO151 := n0_; have HO154 := n1_; have HB := n2_; clear n0_ n1_ n2_; (try clear hb); (try clear hb2); (try clear hk); (try clear hi); (try clear ho0); (try clear ho1)) | ((with_reducible refine gate_dst (N := 1) rfl ?_); refine box_event ?hg (N := 1) ?hd (cs := #[.string (⟨#[]⟩ : ByteArray), .slice none 0 0, .slice none 0 0]) (t := 24) ?hr ?_; (case hd => rfl); (case hg => rfl); (case hr => first | (go_simp; done) | (go_simp; rfl)); intro gb156 hg w103 hbox hb; have n0_ := Aside0.mk (Kd.R_below (by (with_reducible repeat (first | apply Kd.R_alloc | apply Kd.R_drewN | apply Kd.R_drew)); exact HO151.out) hb); have n1_ := Aside0.mk (Kd.R_below (by (with_reducible repeat (first | apply Kd.R_alloc | apply Kd.R_drewN | apply Kd.R_drew)); exact HO154.out) hb); have n2_ := Aside0.mk (below_step (by repeat (first | (with_reducible first | exact HB.out | apply below_alloc | apply pw_below_drewN | apply below_drew1) | exact HB.out)) hb); have n3_ := Aside0.mk (hbox); have n4_ := Aside0.mk ((by rw [hg]; exact (below_size (by repeat (first | (with_reducible first | exact HB.out | apply below_alloc | apply pw_below_drewN | apply below_drew1) | exact HB.out))) : w.heap.size ≤ gb156)); have n5_ := Aside0.mk ((by rw [hg]; exact (below_size (by repeat (first | (with_reducible first | exact HB.out | apply below_alloc | apply pw_below_drewN | apply below_drew1) | exact HB.out))) : w.heap.size ≤ gb156)); clear HO151; clear HO154; clear HB; have HO151 := n0_; have HO154 := n1_; have HB := n2_; have BK156 := n3_; have GW156 := n4_; have GE156 := n5_; clear n0_ n1_ n2_ n3_ n4_ n5_; clear hb hbox hg; have hcz104_0 : w103.cell? ⟨gb156, 0, none⟩ = some (.string (⟨#[]⟩ : ByteArray)) := (blk_cell BK156.out 0).trans rfl; have hcz104_1 : w103.cell? ⟨gb156, 1, none⟩ = some (.slice none 0 0) := (blk_cell BK156.out 1).trans rfl; have hcz104_2 : w103.cell? ⟨gb156, 2, none⟩ = some (.slice none 0 0) := (blk_cell BK156.out 2).trans rfl; have hfz104_0 := blk_frozen BK156.out 0; have hfz104_1 := blk_frozen BK156.out 1; have hfz104_2 := blk_frozen BK156.out 2; obtain ⟨Ao105, co105, eo105⟩ := Kd.R_slice HO151.out; subst eo105; obtain ⟨Ao106, co106, eo106⟩ := Kd.R_slice HO154.out; subst eo106) | ((with_reducible refine gate_callee (f := 17) rfl ?_); refine goesL_ (some 17) rfl rfl Try.func17 (by kernel_rfl) rfl #[.agg #[.string t148, .slice Ao105 t149.length co105, .slice Ao106 t152.length co106]] rfl (by (try simp only [List.map_toArray, List.map_cons, List.map_nil]); first | done | rfl | (simp only [List.length_drop, List.length_take]; rfl)) ?_; (with_reducible refine (find_Index_Repeat.calls k t148 _ _ t149 _ _ t152 t157 t158 t159 _ ?side1 ?side2 ?side3 ?side4 A2.out).mono ?_); (case side1 => refine (Kd.R_reads' (e := 3) (base := w.heap.size) (ok := fun k_ => some k_ ≠ (.slice Ao106 t152.length co106 : Value).ownBlock) (n := t149.length) (c := co105) ?_).2.2; exact (by (with_reducible repeat (first | apply Kd.R_alloc | apply Kd.R_drewN | apply Kd.R_drew)); exact (Kd.R_mono (Kd.R_far (p := ⟨gb156, 2, none⟩) (Kd.R_far (p := ⟨gb156, 1, none⟩) (Kd.R_far (p := ⟨gb156, 0, none⟩) (Kd.R_types HO151.out BK156.out (by decide)) (fun _ hk => hk.2) (.string t148)) (fun _ hk => hk.2) (.slice Ao105 t149.length co105)) (fun _ hk => hk.2) (.slice Ao106 t152.length co106)) (fun _ h_ => h_.1)))); (case side2 => exact (Kd.R_reads' HO151.out).2.1); (case side3 => refine (Kd.R_reads' (e := 3) (base := w.heap.size) (ok := fun k_ => some k_ ≠ (.slice Ao105 t149.length co105 : Value).ownBlock) (n := t152.length) (c := co106) ?_).2.2; exact (by (with_reducible repeat (first | apply Kd.R_alloc | apply Kd.R_drewN | apply Kd.R_drew)); exact (Kd.R_mono (Kd.R_far (p := ⟨gb156, 2, none⟩) (Kd.R_far (p := ⟨gb156, 1, none⟩) (Kd.R_far (p := ⟨gb156, 0, none⟩) (Kd.R_types HO154.out BK156.out (by decide)) (fun _ hk => hk.2) (.string t148)) (fun _ hk => hk.2) (.slice Ao105 t149.length co105)) (fun _ hk => hk.2) (.slice Ao106 t152.length co106)) (fun _ h_ => h_.1)))); (case side4 => exact (Kd.R_reads' HO154.out).2.1); rintro e w107 ⟨rfl, hb⟩; refine ⟨_, rfl, ?_⟩; have n0_ := Aside0.mk (Kd.R_below (by (with_reducible repeat (first | apply Kd.R_alloc | apply Kd.R_drewN | apply Kd.R_drew)); exact (Kd.R_mono (Kd.R_far (p := ⟨gb156, 2, none⟩) (Kd.R_far (p := ⟨gb156, 1, none⟩) (Kd.R_far (p := ⟨gb156, 0, none⟩) (Kd.R_types HO151.out BK156.out (by decide)) (fun _ hk => hk.2) (.string t148)) (fun _ hk => hk.2) (.slice Ao105 t149.length co105)) (fun _ hk => hk.2) (.slice Ao106 t152.length co106)) (fun _ h_ => h_.1))) hb); have n1_ := Aside0.mk (Kd.R_below (by (with_reducible repeat (first | apply Kd.R_alloc | apply Kd.R_drewN | apply Kd.R_drew)); exact (Kd.R_mono (Kd.R_far (p := ⟨gb156, 2, none⟩) (Kd.R_far (p := ⟨gb156, 1, none⟩) (Kd.R_far (p := ⟨gb156, 0, none⟩) (Kd.R_types HO154.out BK156.out (by decide)) (fun _ hk => hk.2) (.string t148)) (fun _ hk => hk.2) (.slice Ao105 t149.length co105)) (fun _ hk => hk.2) (.slice Ao106 t152.length co106)) (fun _ h_ => h_.1))) hb); have n2_ := Aside0.mk (blk_below (g := gb156) (o := .cells #[.string t148, .slice Ao105 t149.length co105, .slice Ao106 t152.length co106] 24 (0, 0)) (by (with_reducible repeat (first | refine blk_drewN ?_ _ | refine blk_drew ?_ | refine blk_alloc ?_ _)); refine blk_put (cs := #[.string t148, .slice Ao105 t149.length co105, .slice none 0 0]) ?_ 2 _ rfl; (with_reducible repeat (first | refine blk_drewN ?_ _ | refine blk_drew ?_ | refine blk_alloc ?_ _)); refine blk_put (cs := #[.string t148, .slice none 0 0, .slice none 0 0]) ?_ 1 _ rfl; (with_reducible repeat (first | refine blk_drewN ?_ _ | refine blk_drew ?_ | refine blk_alloc ?_ _)); refine blk_put (cs := #[.string (⟨#[]⟩ : ByteArray), .slice none 0 0, .slice none 0 0]) ?_ 0 _ rfl; (with_reducible repeat (first | refine blk_drewN ?_ _ | refine blk_drew ?_ | refine blk_alloc ?_ _)); exact BK156.out) hb); have n3_ := Aside0.mk (below_step (by repeat (first | (with_reducible first | exact HB.out | apply below_alloc | apply pw_below_drewN | apply below_drew1 | refine below_set ?_ GE156.out) | exact HB.out)) hb); clear HO151; clear HO154; clear BK156; clear HB; have HO151 := n0_; have HO154 := n1_; have BK156 := n2_; have HB := n3_; clear n0_ n1_ n2_ n3_; (try clear hb); (try clear hb2); (try clear hk); (try clear hi)) | ((with_reducible refine gate_callee (f := 23) rfl ?_); refine goesL_ (some 22) rfl rfl Try.func23 (by kernel_rfl) rfl #[.string (⟨#[98, 97, 110, 97, 110, 97]⟩ : ByteArray)] rfl (by (try simp only [List.map_toArray, List.map_cons, List.map_nil]); first | done | rfl | (simp only [List.length_drop, List.length_take]; rfl)) ?_; (with_reducible refine (find_Turn.calls (⟨#[98, 97, 110, 97, 110, 97]⟩ : ByteArray) t160 t161 t162 _ A3.out).mono ?_); rintro e w108 ⟨rfl, hb⟩; refine ⟨_, rfl, ?_⟩; have n0_ := Aside0.mk (Kd.R_below (by (with_reducible repeat (first | apply Kd.R_alloc | apply Kd.R_drewN | apply Kd.R_drew)); exact HO151.out) hb); have n1_ := Aside0.mk (Kd.R_below (by (with_reducible repeat (first | apply Kd.R_alloc | apply Kd.R_drewN | apply Kd.R_drew)); exact HO154.out) hb); have n2_ := Aside0.mk (blk_below (g := gb156) (o := .cells #[.string t148, .slice Ao105 t149.length co105, .slice Ao106 t152.length co106] 24 (0, 0)) (by (with_reducible repeat (first | refine blk_drewN ?_ _ | refine blk_drew ?_ | refine blk_alloc ?_ _)); exact BK156.out) hb); have n3_ := Aside0.mk (below_step (by repeat (first | (with_reducible first | exact HB.out | apply below_alloc | apply pw_below_drewN | apply below_drew1 | refine below_set ?_ GE156.out) | exact HB.out)) hb); clear HO151; clear HO154; clear BK156; clear HB; have HO151 := n0_; have HO154 := n1_; have BK156 := n2_; have HB := n3_; clear n0_ n1_ n2_ n3_; (try clear hb); (try clear hb2); (try clear hk); (try clear hi)) | ((with_reducible refine gate_callee (f := 25) rfl ?_); refine goesL_ (some 27) rfl rfl Try.func25 (by kernel_rfl) rfl #[.string (⟨#[97, 110, 110, 98, 97, 97]⟩ : ByteArray), .int .i64 4] rfl (by (try simp only [List.map_toArray, List.map_cons, List.map_nil]); first | done | rfl | (simp only [List.length_drop, List.length_take]; rfl)) ?_; (with_reducible refine (find_Restore.calls (⟨#[97, 110, 110, 98, 97, 97]⟩ : ByteArray) 4 t163 t164 _ A4.out).mono ?_); rintro e w109 ⟨rfl, hb⟩; refine ⟨_, rfl, ?_⟩; have n0_ := Aside0.mk (Kd.R_below (by (with_reducible repeat (first | apply Kd.R_alloc | apply Kd.R_drewN | apply Kd.R_drew)); exact HO151.out) hb); have n1_ := Aside0.mk (Kd.R_below (by (with_reducible repeat (first | apply Kd.R_alloc | apply Kd.R_drewN | apply Kd.R_drew)); exact HO154.out) hb); have n2_ := Aside0.mk (blk_below (g := gb156) (o := .cells #[.string t148, .slice Ao105 t149.length co105, .slice Ao106 t152.length co106] 24 (0, 0)) (by (with_reducible repeat (first | refine blk_drewN ?_ _ | refine blk_drew ?_ | refine blk_alloc ?_ _)); exact BK156.out) hb); have n3_ := Aside0.mk (below_step (by repeat (first | (with_reducible first | exact HB.out | apply below_alloc | apply pw_below_drewN | apply below_drew1 | refine below_set ?_ GE156.out) | exact HB.out)) hb); clear HO151; clear HO154; clear BK156; clear HB; have HO151 := n0_; have HO154 := n1_; have BK156 := n2_; have HB := n3_; clear n0_ n1_ n2_ n3_; (try clear hb); (try clear hb2); (try clear hk); (try clear hi)))
   go_ret
   exact ⟨by first | rfl | (simp [errW_none, errW_some] <;> rfl) | (simp [*, errW_none, errW_some] <;> rfl), by repeat (first | (with_reducible first | exact HB.out | apply below_alloc | apply pw_below_drewN | apply below_drew1 | refine below_set ?_ GE156.out) | exact HB.out)⟩
 ·rw [if_neg c5] at H
  have c5b0 : (t155 == 0) = false := beq_eq_false_iff_ne.mpr c5
  have c5b1 : (t155 != 0) = true := bne_iff_ne.mpr c5
  obtain rfl := Option.some.inj H
  go_enter Try.func21, Try.ntmps21
  go_wp2_with (first | ((with_reducible refine gate_callee (f := 16) rfl ?_); refine goesL_ (some 12) rfl rfl Try.func16 (by kernel_rfl) rfl #[.string (⟨#[98, 97, 110, 97, 110, 97]⟩ : ByteArray)] rfl (by (try simp only [List.map_toArray, List.map_cons, List.map_nil]); first | done | rfl | (simp only [List.length_drop, List.length_take]; rfl)) ?_; (with_reducible refine (find_New.calls k (⟨#[98, 97, 110, 97, 110, 97]⟩ : ByteArray) t148 t149 t152 t155 _ A1.out).mono ?_); rintro e w110 ⟨v150, v153, rfl, ho0, ho1, hb⟩; refine ⟨_, rfl, ?_⟩; have n0_ := Aside0.mk (Kd.R_lower ho0 (below_size (by repeat (first | (with_reducible first | exact HB.out | apply below_alloc | apply pw_below_drewN | apply below_drew1) | exact HB.out)))); have n1_ := Aside0.mk (Kd.R_lower ho1 (below_size (by repeat (first | (with_reducible first | exact HB.out | apply below_alloc | apply pw_below_drewN | apply below_drew1) | exact HB.out)))); have n2_ := Aside0.mk (below_step (by repeat (first | (with_reducible first | exact HB.out | apply below_alloc | apply pw_below_drewN | apply below_drew1) | exact HB.out)) hb); clear HB; have HO151 := n0_; have HO154 := n1_; have HB := n2_; clear n0_ n1_ n2_; (try clear hb); (try clear hb2); (try clear hk); (try clear hi); (try clear ho0); (try clear ho1)) | ((with_reducible refine gate_dst (N := 1) rfl ?_); refine box_event ?hg (N := 1) ?hd (cs := #[.string (⟨#[]⟩ : ByteArray), .slice none 0 0, .slice none 0 0]) (t := 24) ?hr ?_; (case hd => rfl); (case hg => rfl); (case hr => first | (go_simp; done) | (go_simp; rfl)); intro gb156 hg w111 hbox hb; have n0_ := Aside0.mk (Kd.R_below (by (with_reducible repeat (first | apply Kd.R_alloc | apply Kd.R_drewN | apply Kd.R_drew)); exact HO151.out) hb); have n1_ := Aside0.mk (Kd.R_below (by (with_reducible repeat (first | apply Kd.R_alloc | apply Kd.R_drewN | apply Kd.R_drew)); exact HO154.out) hb); have n2_ := Aside0.mk (below_step (by repeat (first | (with_reducible first | exact HB.out | apply below_alloc | apply pw_below_drewN | apply below_drew1) | exact HB.out)) hb); have n3_ := Aside0.mk (hbox); have n4_ := Aside0.mk ((by rw [hg]; exact (below_size (by repeat (first | (with_reducible first | exact HB.out | apply below_alloc | apply pw_below_drewN | apply below_drew1) | exact HB.out))) : w.heap.size ≤ gb156)); have n5_ := Aside0.mk ((by rw [hg]; exact (below_size (by repeat (first | (with_reducible first | exact HB.out | apply below_alloc | apply pw_below_drewN | apply below_drew1) | exact HB.out))) : w.heap.size ≤ gb156)); clear HO151; clear HO154; clear HB; have HO151 := n0_; have HO154 := n1_; have HB := n2_; have BK156 := n3_; have GW156 := n4_; have GE156 := n5_; clear n0_ n1_ n2_ n3_ n4_ n5_; clear hb hbox hg; have hcz112_0 : w111.cell? ⟨gb156, 0, none⟩ = some (.string (⟨#[]⟩ : ByteArray)) := (blk_cell BK156.out 0).trans rfl; have hcz112_1 : w111.cell? ⟨gb156, 1, none⟩ = some (.slice none 0 0) := (blk_cell BK156.out 1).trans rfl; have hcz112_2 : w111.cell? ⟨gb156, 2, none⟩ = some (.slice none 0 0) := (blk_cell BK156.out 2).trans rfl; have hfz112_0 := blk_frozen BK156.out 0; have hfz112_1 := blk_frozen BK156.out 1; have hfz112_2 := blk_frozen BK156.out 2; obtain ⟨Ao113, co113, eo113⟩ := Kd.R_slice HO151.out; subst eo113; obtain ⟨Ao114, co114, eo114⟩ := Kd.R_slice HO154.out; subst eo114) | ((with_reducible refine gate_callee (f := 17) rfl ?_); refine goesL_ (some 17) rfl rfl Try.func17 (by kernel_rfl) rfl #[.agg #[.string t148, .slice Ao113 t149.length co113, .slice Ao114 t152.length co114]] rfl (by (try simp only [List.map_toArray, List.map_cons, List.map_nil]); first | done | rfl | (simp only [List.length_drop, List.length_take]; rfl)) ?_; (with_reducible refine (find_Index_Repeat.calls k t148 _ _ t149 _ _ t152 t157 t158 t159 _ ?side1 ?side2 ?side3 ?side4 A2.out).mono ?_); (case side1 => refine (Kd.R_reads' (e := 3) (base := w.heap.size) (ok := fun k_ => some k_ ≠ (.slice Ao114 t152.length co114 : Value).ownBlock) (n := t149.length) (c := co113) ?_).2.2; exact (by (with_reducible repeat (first | apply Kd.R_alloc | apply Kd.R_drewN | apply Kd.R_drew)); exact (Kd.R_mono (Kd.R_far (p := ⟨gb156, 2, none⟩) (Kd.R_far (p := ⟨gb156, 1, none⟩) (Kd.R_far (p := ⟨gb156, 0, none⟩) (Kd.R_types HO151.out BK156.out (by decide)) (fun _ hk => hk.2) (.string t148)) (fun _ hk => hk.2) (.slice Ao113 t149.length co113)) (fun _ hk => hk.2) (.slice Ao114 t152.length co114)) (fun _ h_ => h_.1)))); (case side2 => exact (Kd.R_reads' HO151.out).2.1); (case side3 => refine (Kd.R_reads' (e := 3) (base := w.heap.size) (ok := fun k_ => some k_ ≠ (.slice Ao113 t149.length co113 : Value).ownBlock) (n := t152.length) (c := co114) ?_).2.2; exact (by (with_reducible repeat (first | apply Kd.R_alloc | apply Kd.R_drewN | apply Kd.R_drew)); exact (Kd.R_mono (Kd.R_far (p := ⟨gb156, 2, none⟩) (Kd.R_far (p := ⟨gb156, 1, none⟩) (Kd.R_far (p := ⟨gb156, 0, none⟩) (Kd.R_types HO154.out BK156.out (by decide)) (fun _ hk => hk.2) (.string t148)) (fun _ hk => hk.2) (.slice Ao113 t149.length co113)) (fun _ hk => hk.2) (.slice Ao114 t152.length co114)) (fun _ h_ => h_.1)))); (case side4 => exact (Kd.R_reads' HO154.out).2.1); rintro e w115 ⟨rfl, hb⟩; refine ⟨_, rfl, ?_⟩; have n0_ := Aside0.mk (Kd.R_below (by (with_reducible repeat (first | apply Kd.R_alloc | apply Kd.R_drewN | apply Kd.R_drew)); exact (Kd.R_mono (Kd.R_far (p := ⟨gb156, 2, none⟩) (Kd.R_far (p := ⟨gb156, 1, none⟩) (Kd.R_far (p := ⟨gb156, 0, none⟩) (Kd.R_types HO151.out BK156.out (by decide)) (fun _ hk => hk.2) (.string t148)) (fun _ hk => hk.2) (.slice Ao113 t149.length co113)) (fun _ hk => hk.2) (.slice Ao114 t152.length co114)) (fun _ h_ => h_.1))) hb); have n1_ := Aside0.mk (Kd.R_below (by (with_reducible repeat (first | apply Kd.R_alloc | apply Kd.R_drewN | apply Kd.R_drew)); exact (Kd.R_mono (Kd.R_far (p := ⟨gb156, 2, none⟩) (Kd.R_far (p := ⟨gb156, 1, none⟩) (Kd.R_far (p := ⟨gb156, 0, none⟩) (Kd.R_types HO154.out BK156.out (by decide)) (fun _ hk => hk.2) (.string t148)) (fun _ hk => hk.2) (.slice Ao113 t149.length co113)) (fun _ hk => hk.2) (.slice Ao114 t152.length co114)) (fun _ h_ => h_.1))) hb); have n2_ := Aside0.mk (blk_below (g := gb156) (o := .cells #[.string t148, .slice Ao113 t149.length co113, .slice Ao114 t152.length co114] 24 (0, 0)) (by (with_reducible repeat (first | refine blk_drewN ?_ _ | refine blk_drew ?_ | refine blk_alloc ?_ _)); refine blk_put (cs := #[.string t148, .slice Ao113 t149.length co113, .slice none 0 0]) ?_ 2 _ rfl; (with_reducible repeat (first | refine blk_drewN ?_ _ | refine blk_drew ?_ | refine blk_alloc ?_ _)); refine blk_put (cs := #[.string t148, .slice none 0 0, .slice none 0 0]) ?_ 1 _ rfl; (with_reducible repeat (first | refine blk_drewN ?_ _ | refine blk_drew ?_ | refine blk_alloc ?_ _)); refine blk_put (cs := #[.string (⟨#[]⟩ : ByteArray), .slice none 0 0, .slice none 0 0]) ?_ 0 _ rfl; (with_reducible repeat (first | refine blk_drewN ?_ _ | refine blk_drew ?_ | refine blk_alloc ?_ _)); exact BK156.out) hb); have n3_ := Aside0.mk (below_step (by repeat (first | (with_reducible first | exact HB.out | apply below_alloc | apply pw_below_drewN | apply below_drew1 | refine below_set ?_ GE156.out) | exact HB.out)) hb); clear HO151; clear HO154; clear BK156; clear HB; have HO151 := n0_; have HO154 := n1_; have BK156 := n2_; have HB := n3_; clear n0_ n1_ n2_ n3_; (try clear hb); (try clear hb2); (try clear hk); (try clear hi)) | ((with_reducible refine gate_callee (f := 23) rfl ?_); refine goesL_ (some 22) rfl rfl Try.func23 (by kernel_rfl) rfl #[.string (⟨#[98, 97, 110, 97, 110, 97]⟩ : ByteArray)] rfl (by (try simp only [List.map_toArray, List.map_cons, List.map_nil]); first | done | rfl | (simp only [List.length_drop, List.length_take]; rfl)) ?_; (with_reducible refine (find_Turn.calls (⟨#[98, 97, 110, 97, 110, 97]⟩ : ByteArray) t160 t161 t162 _ A3.out).mono ?_); rintro e w116 ⟨rfl, hb⟩; refine ⟨_, rfl, ?_⟩; have n0_ := Aside0.mk (Kd.R_below (by (with_reducible repeat (first | apply Kd.R_alloc | apply Kd.R_drewN | apply Kd.R_drew)); exact HO151.out) hb); have n1_ := Aside0.mk (Kd.R_below (by (with_reducible repeat (first | apply Kd.R_alloc | apply Kd.R_drewN | apply Kd.R_drew)); exact HO154.out) hb); have n2_ := Aside0.mk (blk_below (g := gb156) (o := .cells #[.string t148, .slice Ao113 t149.length co113, .slice Ao114 t152.length co114] 24 (0, 0)) (by (with_reducible repeat (first | refine blk_drewN ?_ _ | refine blk_drew ?_ | refine blk_alloc ?_ _)); exact BK156.out) hb); have n3_ := Aside0.mk (below_step (by repeat (first | (with_reducible first | exact HB.out | apply below_alloc | apply pw_below_drewN | apply below_drew1 | refine below_set ?_ GE156.out) | exact HB.out)) hb); clear HO151; clear HO154; clear BK156; clear HB; have HO151 := n0_; have HO154 := n1_; have BK156 := n2_; have HB := n3_; clear n0_ n1_ n2_ n3_; (try clear hb); (try clear hb2); (try clear hk); (try clear hi)) | ((with_reducible refine gate_callee (f := 25) rfl ?_); refine goesL_ (some 27) rfl rfl Try.func25 (by kernel_rfl) rfl #[.string (⟨#[97, 110, 110, 98, 97, 97]⟩ : ByteArray), .int .i64 4] rfl (by (try simp only [List.map_toArray, List.map_cons, List.map_nil]); first | done | rfl | (simp only [List.length_drop, List.length_take]; rfl)) ?_; (with_reducible refine (find_Restore.calls (⟨#[97, 110, 110, 98, 97, 97]⟩ : ByteArray) 4 t163 t164 _ A4.out).mono ?_); rintro e w117 ⟨rfl, hb⟩; refine ⟨_, rfl, ?_⟩; have n0_ := Aside0.mk (Kd.R_below (by (with_reducible repeat (first | apply Kd.R_alloc | apply Kd.R_drewN | apply Kd.R_drew)); exact HO151.out) hb); have n1_ := Aside0.mk (Kd.R_below (by (with_reducible repeat (first | apply Kd.R_alloc | apply Kd.R_drewN | apply Kd.R_drew)); exact HO154.out) hb); have n2_ := Aside0.mk (blk_below (g := gb156) (o := .cells #[.string t148, .slice Ao113 t149.length co113, .slice Ao114 t152.length co114] 24 (0, 0)) (by (with_reducible repeat (first | refine blk_drewN ?_ _ | refine blk_drew ?_ | refine blk_alloc ?_ _)); exact BK156.out) hb); have n3_ := Aside0.mk (below_step (by repeat (first | (with_reducible first | exact HB.out | apply below_alloc | apply pw_below_drewN | apply below_drew1 | refine below_set ?_ GE156.out) | exact HB.out)) hb); clear HO151; clear HO154; clear BK156; clear HB; have HO151 := n0_; have HO154 := n1_; have BK156 := n2_; have HB := n3_; clear n0_ n1_ n2_ n3_; (try clear hb); (try clear hb2); (try clear hk); (try clear hi)))
  go_ret
  exact ⟨by first | rfl | (simp [errW_none, errW_some] <;> rfl) | (simp [*, errW_none, errW_some] <;> rfl), by repeat (first | (with_reducible first | exact HB.out | apply below_alloc | apply pw_below_drewN | apply below_drew1 | refine below_set ?_ GE156.out) | exact HB.out)⟩

end Go.Proofs.Ytppelnlocfcgfaa.P
