/- Proved here: what functions that the law reaches compute, and plain laws of that. No conditions but those that the theorems state. Put together by a program; a part of it was printed by a program of the session's, by way of the kit's printer (wip/printplus.py, wip/mend*.py). -/
import Derived.Outline
import Derived.Deep.DeepMust
import Derived.Laws.EntriesVeiled
import Derived.BigRegion
import Derived.BigQuiet
import Derived.Test.YthaklbjcjoolcaaCPlaneInside2
import Derived.Test.YthaklbjcjoolcaaB1
import Derived.Test.YthaklbjcjoolcaaB4
import Derived.Test.YthaklbjcjoolcaaB2
import Derived.Test.YthaklbjcjoolcaaB5
set_option linter.unusedVariables false
set_option linter.unusedSimpArgs false
namespace Go.Proofs.Ythaklbjcjoolcaa.P
open Go.RowKit Go.Shelf Go.Sort Go.Proofs.YthaklbjcjoolcaaW.PrintWords Go.Proofs.YthaklbjcjoolcaaW.PrintLast Go.Proofs.YthaklbjcjoolcaaW.PrintMore
set_option linter.unusedVariables false
set_option linter.unusedSimpArgs false
/-- an edge is crossed on the right of a point -/
def crossR (a b p : S31) : Bool := decide (a.f1 ≤ p.f1 ∧ p.f1 < b.f1 ∧ 0 < crs a b p ∨ b.f1 ≤ p.f1 ∧ p.f1 < a.f1 ∧ 0 < crs b a p)
/-- where a point is, counting the crossings from an edge on -/
def insR (l : List S31) (p : S31) : Nat → Nat → Bool → Int
  | 0, _, odd => if odd then 1 else -1
  | n + 1, i, odd => if onB (pt l i) (pt l ((i + 1) % l.length)) p = true then 0 else insR l p n (i + 1) (xor odd (crossR (pt l i) (pt l ((i + 1) % l.length)) p))
def insP_T : Bool × List (List Nat × List Nat) := (true, [([], []), ([], []), ([0, 1], [0, 1]), ([2], [2]), ([], []), ([], []), ([], []), ([6], [6]), ([5, 7], [5, 7]), ([4, 8], [4, 8]), ([9], [9]), ([], []), ([], []), ([11, 3, 8, 0, 1, 2, 3, 11, 12], [3, 11]), ([12, 10, 13, 0, 1, 2, 3, 4, 5, 6, 7, 8, 9, 10, 11, 12, 13], [10, 12])])
def insP_B : List Nat := [0, 0, 3, 7, 0, 0, 0, 64, 224, 496, 1008, 0, 0, 6639, 16383]
theorem insP_tab : rtab .any (opsOf Try.f29 5) = insP_T := by kernel_rfl
theorem insP_bits : waitsOk insP_T.2 insP_B = true := by kernel_rfl
set_option maxHeartbeats 4000000 in
set_option maxRecDepth 100000 in
theorem refinside_calls (A0 : Option Addr) (c0 : Nat) (l0 : List S31) (p : S31) (wz : World) (hr0 : Kd.C k31 wz A0 l0.length l0) (hc0 : l0.length ≤ c0) (hok : allOk l0 = true) (hp : okPt p = true) (hsz : l0.length ≤ 4096) :
    Calls Try.prog 29 #[.slice A0 l0.length c0, .agg #[.int .i64 p.f0, .int .i64 p.f1]] wz fun e w' => e = .returned (.int .i64 (insR l0 p l0.length 0 false)) ∧ Below wz.heap.size wz w' := by
  have HBZ := Aside0.mk (lA (Below.refl wz.heap.size wz) (Obj.cells #[.int .i64 p.f0, .int .i64 p.f1] 31))
  have HR0 := Aside0.mk (Kd.C_below hr0 HBZ.out)
  have BP0 := Aside0.mk (heap_alloc_new wz (Obj.cells #[.int .i64 p.f0, .int .i64 p.f1] 31))
  have HOK := Aside0.mk hok
  have HOP := Aside0.mk hp
  obtain ⟨r, hrv⟩ : ∃ r, r = insR l0 p l0.length 0 false := ⟨_, rfl⟩
  have HV := Aside0.mk hrv
  rw [← hrv]
  clear hr0 hok hp hrv
  go_enter Try.func29, Try.ntmps29
  go_wp2
  obtain ⟨gP, hgP⟩ : ∃ g, g = wz.heap.size := ⟨_, rfl⟩
  rw [← hgP] at BP0
  rw [← hgP]
  clear hgP
  generalize hw : wz.alloc (Obj.cells #[.int .i64 p.f0, .int .i64 p.f1] 31) = w at *
  clear hw
  have HB0 := Aside0.mk (Below.refl w.heap.size w)
  go_loopw [5, 6] (fun v5 v6 wr => ∃ (k : Nat) (odd : Bool), k ≤ l0.length ∧ v6 = .int .i64 k ∧ v5 = .bool odd ∧ Aside0 (r = insR l0 p (l0.length - k) k odd) ∧ Aside0 (Below w.heap.size w wr)) (fun _ v6 _ => l0.length - (intOf v6).toNat)
  case atStart => exact ⟨0, false, by omega, rfl, rfl, HV, HB0⟩
  case round =>
    clear HB0 HV
    obtain ⟨k, odd, hk, rfl, rfl, HV, HB⟩ := hrel
    by_cases hlt : k < l0.length
    · obtain ⟨n, hn⟩ : ∃ n, n = (k + 1) % l0.length := ⟨_, rfl⟩
      have hnl : n < l0.length := by rw [hn]; exact Nat.mod_lt _ (by omega)
      have HNX := Aside0.mk (refnext_is k l0.length hlt hsz)
      rw [← hn] at HNX
      have HOA := Aside0.mk (allOk_pt HOK.out k hlt)
      have HOB := Aside0.mk (allOk_pt HOK.out n hnl)
      obtain ⟨ad, rfl, hw_p0, hw_p1⟩ := at_T31 HR0.out (k : Int) (by omega) (by omega)
      obtain ⟨ad', had', hw_q0, hw_q1⟩ := at_T31 HR0.out (n : Int) (by omega) (by omega)
      cases had'
      rw [rd_pt, Int.toNat_natCast] at hw_p0 hw_p1 hw_q0 hw_q1
      have hltI : ((k : Nat) : Int) < ((l0.length : Nat) : Int) := by omega
      have hnlI : ((n : Nat) : Int) < ((l0.length : Nat) : Int) := by omega
      have HST := Aside0.mk (show insR l0 p (l0.length - k) k odd = if onB (pt l0 k) (pt l0 n) p = true then 0 else insR l0 p (l0.length - (k + 1)) (k + 1) (xor odd (crossR (pt l0 k) (pt l0 n) p)) by
        rw [show l0.length - k = (l0.length - (k + 1)) + 1 by omega, hn]; rfl)
      generalize pt l0 k = a at *
      generalize pt l0 n = b at *
      clear hn
      have HON := Aside0.mk (on_is HOA.out HOB.out HOP.out)
      have HT1 := Aside0.mk (show silversideref01_Turn.f a.f0 a.f1 b.f0 b.f1 p.f0 p.f1 = some (sgn (crs a b p)) by rw [refturn_same]; exact turn_is HOA.out HOB.out HOP.out)
      have HT2 := Aside0.mk (show silversideref01_Turn.f b.f0 b.f1 a.f0 a.f1 p.f0 p.f1 = some (sgn (crs b a p)) by rw [refturn_same]; exact turn_is HOB.out HOA.out HOP.out)
      have HCR := Aside0.mk (show crossR a b p = decide (a.f1 ≤ p.f1 ∧ p.f1 < b.f1 ∧ 0 < sgn (crs a b p) ∨ b.f1 ≤ p.f1 ∧ p.f1 < a.f1 ∧ 0 < sgn (crs b a p)) by unfold crossR; rw [Bool.eq_iff_iff, decide_eq_true_eq, decide_eq_true_eq, sgn_pos, sgn_pos])
      generalize sgn (crs a b p) = s1 at *
      generalize sgn (crs b a p) = s2 at *
      generalize crossR a b p = cr at *
      go_wp2
      have HBd := Aside0.mk (lD HB.out)
      clear HB
      have HB := HBd
      clear HBd
      refine start_ (n := 15) (S := fun w' => w'.cell? (ad.add (k * 2)) = some (.int .i64 (a.f0)) ∧ w'.cell? ⟨(ad.add (k * 2)).block, (ad.add (k * 2)).off + 1, none⟩ = some (.int .i64 (a.f1)) ∧ w'.cell? (ad.add (n * 2)) = some (.int .i64 (b.f0)) ∧ w'.cell? ⟨(ad.add (n * 2)).block, (ad.add (n * 2)).off + 1, none⟩ = some (.int .i64 (b.f1))) (ds := []) (Bs 0 15) (by kernel_rfl) rfl rfl ⟨(cB HB.out hw_p0), (cB HB.out hw_p1), (cB HB.out hw_q0), (cB HB.out hw_q1)⟩ (fun hHeld => ?_); refine with_tabW insP_tab insP_bits (fun HT_ HW_ => ?_)
      generalize wr.drew = w7 at HB hHeld ⊢
      refine pure_ (i := 0) (N := some 15) (v := ?_) (a' := ?_) (Bs 1 15) rfl rfl (any_of HT_.out (by kernel_rfl)) (fun _ _ _ h => h) (Or.inl ⟨by rfl, ?_⟩) ?_ ?_; rotate_left
      ·intro w'; go_simp; with_reducible rfl
      rotate_left
      ·simp only [Act.put, sA, sB, sC, i64_w, i32_w]; rfl
      refine pure_ (i := 1) (N := some 16) (v := ?_) (a' := ?_) (Bs 2 15) rfl rfl (any_of HT_.out (by kernel_rfl)) (fun _ _ _ h => h) (Or.inl ⟨by rfl, ?_⟩) ?_ ?_; rotate_left
      ·intro w'; go_simp; with_reducible rfl
      rotate_left
      ·simp only [Act.put, sA, sB, sC, i64_w, i32_w]; rfl
      refine pure_ (i := 2) (N := some 17) (v := ?_) (a' := ?_) (Bs 3 15) rfl rfl (any_of HT_.out (by kernel_rfl)) (fun _ _ _ h => h) (Or.inl ⟨by rfl, ?_⟩) ?_ ?_; rotate_left
      ·intro w'; go_simp; with_reducible rfl
      rotate_left
      ·simp only [Act.put, sA, sB, sC, i64_w, i32_w]; rfl
      refine pure_ (i := 4) (N := some 19) (v := ?_) (a' := ?_) (Br [3,1,1,10]) rfl rfl (any_of HT_.out (by kernel_rfl)) (fun _ _ _ h => h) (Or.inl ⟨by rfl, ?_⟩) ?_ ?_; rotate_left
      ·intro w'; go_simp; with_reducible rfl
      rotate_left
      ·simp only [Act.put, sA, sB, sC, i64_w, i32_w]; rfl
      refine pure_ (i := 5) (N := some 20) (v := ?_) (a' := ?_) (Br [3,1,2,9]) rfl rfl (any_of HT_.out (by kernel_rfl)) (fun _ _ _ h => h) (Or.inl ⟨by rfl, ?_⟩) ?_ ?_; rotate_left
      ·intro w'; go_simp; with_reducible rfl
      rotate_left
      ·simp only [Act.put, sA, sB, sC, i64_w, i32_w]; rfl
      refine pure_ (i := 6) (N := some 21) (v := ?_) (a' := ?_) (Br [3,1,3,8]) rfl rfl (any_of HT_.out (by kernel_rfl)) (fun _ _ _ h => h) (Or.inl ⟨by rfl, ?_⟩) ?_ ?_; rotate_left
      ·intro w'; go_simp; with_reducible rfl
      rotate_left
      ·simp only [Act.put, sA, sB, sC, i64_w, i32_w]; rfl
      refine pure_ (i := 7) (N := some 22) (v := ?_) (a' := ?_) (Br [3,1,4,7]) rfl rfl (any_of HT_.out (by kernel_rfl)) (fun _ _ _ h => h) (Or.inl ⟨by rfl, ?_⟩) ?_ ?_; rotate_left
      ·intro w'; go_simp; with_reducible rfl
      rotate_left
      ·simp only [Act.put, sA, sB, sC, i64_w, i32_w]; rfl
      refine take_ (i := 3) (N := some 18) (v := ?_) (a' := ?_) (Bs 8 15) rfl rfl (take_ofW HT_.out HW_.out (by kernel_rfl)) (fun _ _ _ h => h) (Or.inl ⟨by rfl, ?_⟩) hHeld ?_ ?_; rotate_left
      ·rintro w' ⟨s0, s1, s2, s3⟩; go_simp; with_reducible rfl
      rotate_left
      ·simp only [Act.put, sA, sB, sC, i64_w, i32_w]; rfl
      refine join_ (σ := Nat × Nat) 2 (Bs 13 15) (fun s_ => [(23, .int .i64 ((n : Nat) : Int)), (7, .pointer (some ⟨s_.1, 0, none⟩)), (8, .pointer (some ⟨s_.2, 0, none⟩)), (24, .pointer (some (ad.add (n * 2)))), (25, .agg #[.int .i64 (b.f0), .int .i64 (b.f1)])]) (fun s_ w' => (w'.cell? (ad.add (k * 2)) = some (.int .i64 (a.f0)) ∧ w'.cell? ⟨(ad.add (k * 2)).block, (ad.add (k * 2)).off + 1, none⟩ = some (.int .i64 (a.f1)) ∧ w'.cell? (ad.add (n * 2)) = some (.int .i64 (b.f0)) ∧ w'.cell? ⟨(ad.add (n * 2)).block, (ad.add (n * 2)).off + 1, none⟩ = some (.int .i64 (b.f1))) ∧ (w'.heap[s_.1]? = some (.cells #[.int .i64 0, .int .i64 0] 31 (0, 0))) ∧ (w'.heap[s_.2]? = some (.cells #[.int .i64 0, .int .i64 0] 31 (0, 0))) ∧ (w.heap.size ≤ s_.1) ∧ (w.heap.size ≤ s_.1) ∧ (s_.2 ≠ s_.1) ∧ (s_.1 ≠ s_.2) ∧ (w.heap.size ≤ s_.2) ∧ (w.heap.size ≤ s_.2) ∧ (Below w.heap.size w w')) ?_ ?_
      rotate_left
      ·intro hJ8_11_12
       refine join_ (σ := Nat) 3 (Bs 12 15) (fun s_ => [(23, .int .i64 ((n : Nat) : Int)), (7, .pointer (some ⟨s_, 0, none⟩)), (24, .pointer (some (ad.add (n * 2)))), (25, .agg #[.int .i64 (b.f0), .int .i64 (b.f1)])]) (fun s_ w' => (w'.cell? (ad.add (k * 2)) = some (.int .i64 (a.f0)) ∧ w'.cell? ⟨(ad.add (k * 2)).block, (ad.add (k * 2)).off + 1, none⟩ = some (.int .i64 (a.f1)) ∧ w'.cell? (ad.add (n * 2)) = some (.int .i64 (b.f0)) ∧ w'.cell? ⟨(ad.add (n * 2)).block, (ad.add (n * 2)).off + 1, none⟩ = some (.int .i64 (b.f1))) ∧ (w'.heap[s_]? = some (.cells #[.int .i64 0, .int .i64 0] 31 (0, 0))) ∧ (w.heap.size ≤ s_) ∧ (w.heap.size ≤ s_) ∧ (Below w.heap.size w w')) ?_ ?_
       rotate_left
       ·intro hJ8_11
        refine join_ (σ := Nat) 3 (Br [11,1,1,2]) (fun s_ => [(23, .int .i64 ((n : Nat) : Int)), (8, .pointer (some ⟨s_, 0, none⟩)), (24, .pointer (some (ad.add (n * 2)))), (25, .agg #[.int .i64 (b.f0), .int .i64 (b.f1)])]) (fun s_ w' => (w'.cell? (ad.add (k * 2)) = some (.int .i64 (a.f0)) ∧ w'.cell? ⟨(ad.add (k * 2)).block, (ad.add (k * 2)).off + 1, none⟩ = some (.int .i64 (a.f1)) ∧ w'.cell? (ad.add (n * 2)) = some (.int .i64 (b.f0)) ∧ w'.cell? ⟨(ad.add (n * 2)).block, (ad.add (n * 2)).off + 1, none⟩ = some (.int .i64 (b.f1))) ∧ (w'.heap[s_]? = some (.cells #[.int .i64 0, .int .i64 0] 31 (0, 0))) ∧ (w.heap.size ≤ s_) ∧ (w.heap.size ≤ s_) ∧ (Below w.heap.size w w')) ?_ ?_
        rotate_left
        ·intro hJ8_12
         refine join_ (σ := Nat × Nat) 5 (Br [8,3,2,2]) (fun s_ => [(7, .pointer (some ⟨s_.1, 0, none⟩)), (8, .pointer (some ⟨s_.2, 0, none⟩))]) (fun s_ w' => (w'.cell? (ad.add (k * 2)) = some (.int .i64 (a.f0)) ∧ w'.cell? ⟨(ad.add (k * 2)).block, (ad.add (k * 2)).off + 1, none⟩ = some (.int .i64 (a.f1)) ∧ w'.cell? (ad.add (n * 2)) = some (.int .i64 (b.f0)) ∧ w'.cell? ⟨(ad.add (n * 2)).block, (ad.add (n * 2)).off + 1, none⟩ = some (.int .i64 (b.f1))) ∧ (w'.heap[s_.1]? = some (.cells #[.int .i64 0, .int .i64 0] 31 (0, 0))) ∧ (w'.heap[s_.2]? = some (.cells #[.int .i64 0, .int .i64 0] 31 (0, 0))) ∧ (w.heap.size ≤ s_.1) ∧ (w.heap.size ≤ s_.1) ∧ (s_.2 ≠ s_.1) ∧ (s_.1 ≠ s_.2) ∧ (w.heap.size ≤ s_.2) ∧ (w.heap.size ≤ s_.2) ∧ (Below w.heap.size w w')) ?_ ?_
         rotate_left
         ·intro hJ11_12
          refine join_ (σ := Unit) 4 (Bs 11 15) (fun s_ => [(23, .int .i64 ((n : Nat) : Int)), (24, .pointer (some (ad.add (n * 2)))), (25, .agg #[.int .i64 (b.f0), .int .i64 (b.f1)])]) (fun s_ w' => (w'.cell? (ad.add (k * 2)) = some (.int .i64 (a.f0)) ∧ w'.cell? ⟨(ad.add (k * 2)).block, (ad.add (k * 2)).off + 1, none⟩ = some (.int .i64 (a.f1)) ∧ w'.cell? (ad.add (n * 2)) = some (.int .i64 (b.f0)) ∧ w'.cell? ⟨(ad.add (n * 2)).block, (ad.add (n * 2)).off + 1, none⟩ = some (.int .i64 (b.f1))) ∧ (Below w.heap.size w w')) ?_ ?_
          rotate_left
          ·intro hJ8
           refine join_ (σ := Nat) 6 (Br [8,3,1,3]) (fun s_ => [(7, .pointer (some ⟨s_, 0, none⟩))]) (fun s_ w' => (w'.cell? (ad.add (k * 2)) = some (.int .i64 (a.f0)) ∧ w'.cell? ⟨(ad.add (k * 2)).block, (ad.add (k * 2)).off + 1, none⟩ = some (.int .i64 (a.f1)) ∧ w'.cell? (ad.add (n * 2)) = some (.int .i64 (b.f0)) ∧ w'.cell? ⟨(ad.add (n * 2)).block, (ad.add (n * 2)).off + 1, none⟩ = some (.int .i64 (b.f1))) ∧ (w'.heap[s_]? = some (.cells #[.int .i64 0, .int .i64 0] 31 (0, 0))) ∧ (w.heap.size ≤ s_) ∧ (w.heap.size ≤ s_) ∧ (Below w.heap.size w w')) ?_ ?_
           rotate_left
           ·intro hJ11
            refine join_ (σ := Nat) 6 (Br [8,4,1,2]) (fun s_ => [(8, .pointer (some ⟨s_, 0, none⟩))]) (fun s_ w' => (w'.cell? (ad.add (k * 2)) = some (.int .i64 (a.f0)) ∧ w'.cell? ⟨(ad.add (k * 2)).block, (ad.add (k * 2)).off + 1, none⟩ = some (.int .i64 (a.f1)) ∧ w'.cell? (ad.add (n * 2)) = some (.int .i64 (b.f0)) ∧ w'.cell? ⟨(ad.add (n * 2)).block, (ad.add (n * 2)).off + 1, none⟩ = some (.int .i64 (b.f1))) ∧ (w'.heap[s_]? = some (.cells #[.int .i64 0, .int .i64 0] 31 (0, 0))) ∧ (w.heap.size ≤ s_) ∧ (w.heap.size ≤ s_) ∧ (Below w.heap.size w w')) ?_ ?_
            rotate_left
            ·intro hJ12
             refine three_ (i := 8) (j := 11) (k := 12) (Ni := some 23) (Nj := some 7) (Nk := some 8) (Bs 9 15) (Br [8,3,1,3]) (Br [8,4,1,2]) rfl rfl rfl rfl rfl rfl (three_of HT_.out (by kernel_rfl)) (by decide) (by decide) (by decide) (fun K hK => ?_) (fun K hK => ?_) (fun K hK => ?_)
             ·skip
              refine goes_ Try.func54 (by kernel_rfl) rfl #[.int .i64 ((k : Nat) : Int), .int .i64 (l0.length : Int)] (by rfl) rfl rfl (by (try simp only [List.map_toArray, List.map_cons, List.map_nil]); first | done | rfl | (simp only [List.length_drop, List.length_take]; rfl)) ?_
              with_reducible refine (silversideref01_next.calls ((k : Nat) : Int) (l0.length : Int) ((n : Nat) : Int) _ HNX.out).mono ?_
              rintro e w' ⟨rfl, ⟨nd, rfl⟩⟩
              refine ⟨_, rfl, ?_⟩
              refine hK.out _ _ ⟨(cB HB.out hw_p0), (cB HB.out hw_p1), (cB HB.out hw_q0), (cB HB.out hw_q1)⟩ (fun hHeld => ?_)
              clear hK K
              refine norm_ (a' := ?_) ?_ ?_
              rotate_left
              ·show Act.put _ (some 23) _ = _
               simp only [Act.put, sA, sB, sC, i64_w, i32_w]
               rfl
              refine pure_ (i := 9) (N := some 24) (v := ?_) (a' := ?_) (Bs 10 15) rfl rfl (any_of HT_.out (by kernel_rfl)) (fun _ _ _ h => h) (Or.inl ⟨by rfl, ?_⟩) ?_ ?_; rotate_left
              ·intro w'; go_simp; with_reducible rfl
              rotate_left
              ·simp only [Act.put, sA, sB, sC, i64_w, i32_w]; rfl
              refine take_ (i := 10) (N := some 25) (v := ?_) (a' := ?_) (Bs 11 15) rfl rfl (take_ofW HT_.out HW_.out (by kernel_rfl)) (fun _ _ _ h => h) (Or.inl ⟨by rfl, ?_⟩) hHeld ?_ ?_; rotate_left
              ·rintro w' ⟨s0, s1, s2, s3⟩; go_simp; with_reducible rfl
              rotate_left
              ·simp only [Act.put, sA, sB, sC, i64_w, i32_w]; rfl
              exact norm_ (by first | (simp only [putAll, Act.put, sA, sB, sC]; done) | (simp only [putAll, Act.put, sA, sB, sC]; rfl)) (hJ8 () _ ⟨hHeld, (by repeat (first | (with_reducible first | exact HB.out | apply lA | apply lN | apply lD) | exact HB.out))⟩)
             ·skip
              refine box_step ?hg (N := 7) ?hd (cs := #[.int .i64 0, .int .i64 0]) (t := 31) ?hr ?_; (case hd => rfl); (case hg => rfl); (case hr => first | (go_simp; done) | (go_simp; rfl))
              intro gG1 hg w8 hbox hb
              have n0_ := Aside0.mk (below_step (by repeat (first | (with_reducible first | exact HB.out | apply lA | apply lN | apply lD) | exact HB.out)) hb)
              have n1_ := Aside0.mk (hbox)
              have n2_ := Aside0.mk ((by rw [hg]; exact (below_size (by repeat (first | (with_reducible first | exact HB.out | apply lA | apply lN | apply lD) | exact HB.out))) : w.heap.size ≤ gG1))
              have n3_ := Aside0.mk ((by rw [hg]; exact (below_size (by repeat (first | (with_reducible first | exact HB.out | apply lA | apply lN | apply lD) | exact HB.out))) : w.heap.size ≤ gG1))
              clear HB
              have HB := n0_
              have BKG1 := n1_
              have GWG1 := n2_
              have GEG1 := n3_
              clear n0_ n1_ n2_ n3_
              clear hb hbox hg
              refine hK.out _ _ ⟨(cB HB.out hw_p0), (cB HB.out hw_p1), (cB HB.out hw_q0), (cB HB.out hw_q1)⟩ (fun hHeld => ?_)
              clear hK K
              refine norm_ (a' := ?_) ?_ ?_
              rotate_left
              ·show Act.put _ (some 7) _ = _
               simp only [Act.put, sA, sB, sC, i64_w, i32_w]
               rfl
              exact norm_ (by first | (simp only [putAll, Act.put, sA, sB, sC]; done) | (simp only [putAll, Act.put, sA, sB, sC]; rfl)) (hJ11 (gG1) _ ⟨hHeld, (kX BKG1.out), GWG1.out, GEG1.out, (by repeat (first | (with_reducible first | exact HB.out | apply lA | apply lN | apply lD | refine lS ?_ GEG1.out) | exact HB.out))⟩)
             ·skip
              refine box_step ?hg (N := 8) ?hd (cs := #[.int .i64 0, .int .i64 0]) (t := 31) ?hr ?_; (case hd => rfl); (case hg => rfl); (case hr => first | (go_simp; done) | (go_simp; rfl))
              intro gG2 hg w8 hbox hb
              have n0_ := Aside0.mk (below_step (by repeat (first | (with_reducible first | exact HB.out | apply lA | apply lN | apply lD) | exact HB.out)) hb)
              have n1_ := Aside0.mk (hbox)
              have n2_ := Aside0.mk ((by rw [hg]; exact (below_size (by repeat (first | (with_reducible first | exact HB.out | apply lA | apply lN | apply lD) | exact HB.out))) : w.heap.size ≤ gG2))
              have n3_ := Aside0.mk ((by rw [hg]; exact (below_size (by repeat (first | (with_reducible first | exact HB.out | apply lA | apply lN | apply lD) | exact HB.out))) : w.heap.size ≤ gG2))
              clear HB
              have HB := n0_
              have BKG2 := n1_
              have GWG2 := n2_
              have GEG2 := n3_
              clear n0_ n1_ n2_ n3_
              clear hb hbox hg
              refine hK.out _ _ ⟨(cB HB.out hw_p0), (cB HB.out hw_p1), (cB HB.out hw_q0), (cB HB.out hw_q1)⟩ (fun hHeld => ?_)
              clear hK K
              refine norm_ (a' := ?_) ?_ ?_
              rotate_left
              ·show Act.put _ (some 8) _ = _
               simp only [Act.put, sA, sB, sC, i64_w, i32_w]
               rfl
              exact norm_ (by first | (simp only [putAll, Act.put, sA, sB, sC]; done) | (simp only [putAll, Act.put, sA, sB, sC]; rfl)) (hJ12 (gG2) _ ⟨hHeld, (kX BKG2.out), GWG2.out, GEG2.out, (by repeat (first | (with_reducible first | exact HB.out | apply lA | apply lN | apply lD | refine lS ?_ GEG2.out) | exact HB.out))⟩)
            ·skip
             rintro gG2 w9 ⟨hS_, h0_, h1_, h2_, h3_⟩
             have n0_ : Aside0 (w9.heap[gG2]? = some (.cells #[.int .i64 0, .int .i64 0] 31 (0, 0))) := ⟨h0_⟩
             have n1_ : Aside0 (w.heap.size ≤ gG2) := ⟨h1_⟩
             have n2_ : Aside0 (w.heap.size ≤ gG2) := ⟨h2_⟩
             have n3_ : Aside0 (Below w.heap.size w w9) := ⟨h3_⟩
             clear HB
             clear h0_ h1_ h2_ h3_
             have BKG2 := n0_
             have GWG2 := n1_
             have GEG2 := n2_
             have HB := n3_
             clear n0_ n1_ n2_ n3_
             have hHeld : w9.cell? (ad.add (k * 2)) = some (.int .i64 (a.f0)) ∧ w9.cell? ⟨(ad.add (k * 2)).block, (ad.add (k * 2)).off + 1, none⟩ = some (.int .i64 (a.f1)) ∧ w9.cell? (ad.add (n * 2)) = some (.int .i64 (b.f0)) ∧ w9.cell? ⟨(ad.add (n * 2)).block, (ad.add (n * 2)).off + 1, none⟩ = some (.int .i64 (b.f1)) := hS_
             refine norm_ (a' := ?_) ?_ ?_
             rotate_left
             ·simp only [putAll, Act.put, sA, sB, sC]
              rfl
             refine two_ (i := 8) (j := 11) (Ni := some 23) (Nj := some 7) (Br [9,3,1,2]) (Br [8,3,2,2]) rfl rfl rfl rfl (two_of HT_.out (by kernel_rfl)) (by decide) (by decide) (fun K hK => ?_) (fun K hK => ?_)
             ·skip
              refine goes_ Try.func54 (by kernel_rfl) rfl #[.int .i64 ((k : Nat) : Int), .int .i64 (l0.length : Int)] (by rfl) rfl rfl (by (try simp only [List.map_toArray, List.map_cons, List.map_nil]); first | done | rfl | (simp only [List.length_drop, List.length_take]; rfl)) ?_
              with_reducible refine (silversideref01_next.calls ((k : Nat) : Int) (l0.length : Int) ((n : Nat) : Int) _ HNX.out).mono ?_
              rintro e w' ⟨rfl, ⟨nd, rfl⟩⟩
              refine ⟨_, rfl, ?_⟩
              refine hK.out _ _ ⟨(cB HB.out hw_p0), (cB HB.out hw_p1), (cB HB.out hw_q0), (cB HB.out hw_q1)⟩ (fun hHeld => ?_)
              clear hK K
              refine norm_ (a' := ?_) ?_ ?_
              rotate_left
              ·show Act.put _ (some 23) _ = _
               simp only [Act.put, sA, sB, sC, i64_w, i32_w]
               rfl
              refine pure_ (i := 9) (N := some 24) (v := ?_) (a' := ?_) (Br [10,2,1,2]) rfl rfl (any_of HT_.out (by kernel_rfl)) (fun _ _ _ h => h) (Or.inl ⟨by rfl, ?_⟩) ?_ ?_; rotate_left
              ·intro w'; go_simp; with_reducible rfl
              rotate_left
              ·simp only [Act.put, sA, sB, sC, i64_w, i32_w]; rfl
              refine take_ (i := 10) (N := some 25) (v := ?_) (a' := ?_) (Br [11,1,1,2]) rfl rfl (take_ofW HT_.out HW_.out (by kernel_rfl)) (fun _ _ _ h => h) (Or.inl ⟨by rfl, ?_⟩) hHeld ?_ ?_; rotate_left
              ·rintro w' ⟨s0, s1, s2, s3⟩; go_simp; with_reducible rfl
              rotate_left
              ·simp only [Act.put, sA, sB, sC, i64_w, i32_w]; rfl
              exact norm_ (by first | (simp only [putAll, Act.put, sA, sB, sC]; done) | (simp only [putAll, Act.put, sA, sB, sC]; rfl)) (hJ8_12 (gG2) _ ⟨hHeld, (kX BKG2.out), GWG2.out, GEG2.out, (by repeat (first | (with_reducible first | exact HB.out | apply lA | apply lN | apply lD | refine lS ?_ GEG2.out) | exact HB.out))⟩)
             ·skip
              refine box_step ?hg (N := 7) ?hd (cs := #[.int .i64 0, .int .i64 0]) (t := 31) ?hr ?_; (case hd => rfl); (case hg => rfl); (case hr => first | (go_simp; done) | (go_simp; rfl))
              intro gG1 hg wE hbox hb
              have n0_ := Aside0.mk (blk_below (g := gG2) (o := .cells #[.int .i64 0, .int .i64 0] 31 (0, 0)) (kX BKG2.out) hb)
              have n1_ := Aside0.mk (below_step (by repeat (first | (with_reducible first | exact HB.out | apply lA | apply lN | apply lD | refine lS ?_ GEG2.out) | exact HB.out)) hb)
              have n2_ := Aside0.mk (hbox)
              have n3_ := Aside0.mk ((by rw [hg]; exact (below_size (by repeat (first | (with_reducible first | exact HB.out | apply lA | apply lN | apply lD | refine lS ?_ GEG2.out) | exact HB.out))) : w.heap.size ≤ gG1))
              have n4_ := Aside0.mk ((by rw [hg]; exact (below_size (by repeat (first | (with_reducible first | exact HB.out | apply lA | apply lN | apply lD | refine lS ?_ GEG2.out) | exact HB.out))) : w.heap.size ≤ gG1))
              have n5_ := Aside0.mk ((by rw [hg]; exact Nat.ne_of_lt (blk_lt (g := gG2) (o := .cells #[.int .i64 0, .int .i64 0] 31 (0, 0)) (kX BKG2.out)) : gG2 ≠ gG1))
              have n6_ := Aside0.mk ((by rw [hg]; exact Nat.ne_of_gt (blk_lt (g := gG2) (o := .cells #[.int .i64 0, .int .i64 0] 31 (0, 0)) (kX BKG2.out)) : gG1 ≠ gG2))
              clear BKG2
              clear HB
              have BKG2 := n0_
              have HB := n1_
              have BKG1 := n2_
              have GWG1 := n3_
              have GEG1 := n4_
              have NB21 := n5_
              have NB12 := n6_
              clear n0_ n1_ n2_ n3_ n4_ n5_ n6_
              clear hb hbox hg
              refine hK.out _ _ ⟨(cB HB.out hw_p0), (cB HB.out hw_p1), (cB HB.out hw_q0), (cB HB.out hw_q1)⟩ (fun hHeld => ?_)
              clear hK K
              refine norm_ (a' := ?_) ?_ ?_
              rotate_left
              ·show Act.put _ (some 7) _ = _
               simp only [Act.put, sA, sB, sC, i64_w, i32_w]
               rfl
              exact norm_ (by first | (simp only [putAll, Act.put, sA, sB, sC]; done) | (simp only [putAll, Act.put, sA, sB, sC]; rfl)) (hJ11_12 (gG1, gG2) _ ⟨hHeld, (kX BKG1.out), (kX BKG2.out), GWG1.out, GEG1.out, NB21.out, NB12.out, GWG2.out, GEG2.out, (by repeat (first | (with_reducible first | exact HB.out | apply lA | apply lN | apply lD | refine lS ?_ GEG2.out | refine lS ?_ GEG1.out) | exact HB.out))⟩)
           ·skip
            rintro gG1 w9 ⟨hS_, h0_, h1_, h2_, h3_⟩
            have n0_ : Aside0 (w9.heap[gG1]? = some (.cells #[.int .i64 0, .int .i64 0] 31 (0, 0))) := ⟨h0_⟩
            have n1_ : Aside0 (w.heap.size ≤ gG1) := ⟨h1_⟩
            have n2_ : Aside0 (w.heap.size ≤ gG1) := ⟨h2_⟩
            have n3_ : Aside0 (Below w.heap.size w w9) := ⟨h3_⟩
            clear HB
            clear h0_ h1_ h2_ h3_
            have BKG1 := n0_
            have GWG1 := n1_
            have GEG1 := n2_
            have HB := n3_
            clear n0_ n1_ n2_ n3_
            have hHeld : w9.cell? (ad.add (k * 2)) = some (.int .i64 (a.f0)) ∧ w9.cell? ⟨(ad.add (k * 2)).block, (ad.add (k * 2)).off + 1, none⟩ = some (.int .i64 (a.f1)) ∧ w9.cell? (ad.add (n * 2)) = some (.int .i64 (b.f0)) ∧ w9.cell? ⟨(ad.add (n * 2)).block, (ad.add (n * 2)).off + 1, none⟩ = some (.int .i64 (b.f1)) := hS_
            refine norm_ (a' := ?_) ?_ ?_
            rotate_left
            ·simp only [putAll, Act.put, sA, sB, sC]
             rfl
            refine two_ (i := 8) (j := 12) (Ni := some 23) (Nj := some 8) (Br [9,2,1,3]) (Br [8,3,2,2]) rfl rfl rfl rfl (two_of HT_.out (by kernel_rfl)) (by decide) (by decide) (fun K hK => ?_) (fun K hK => ?_)
            ·skip
             refine goes_ Try.func54 (by kernel_rfl) rfl #[.int .i64 ((k : Nat) : Int), .int .i64 (l0.length : Int)] (by rfl) rfl rfl (by (try simp only [List.map_toArray, List.map_cons, List.map_nil]); first | done | rfl | (simp only [List.length_drop, List.length_take]; rfl)) ?_
             with_reducible refine (silversideref01_next.calls ((k : Nat) : Int) (l0.length : Int) ((n : Nat) : Int) _ HNX.out).mono ?_
             rintro e w' ⟨rfl, ⟨nd, rfl⟩⟩
             refine ⟨_, rfl, ?_⟩
             refine hK.out _ _ ⟨(cB HB.out hw_p0), (cB HB.out hw_p1), (cB HB.out hw_q0), (cB HB.out hw_q1)⟩ (fun hHeld => ?_)
             clear hK K
             refine norm_ (a' := ?_) ?_ ?_
             rotate_left
             ·show Act.put _ (some 23) _ = _
              simp only [Act.put, sA, sB, sC, i64_w, i32_w]
              rfl
             refine pure_ (i := 9) (N := some 24) (v := ?_) (a' := ?_) (Br [10,1,1,3]) rfl rfl (any_of HT_.out (by kernel_rfl)) (fun _ _ _ h => h) (Or.inl ⟨by rfl, ?_⟩) ?_ ?_; rotate_left
             ·intro w'; go_simp; with_reducible rfl
             rotate_left
             ·simp only [Act.put, sA, sB, sC, i64_w, i32_w]; rfl
             refine take_ (i := 10) (N := some 25) (v := ?_) (a' := ?_) (Bs 12 15) rfl rfl (take_ofW HT_.out HW_.out (by kernel_rfl)) (fun _ _ _ h => h) (Or.inl ⟨by rfl, ?_⟩) hHeld ?_ ?_; rotate_left
             ·rintro w' ⟨s0, s1, s2, s3⟩; go_simp; with_reducible rfl
             rotate_left
             ·simp only [Act.put, sA, sB, sC, i64_w, i32_w]; rfl
             exact norm_ (by first | (simp only [putAll, Act.put, sA, sB, sC]; done) | (simp only [putAll, Act.put, sA, sB, sC]; rfl)) (hJ8_11 (gG1) _ ⟨hHeld, (kX BKG1.out), GWG1.out, GEG1.out, (by repeat (first | (with_reducible first | exact HB.out | apply lA | apply lN | apply lD | refine lS ?_ GEG1.out) | exact HB.out))⟩)
            ·skip
             refine box_step ?hg (N := 8) ?hd (cs := #[.int .i64 0, .int .i64 0]) (t := 31) ?hr ?_; (case hd => rfl); (case hg => rfl); (case hr => first | (go_simp; done) | (go_simp; rfl))
             intro gG2 hg wE hbox hb
             have n0_ := Aside0.mk (blk_below (g := gG1) (o := .cells #[.int .i64 0, .int .i64 0] 31 (0, 0)) (kX BKG1.out) hb)
             have n1_ := Aside0.mk (below_step (by repeat (first | (with_reducible first | exact HB.out | apply lA | apply lN | apply lD | refine lS ?_ GEG1.out) | exact HB.out)) hb)
             have n2_ := Aside0.mk (hbox)
             have n3_ := Aside0.mk ((by rw [hg]; exact (below_size (by repeat (first | (with_reducible first | exact HB.out | apply lA | apply lN | apply lD | refine lS ?_ GEG1.out) | exact HB.out))) : w.heap.size ≤ gG2))
             have n4_ := Aside0.mk ((by rw [hg]; exact (below_size (by repeat (first | (with_reducible first | exact HB.out | apply lA | apply lN | apply lD | refine lS ?_ GEG1.out) | exact HB.out))) : w.heap.size ≤ gG2))
             have n5_ := Aside0.mk ((by rw [hg]; exact Nat.ne_of_lt (blk_lt (g := gG1) (o := .cells #[.int .i64 0, .int .i64 0] 31 (0, 0)) (kX BKG1.out)) : gG1 ≠ gG2))
             have n6_ := Aside0.mk ((by rw [hg]; exact Nat.ne_of_gt (blk_lt (g := gG1) (o := .cells #[.int .i64 0, .int .i64 0] 31 (0, 0)) (kX BKG1.out)) : gG2 ≠ gG1))
             clear BKG1
             clear HB
             have BKG1 := n0_
             have HB := n1_
             have BKG2 := n2_
             have GWG2 := n3_
             have GEG2 := n4_
             have NB12 := n5_
             have NB21 := n6_
             clear n0_ n1_ n2_ n3_ n4_ n5_ n6_
             clear hb hbox hg
             refine hK.out _ _ ⟨(cB HB.out hw_p0), (cB HB.out hw_p1), (cB HB.out hw_q0), (cB HB.out hw_q1)⟩ (fun hHeld => ?_)
             clear hK K
             refine norm_ (a' := ?_) ?_ ?_
             rotate_left
             ·show Act.put _ (some 8) _ = _
              simp only [Act.put, sA, sB, sC, i64_w, i32_w]
              rfl
             exact norm_ (by first | (simp only [putAll, Act.put, sA, sB, sC]; done) | (simp only [putAll, Act.put, sA, sB, sC]; rfl)) (hJ11_12 (gG1, gG2) _ ⟨hHeld, (kX BKG1.out), (kX BKG2.out), GWG1.out, GEG1.out, NB21.out, NB12.out, GWG2.out, GEG2.out, (by repeat (first | (with_reducible first | exact HB.out | apply lA | apply lN | apply lD | refine lS ?_ GEG1.out | refine lS ?_ GEG2.out) | exact HB.out))⟩)
          ·skip
           rintro _ w8 ⟨hS_, h0_⟩
           have n0_ : Aside0 (Below w.heap.size w w8) := ⟨h0_⟩
           clear HB
           clear h0_
           have HB := n0_
           clear n0_
           have hHeld : w8.cell? (ad.add (k * 2)) = some (.int .i64 (a.f0)) ∧ w8.cell? ⟨(ad.add (k * 2)).block, (ad.add (k * 2)).off + 1, none⟩ = some (.int .i64 (a.f1)) ∧ w8.cell? (ad.add (n * 2)) = some (.int .i64 (b.f0)) ∧ w8.cell? ⟨(ad.add (n * 2)).block, (ad.add (n * 2)).off + 1, none⟩ = some (.int .i64 (b.f1)) := hS_
           refine norm_ (a' := ?_) ?_ ?_
           rotate_left
           ·simp only [putAll, Act.put, sA, sB, sC]
            rfl
           refine two_ (i := 11) (j := 12) (Ni := some 7) (Nj := some 8) (Bs 12 15) (Br [11,1,1,2]) rfl rfl rfl rfl (two_of HT_.out (by kernel_rfl)) (by decide) (by decide) (fun K hK => ?_) (fun K hK => ?_)
           ·skip
            refine box_step ?hg (N := 7) ?hd (cs := #[.int .i64 0, .int .i64 0]) (t := 31) ?hr ?_; (case hd => rfl); (case hg => rfl); (case hr => first | (go_simp; done) | (go_simp; rfl))
            intro gG1 hg w9 hbox hb
            have n0_ := Aside0.mk (below_step (by repeat (first | (with_reducible first | exact HB.out | apply lA | apply lN | apply lD) | exact HB.out)) hb)
            have n1_ := Aside0.mk (hbox)
            have n2_ := Aside0.mk ((by rw [hg]; exact (below_size (by repeat (first | (with_reducible first | exact HB.out | apply lA | apply lN | apply lD) | exact HB.out))) : w.heap.size ≤ gG1))
            have n3_ := Aside0.mk ((by rw [hg]; exact (below_size (by repeat (first | (with_reducible first | exact HB.out | apply lA | apply lN | apply lD) | exact HB.out))) : w.heap.size ≤ gG1))
            clear HB
            have HB := n0_
            have BKG1 := n1_
            have GWG1 := n2_
            have GEG1 := n3_
            clear n0_ n1_ n2_ n3_
            clear hb hbox hg
            refine hK.out _ _ ⟨(cB HB.out hw_p0), (cB HB.out hw_p1), (cB HB.out hw_q0), (cB HB.out hw_q1)⟩ (fun hHeld => ?_)
            clear hK K
            refine norm_ (a' := ?_) ?_ ?_
            rotate_left
            ·show Act.put _ (some 7) _ = _
             simp only [Act.put, sA, sB, sC, i64_w, i32_w]
             rfl
            exact norm_ (by first | (simp only [putAll, Act.put, sA, sB, sC]; done) | (simp only [putAll, Act.put, sA, sB, sC]; rfl)) (hJ8_11 (gG1) _ ⟨hHeld, (kX BKG1.out), GWG1.out, GEG1.out, (by repeat (first | (with_reducible first | exact HB.out | apply lA | apply lN | apply lD | refine lS ?_ GEG1.out) | exact HB.out))⟩)
           ·skip
            refine box_step ?hg (N := 8) ?hd (cs := #[.int .i64 0, .int .i64 0]) (t := 31) ?hr ?_; (case hd => rfl); (case hg => rfl); (case hr => first | (go_simp; done) | (go_simp; rfl))
            intro gG2 hg w9 hbox hb
            have n0_ := Aside0.mk (below_step (by repeat (first | (with_reducible first | exact HB.out | apply lA | apply lN | apply lD) | exact HB.out)) hb)
            have n1_ := Aside0.mk (hbox)
            have n2_ := Aside0.mk ((by rw [hg]; exact (below_size (by repeat (first | (with_reducible first | exact HB.out | apply lA | apply lN | apply lD) | exact HB.out))) : w.heap.size ≤ gG2))
            have n3_ := Aside0.mk ((by rw [hg]; exact (below_size (by repeat (first | (with_reducible first | exact HB.out | apply lA | apply lN | apply lD) | exact HB.out))) : w.heap.size ≤ gG2))
            clear HB
            have HB := n0_
            have BKG2 := n1_
            have GWG2 := n2_
            have GEG2 := n3_
            clear n0_ n1_ n2_ n3_
            clear hb hbox hg
            refine hK.out _ _ ⟨(cB HB.out hw_p0), (cB HB.out hw_p1), (cB HB.out hw_q0), (cB HB.out hw_q1)⟩ (fun hHeld => ?_)
            clear hK K
            refine norm_ (a' := ?_) ?_ ?_
            rotate_left
            ·show Act.put _ (some 8) _ = _
             simp only [Act.put, sA, sB, sC, i64_w, i32_w]
             rfl
            exact norm_ (by first | (simp only [putAll, Act.put, sA, sB, sC]; done) | (simp only [putAll, Act.put, sA, sB, sC]; rfl)) (hJ8_12 (gG2) _ ⟨hHeld, (kX BKG2.out), GWG2.out, GEG2.out, (by repeat (first | (with_reducible first | exact HB.out | apply lA | apply lN | apply lD | refine lS ?_ GEG2.out) | exact HB.out))⟩)
         ·skip
          rintro ⟨gG1, gG2⟩ wE ⟨hS_, h0_, h1_, h2_, h3_, h4_, h5_, h6_, h7_, h8_⟩
          have n0_ : Aside0 (wE.heap[gG1]? = some (.cells #[.int .i64 0, .int .i64 0] 31 (0, 0))) := ⟨h0_⟩
          have n1_ : Aside0 (wE.heap[gG2]? = some (.cells #[.int .i64 0, .int .i64 0] 31 (0, 0))) := ⟨h1_⟩
          have n2_ : Aside0 (w.heap.size ≤ gG1) := ⟨h2_⟩
          have n3_ : Aside0 (w.heap.size ≤ gG1) := ⟨h3_⟩
          have n4_ : Aside0 (gG2 ≠ gG1) := ⟨h4_⟩
          have n5_ : Aside0 (gG1 ≠ gG2) := ⟨h5_⟩
          have n6_ : Aside0 (w.heap.size ≤ gG2) := ⟨h6_⟩
          have n7_ : Aside0 (w.heap.size ≤ gG2) := ⟨h7_⟩
          have n8_ : Aside0 (Below w.heap.size w wE) := ⟨h8_⟩
          clear HB
          clear h0_ h1_ h2_ h3_ h4_ h5_ h6_ h7_ h8_
          have BKG1 := n0_
          have BKG2 := n1_
          have GWG1 := n2_
          have GEG1 := n3_
          have NB21 := n4_
          have NB12 := n5_
          have GWG2 := n6_
          have GEG2 := n7_
          have HB := n8_
          clear n0_ n1_ n2_ n3_ n4_ n5_ n6_ n7_ n8_
          have hHeld : wE.cell? (ad.add (k * 2)) = some (.int .i64 (a.f0)) ∧ wE.cell? ⟨(ad.add (k * 2)).block, (ad.add (k * 2)).off + 1, none⟩ = some (.int .i64 (a.f1)) ∧ wE.cell? (ad.add (n * 2)) = some (.int .i64 (b.f0)) ∧ wE.cell? ⟨(ad.add (n * 2)).block, (ad.add (n * 2)).off + 1, none⟩ = some (.int .i64 (b.f1)) := hS_
          refine norm_ (a' := ?_) ?_ ?_
          rotate_left
          ·simp only [putAll, Act.put, sA, sB, sC]
           rfl
          refine one_ (i := 8) (N := some 23) (Br [9,2,2,2]) rfl rfl (one_of HT_.out (by kernel_rfl)) (by decide) (fun K hK => ?_)
          refine goes_ Try.func54 (by kernel_rfl) rfl #[.int .i64 ((k : Nat) : Int), .int .i64 (l0.length : Int)] (by rfl) rfl rfl (by (try simp only [List.map_toArray, List.map_cons, List.map_nil]); first | done | rfl | (simp only [List.length_drop, List.length_take]; rfl)) ?_
          with_reducible refine (silversideref01_next.calls ((k : Nat) : Int) (l0.length : Int) ((n : Nat) : Int) _ HNX.out).mono ?_
          rintro e w' ⟨rfl, ⟨nd, rfl⟩⟩
          refine ⟨_, rfl, ?_⟩
          refine hK.out _ _ ⟨(cB HB.out hw_p0), (cB HB.out hw_p1), (cB HB.out hw_q0), (cB HB.out hw_q1)⟩ (fun hHeld => ?_)
          clear hK K
          refine norm_ (a' := ?_) ?_ ?_
          rotate_left
          ·show Act.put _ (some 23) _ = _
           simp only [Act.put, sA, sB, sC, i64_w, i32_w]
           rfl
          refine pure_ (i := 9) (N := some 24) (v := ?_) (a' := ?_) (Br [10,1,2,2]) rfl rfl (any_of HT_.out (by kernel_rfl)) (fun _ _ _ h => h) (Or.inl ⟨by rfl, ?_⟩) ?_ ?_; rotate_left
          ·intro w'; go_simp; with_reducible rfl
          rotate_left
          ·simp only [Act.put, sA, sB, sC, i64_w, i32_w]; rfl
          refine take_ (i := 10) (N := some 25) (v := ?_) (a' := ?_) (Bs 13 15) rfl rfl (take_ofW HT_.out HW_.out (by kernel_rfl)) (fun _ _ _ h => h) (Or.inl ⟨by rfl, ?_⟩) hHeld ?_ ?_; rotate_left
          ·rintro w' ⟨s0, s1, s2, s3⟩; go_simp; with_reducible rfl
          rotate_left
          ·simp only [Act.put, sA, sB, sC, i64_w, i32_w]; rfl
          exact norm_ (by first | (simp only [putAll, Act.put, sA, sB, sC]; done) | (simp only [putAll, Act.put, sA, sB, sC]; rfl)) (hJ8_11_12 (gG1, gG2) _ ⟨hHeld, (kX BKG1.out), (kX BKG2.out), GWG1.out, GEG1.out, NB21.out, NB12.out, GWG2.out, GEG2.out, (by repeat (first | (with_reducible first | exact HB.out | apply lA | apply lN | apply lD | refine lS ?_ GEG1.out | refine lS ?_ GEG2.out) | exact HB.out))⟩)
        ·skip
         rintro gG2 w9 ⟨hS_, h0_, h1_, h2_, h3_⟩
         have n0_ : Aside0 (w9.heap[gG2]? = some (.cells #[.int .i64 0, .int .i64 0] 31 (0, 0))) := ⟨h0_⟩
         have n1_ : Aside0 (w.heap.size ≤ gG2) := ⟨h1_⟩
         have n2_ : Aside0 (w.heap.size ≤ gG2) := ⟨h2_⟩
         have n3_ : Aside0 (Below w.heap.size w w9) := ⟨h3_⟩
         clear HB
         clear h0_ h1_ h2_ h3_
         have BKG2 := n0_
         have GWG2 := n1_
         have GEG2 := n2_
         have HB := n3_
         clear n0_ n1_ n2_ n3_
         have hHeld : w9.cell? (ad.add (k * 2)) = some (.int .i64 (a.f0)) ∧ w9.cell? ⟨(ad.add (k * 2)).block, (ad.add (k * 2)).off + 1, none⟩ = some (.int .i64 (a.f1)) ∧ w9.cell? (ad.add (n * 2)) = some (.int .i64 (b.f0)) ∧ w9.cell? ⟨(ad.add (n * 2)).block, (ad.add (n * 2)).off + 1, none⟩ = some (.int .i64 (b.f1)) := hS_
         refine norm_ (a' := ?_) ?_ ?_
         rotate_left
         ·simp only [putAll, Act.put, sA, sB, sC]
          rfl
         refine one_ (i := 11) (N := some 7) (Bs 13 15) rfl rfl (one_of HT_.out (by kernel_rfl)) (by decide) (fun K hK => ?_)
         refine box_step ?hg (N := 7) ?hd (cs := #[.int .i64 0, .int .i64 0]) (t := 31) ?hr ?_; (case hd => rfl); (case hg => rfl); (case hr => first | (go_simp; done) | (go_simp; rfl))
         intro gG1 hg wE hbox hb
         have n0_ := Aside0.mk (blk_below (g := gG2) (o := .cells #[.int .i64 0, .int .i64 0] 31 (0, 0)) (kX BKG2.out) hb)
         have n1_ := Aside0.mk (below_step (by repeat (first | (with_reducible first | exact HB.out | apply lA | apply lN | apply lD | refine lS ?_ GEG2.out) | exact HB.out)) hb)
         have n2_ := Aside0.mk (hbox)
         have n3_ := Aside0.mk ((by rw [hg]; exact (below_size (by repeat (first | (with_reducible first | exact HB.out | apply lA | apply lN | apply lD | refine lS ?_ GEG2.out) | exact HB.out))) : w.heap.size ≤ gG1))
         have n4_ := Aside0.mk ((by rw [hg]; exact (below_size (by repeat (first | (with_reducible first | exact HB.out | apply lA | apply lN | apply lD | refine lS ?_ GEG2.out) | exact HB.out))) : w.heap.size ≤ gG1))
         have n5_ := Aside0.mk ((by rw [hg]; exact Nat.ne_of_lt (blk_lt (g := gG2) (o := .cells #[.int .i64 0, .int .i64 0] 31 (0, 0)) (kX BKG2.out)) : gG2 ≠ gG1))
         have n6_ := Aside0.mk ((by rw [hg]; exact Nat.ne_of_gt (blk_lt (g := gG2) (o := .cells #[.int .i64 0, .int .i64 0] 31 (0, 0)) (kX BKG2.out)) : gG1 ≠ gG2))
         clear BKG2
         clear HB
         have BKG2 := n0_
         have HB := n1_
         have BKG1 := n2_
         have GWG1 := n3_
         have GEG1 := n4_
         have NB21 := n5_
         have NB12 := n6_
         clear n0_ n1_ n2_ n3_ n4_ n5_ n6_
         clear hb hbox hg
         refine hK.out _ _ ⟨(cB HB.out hw_p0), (cB HB.out hw_p1), (cB HB.out hw_q0), (cB HB.out hw_q1)⟩ (fun hHeld => ?_)
         clear hK K
         refine norm_ (a' := ?_) ?_ ?_
         rotate_left
         ·show Act.put _ (some 7) _ = _
          simp only [Act.put, sA, sB, sC, i64_w, i32_w]
          rfl
         exact norm_ (by first | (simp only [putAll, Act.put, sA, sB, sC]; done) | (simp only [putAll, Act.put, sA, sB, sC]; rfl)) (hJ8_11_12 (gG1, gG2) _ ⟨hHeld, (kX BKG1.out), (kX BKG2.out), GWG1.out, GEG1.out, NB21.out, NB12.out, GWG2.out, GEG2.out, (by repeat (first | (with_reducible first | exact HB.out | apply lA | apply lN | apply lD | refine lS ?_ GEG2.out | refine lS ?_ GEG1.out) | exact HB.out))⟩)
       ·skip
        rintro gG1 w9 ⟨hS_, h0_, h1_, h2_, h3_⟩
        have n0_ : Aside0 (w9.heap[gG1]? = some (.cells #[.int .i64 0, .int .i64 0] 31 (0, 0))) := ⟨h0_⟩
        have n1_ : Aside0 (w.heap.size ≤ gG1) := ⟨h1_⟩
        have n2_ : Aside0 (w.heap.size ≤ gG1) := ⟨h2_⟩
        have n3_ : Aside0 (Below w.heap.size w w9) := ⟨h3_⟩
        clear HB
        clear h0_ h1_ h2_ h3_
        have BKG1 := n0_
        have GWG1 := n1_
        have GEG1 := n2_
        have HB := n3_
        clear n0_ n1_ n2_ n3_
        have hHeld : w9.cell? (ad.add (k * 2)) = some (.int .i64 (a.f0)) ∧ w9.cell? ⟨(ad.add (k * 2)).block, (ad.add (k * 2)).off + 1, none⟩ = some (.int .i64 (a.f1)) ∧ w9.cell? (ad.add (n * 2)) = some (.int .i64 (b.f0)) ∧ w9.cell? ⟨(ad.add (n * 2)).block, (ad.add (n * 2)).off + 1, none⟩ = some (.int .i64 (b.f1)) := hS_
        refine norm_ (a' := ?_) ?_ ?_
        rotate_left
        ·simp only [putAll, Act.put, sA, sB, sC]
         rfl
        refine one_ (i := 12) (N := some 8) (Bs 13 15) rfl rfl (one_of HT_.out (by kernel_rfl)) (by decide) (fun K hK => ?_)
        refine box_step ?hg (N := 8) ?hd (cs := #[.int .i64 0, .int .i64 0]) (t := 31) ?hr ?_; (case hd => rfl); (case hg => rfl); (case hr => first | (go_simp; done) | (go_simp; rfl))
        intro gG2 hg wE hbox hb
        have n0_ := Aside0.mk (blk_below (g := gG1) (o := .cells #[.int .i64 0, .int .i64 0] 31 (0, 0)) (kX BKG1.out) hb)
        have n1_ := Aside0.mk (below_step (by repeat (first | (with_reducible first | exact HB.out | apply lA | apply lN | apply lD | refine lS ?_ GEG1.out) | exact HB.out)) hb)
        have n2_ := Aside0.mk (hbox)
        have n3_ := Aside0.mk ((by rw [hg]; exact (below_size (by repeat (first | (with_reducible first | exact HB.out | apply lA | apply lN | apply lD | refine lS ?_ GEG1.out) | exact HB.out))) : w.heap.size ≤ gG2))
        have n4_ := Aside0.mk ((by rw [hg]; exact (below_size (by repeat (first | (with_reducible first | exact HB.out | apply lA | apply lN | apply lD | refine lS ?_ GEG1.out) | exact HB.out))) : w.heap.size ≤ gG2))
        have n5_ := Aside0.mk ((by rw [hg]; exact Nat.ne_of_lt (blk_lt (g := gG1) (o := .cells #[.int .i64 0, .int .i64 0] 31 (0, 0)) (kX BKG1.out)) : gG1 ≠ gG2))
        have n6_ := Aside0.mk ((by rw [hg]; exact Nat.ne_of_gt (blk_lt (g := gG1) (o := .cells #[.int .i64 0, .int .i64 0] 31 (0, 0)) (kX BKG1.out)) : gG2 ≠ gG1))
        clear BKG1
        clear HB
        have BKG1 := n0_
        have HB := n1_
        have BKG2 := n2_
        have GWG2 := n3_
        have GEG2 := n4_
        have NB12 := n5_
        have NB21 := n6_
        clear n0_ n1_ n2_ n3_ n4_ n5_ n6_
        clear hb hbox hg
        refine hK.out _ _ ⟨(cB HB.out hw_p0), (cB HB.out hw_p1), (cB HB.out hw_q0), (cB HB.out hw_q1)⟩ (fun hHeld => ?_)
        clear hK K
        refine norm_ (a' := ?_) ?_ ?_
        rotate_left
        ·show Act.put _ (some 8) _ = _
         simp only [Act.put, sA, sB, sC, i64_w, i32_w]
         rfl
        exact norm_ (by first | (simp only [putAll, Act.put, sA, sB, sC]; done) | (simp only [putAll, Act.put, sA, sB, sC]; rfl)) (hJ8_11_12 (gG1, gG2) _ ⟨hHeld, (kX BKG1.out), (kX BKG2.out), GWG1.out, GEG1.out, NB21.out, NB12.out, GWG2.out, GEG2.out, (by repeat (first | (with_reducible first | exact HB.out | apply lA | apply lN | apply lD | refine lS ?_ GEG1.out | refine lS ?_ GEG2.out) | exact HB.out))⟩)
      rintro ⟨gG1, gG2⟩ wE ⟨hS_, h0_, h1_, h2_, h3_, h4_, h5_, h6_, h7_, h8_⟩
      have n0_ : Aside0 (wE.heap[gG1]? = some (.cells #[.int .i64 0, .int .i64 0] 31 (0, 0))) := ⟨h0_⟩
      have n1_ : Aside0 (wE.heap[gG2]? = some (.cells #[.int .i64 0, .int .i64 0] 31 (0, 0))) := ⟨h1_⟩
      have n2_ : Aside0 (w.heap.size ≤ gG1) := ⟨h2_⟩
      have n3_ : Aside0 (w.heap.size ≤ gG1) := ⟨h3_⟩
      have n4_ : Aside0 (gG2 ≠ gG1) := ⟨h4_⟩
      have n5_ : Aside0 (gG1 ≠ gG2) := ⟨h5_⟩
      have n6_ : Aside0 (w.heap.size ≤ gG2) := ⟨h6_⟩
      have n7_ : Aside0 (w.heap.size ≤ gG2) := ⟨h7_⟩
      have n8_ : Aside0 (Below w.heap.size w wE) := ⟨h8_⟩
      clear HB
      clear h0_ h1_ h2_ h3_ h4_ h5_ h6_ h7_ h8_
      have BKG1 := n0_
      have BKG2 := n1_
      have GWG1 := n2_
      have GEG1 := n3_
      have NB21 := n4_
      have NB12 := n5_
      have GWG2 := n6_
      have GEG2 := n7_
      have HB := n8_
      clear n0_ n1_ n2_ n3_ n4_ n5_ n6_ n7_ n8_
      have hHeld : wE.cell? (ad.add (k * 2)) = some (.int .i64 (a.f0)) ∧ wE.cell? ⟨(ad.add (k * 2)).block, (ad.add (k * 2)).off + 1, none⟩ = some (.int .i64 (a.f1)) ∧ wE.cell? (ad.add (n * 2)) = some (.int .i64 (b.f0)) ∧ wE.cell? ⟨(ad.add (n * 2)).block, (ad.add (n * 2)).off + 1, none⟩ = some (.int .i64 (b.f1)) := hS_
      refine norm_ (a' := ?_) ?_ ?_
      rotate_left
      ·simp only [putAll, Act.put, sA, sB, sC]
       rfl
      refine one_ (i := 13) (N := none) (Bs 14 15) rfl rfl (one_of HT_.out (by kernel_rfl)) (by decide) (fun K hK => ?_)
      have hs11 : wE.cell? ⟨gG1, 0, none⟩ = some (.int .i64 0) := (blk_cell BKG1.out 0).trans rfl
      have hfs11 := blk_frozen BKG1.out 0
      have hns11_1 := NB21.out
      have hms11_1 := NB12.out
      have hs12 : wE.cell? ⟨gG1, 1, none⟩ = some (.int .i64 0) := (blk_cell BKG1.out 1).trans rfl
      have hfs12 := blk_frozen BKG1.out 1
      have hns12_1 := NB21.out
      have hms12_1 := NB12.out
      refine skip_ (w1 := ?_) (by rfl) rfl ?_ ?_
      rotate_left
      ·go_simp
       rfl
      refine hK.out _ _ ⟨((cell_far (p := ⟨gG1, _, none⟩) (by first | exact Nat.ne_of_lt (Nat.lt_of_lt_of_le (by have := World.block_lt_of_cell? _ _ hw_p0; first | rwa [add_block] at this | exact this) GWG1.out) | (rw [add_block]; exact Nat.ne_of_lt (Nat.lt_of_lt_of_le (by have := World.block_lt_of_cell? _ _ hw_p0; first | rwa [add_block] at this | exact this) GWG1.out)) | (show (Addr.add _ _).block ≠ _; rw [add_block]; exact Nat.ne_of_lt (Nat.lt_of_lt_of_le (by have := World.block_lt_of_cell? _ _ hw_p0; first | rwa [add_block] at this | exact this) GWG1.out)) | (dsimp only; exact Nat.ne_of_lt (Nat.lt_of_lt_of_le (by have := World.block_lt_of_cell? _ _ hw_p0; first | rwa [add_block] at this | exact this) GWG1.out))) _).trans (((cell_far (p := ⟨gG1, _, none⟩) (by first | exact Nat.ne_of_lt (Nat.lt_of_lt_of_le (by have := World.block_lt_of_cell? _ _ hw_p0; first | rwa [add_block] at this | exact this) GWG1.out) | (rw [add_block]; exact Nat.ne_of_lt (Nat.lt_of_lt_of_le (by have := World.block_lt_of_cell? _ _ hw_p0; first | rwa [add_block] at this | exact this) GWG1.out)) | (show (Addr.add _ _).block ≠ _; rw [add_block]; exact Nat.ne_of_lt (Nat.lt_of_lt_of_le (by have := World.block_lt_of_cell? _ _ hw_p0; first | rwa [add_block] at this | exact this) GWG1.out)) | (dsimp only; exact Nat.ne_of_lt (Nat.lt_of_lt_of_le (by have := World.block_lt_of_cell? _ _ hw_p0; first | rwa [add_block] at this | exact this) GWG1.out))) _).trans (hHeld.1)))), ((cell_far (p := ⟨gG1, _, none⟩) (by first | exact Nat.ne_of_lt (Nat.lt_of_lt_of_le (by have := World.block_lt_of_cell? _ _ hw_p1; first | rwa [add_block] at this | exact this) GWG1.out) | (rw [add_block]; exact Nat.ne_of_lt (Nat.lt_of_lt_of_le (by have := World.block_lt_of_cell? _ _ hw_p1; first | rwa [add_block] at this | exact this) GWG1.out)) | (show (Addr.add _ _).block ≠ _; rw [add_block]; exact Nat.ne_of_lt (Nat.lt_of_lt_of_le (by have := World.block_lt_of_cell? _ _ hw_p1; first | rwa [add_block] at this | exact this) GWG1.out)) | (dsimp only; exact Nat.ne_of_lt (Nat.lt_of_lt_of_le (by have := World.block_lt_of_cell? _ _ hw_p1; first | rwa [add_block] at this | exact this) GWG1.out))) _).trans (((cell_far (p := ⟨gG1, _, none⟩) (by first | exact Nat.ne_of_lt (Nat.lt_of_lt_of_le (by have := World.block_lt_of_cell? _ _ hw_p1; first | rwa [add_block] at this | exact this) GWG1.out) | (rw [add_block]; exact Nat.ne_of_lt (Nat.lt_of_lt_of_le (by have := World.block_lt_of_cell? _ _ hw_p1; first | rwa [add_block] at this | exact this) GWG1.out)) | (show (Addr.add _ _).block ≠ _; rw [add_block]; exact Nat.ne_of_lt (Nat.lt_of_lt_of_le (by have := World.block_lt_of_cell? _ _ hw_p1; first | rwa [add_block] at this | exact this) GWG1.out)) | (dsimp only; exact Nat.ne_of_lt (Nat.lt_of_lt_of_le (by have := World.block_lt_of_cell? _ _ hw_p1; first | rwa [add_block] at this | exact this) GWG1.out))) _).trans (hHeld.2.1)))), ((cell_far (p := ⟨gG1, _, none⟩) (by first | exact Nat.ne_of_lt (Nat.lt_of_lt_of_le (by have := World.block_lt_of_cell? _ _ hw_q0; first | rwa [add_block] at this | exact this) GWG1.out) | (rw [add_block]; exact Nat.ne_of_lt (Nat.lt_of_lt_of_le (by have := World.block_lt_of_cell? _ _ hw_q0; first | rwa [add_block] at this | exact this) GWG1.out)) | (show (Addr.add _ _).block ≠ _; rw [add_block]; exact Nat.ne_of_lt (Nat.lt_of_lt_of_le (by have := World.block_lt_of_cell? _ _ hw_q0; first | rwa [add_block] at this | exact this) GWG1.out)) | (dsimp only; exact Nat.ne_of_lt (Nat.lt_of_lt_of_le (by have := World.block_lt_of_cell? _ _ hw_q0; first | rwa [add_block] at this | exact this) GWG1.out))) _).trans (((cell_far (p := ⟨gG1, _, none⟩) (by first | exact Nat.ne_of_lt (Nat.lt_of_lt_of_le (by have := World.block_lt_of_cell? _ _ hw_q0; first | rwa [add_block] at this | exact this) GWG1.out) | (rw [add_block]; exact Nat.ne_of_lt (Nat.lt_of_lt_of_le (by have := World.block_lt_of_cell? _ _ hw_q0; first | rwa [add_block] at this | exact this) GWG1.out)) | (show (Addr.add _ _).block ≠ _; rw [add_block]; exact Nat.ne_of_lt (Nat.lt_of_lt_of_le (by have := World.block_lt_of_cell? _ _ hw_q0; first | rwa [add_block] at this | exact this) GWG1.out)) | (dsimp only; exact Nat.ne_of_lt (Nat.lt_of_lt_of_le (by have := World.block_lt_of_cell? _ _ hw_q0; first | rwa [add_block] at this | exact this) GWG1.out))) _).trans (hHeld.2.2.1)))), ((cell_far (p := ⟨gG1, _, none⟩) (by first | exact Nat.ne_of_lt (Nat.lt_of_lt_of_le (by have := World.block_lt_of_cell? _ _ hw_q1; first | rwa [add_block] at this | exact this) GWG1.out) | (rw [add_block]; exact Nat.ne_of_lt (Nat.lt_of_lt_of_le (by have := World.block_lt_of_cell? _ _ hw_q1; first | rwa [add_block] at this | exact this) GWG1.out)) | (show (Addr.add _ _).block ≠ _; rw [add_block]; exact Nat.ne_of_lt (Nat.lt_of_lt_of_le (by have := World.block_lt_of_cell? _ _ hw_q1; first | rwa [add_block] at this | exact this) GWG1.out)) | (dsimp only; exact Nat.ne_of_lt (Nat.lt_of_lt_of_le (by have := World.block_lt_of_cell? _ _ hw_q1; first | rwa [add_block] at this | exact this) GWG1.out))) _).trans (((cell_far (p := ⟨gG1, _, none⟩) (by first | exact Nat.ne_of_lt (Nat.lt_of_lt_of_le (by have := World.block_lt_of_cell? _ _ hw_q1; first | rwa [add_block] at this | exact this) GWG1.out) | (rw [add_block]; exact Nat.ne_of_lt (Nat.lt_of_lt_of_le (by have := World.block_lt_of_cell? _ _ hw_q1; first | rwa [add_block] at this | exact this) GWG1.out)) | (show (Addr.add _ _).block ≠ _; rw [add_block]; exact Nat.ne_of_lt (Nat.lt_of_lt_of_le (by have := World.block_lt_of_cell? _ _ hw_q1; first | rwa [add_block] at this | exact this) GWG1.out)) | (dsimp only; exact Nat.ne_of_lt (Nat.lt_of_lt_of_le (by have := World.block_lt_of_cell? _ _ hw_q1; first | rwa [add_block] at this | exact this) GWG1.out))) _).trans (hHeld.2.2.2))))⟩ (fun hHeld => ?_)
      clear hK K
      refine one_ (i := 14) (N := none) (Bs 15 15) rfl rfl (one_of HT_.out (by kernel_rfl)) (by decide) (fun K hK => ?_)
      have hs13 : wE.cell? ⟨gG2, 0, none⟩ = some (.int .i64 0) := (blk_cell BKG2.out 0).trans rfl
      have hfs13 := blk_frozen BKG2.out 0
      have hns13_0 := NB12.out
      have hms13_0 := NB21.out
      have hs14 : wE.cell? ⟨gG2, 1, none⟩ = some (.int .i64 0) := (blk_cell BKG2.out 1).trans rfl
      have hfs14 := blk_frozen BKG2.out 1
      have hns14_0 := NB12.out
      have hms14_0 := NB21.out
      refine skip_ (w1 := ?_) (by rfl) rfl ?_ ?_
      rotate_left
      ·go_simp
       rfl
      refine hK.out _ _ ⟨((cell_far (p := ⟨gG2, _, none⟩) (by first | exact Nat.ne_of_lt (Nat.lt_of_lt_of_le (by have := World.block_lt_of_cell? _ _ hw_p0; first | rwa [add_block] at this | exact this) GWG2.out) | (rw [add_block]; exact Nat.ne_of_lt (Nat.lt_of_lt_of_le (by have := World.block_lt_of_cell? _ _ hw_p0; first | rwa [add_block] at this | exact this) GWG2.out)) | (show (Addr.add _ _).block ≠ _; rw [add_block]; exact Nat.ne_of_lt (Nat.lt_of_lt_of_le (by have := World.block_lt_of_cell? _ _ hw_p0; first | rwa [add_block] at this | exact this) GWG2.out)) | (dsimp only; exact Nat.ne_of_lt (Nat.lt_of_lt_of_le (by have := World.block_lt_of_cell? _ _ hw_p0; first | rwa [add_block] at this | exact this) GWG2.out))) _).trans (((cell_far (p := ⟨gG2, _, none⟩) (by first | exact Nat.ne_of_lt (Nat.lt_of_lt_of_le (by have := World.block_lt_of_cell? _ _ hw_p0; first | rwa [add_block] at this | exact this) GWG2.out) | (rw [add_block]; exact Nat.ne_of_lt (Nat.lt_of_lt_of_le (by have := World.block_lt_of_cell? _ _ hw_p0; first | rwa [add_block] at this | exact this) GWG2.out)) | (show (Addr.add _ _).block ≠ _; rw [add_block]; exact Nat.ne_of_lt (Nat.lt_of_lt_of_le (by have := World.block_lt_of_cell? _ _ hw_p0; first | rwa [add_block] at this | exact this) GWG2.out)) | (dsimp only; exact Nat.ne_of_lt (Nat.lt_of_lt_of_le (by have := World.block_lt_of_cell? _ _ hw_p0; first | rwa [add_block] at this | exact this) GWG2.out))) _).trans (hHeld.1)))), ((cell_far (p := ⟨gG2, _, none⟩) (by first | exact Nat.ne_of_lt (Nat.lt_of_lt_of_le (by have := World.block_lt_of_cell? _ _ hw_p1; first | rwa [add_block] at this | exact this) GWG2.out) | (rw [add_block]; exact Nat.ne_of_lt (Nat.lt_of_lt_of_le (by have := World.block_lt_of_cell? _ _ hw_p1; first | rwa [add_block] at this | exact this) GWG2.out)) | (show (Addr.add _ _).block ≠ _; rw [add_block]; exact Nat.ne_of_lt (Nat.lt_of_lt_of_le (by have := World.block_lt_of_cell? _ _ hw_p1; first | rwa [add_block] at this | exact this) GWG2.out)) | (dsimp only; exact Nat.ne_of_lt (Nat.lt_of_lt_of_le (by have := World.block_lt_of_cell? _ _ hw_p1; first | rwa [add_block] at this | exact this) GWG2.out))) _).trans (((cell_far (p := ⟨gG2, _, none⟩) (by first | exact Nat.ne_of_lt (Nat.lt_of_lt_of_le (by have := World.block_lt_of_cell? _ _ hw_p1; first | rwa [add_block] at this | exact this) GWG2.out) | (rw [add_block]; exact Nat.ne_of_lt (Nat.lt_of_lt_of_le (by have := World.block_lt_of_cell? _ _ hw_p1; first | rwa [add_block] at this | exact this) GWG2.out)) | (show (Addr.add _ _).block ≠ _; rw [add_block]; exact Nat.ne_of_lt (Nat.lt_of_lt_of_le (by have := World.block_lt_of_cell? _ _ hw_p1; first | rwa [add_block] at this | exact this) GWG2.out)) | (dsimp only; exact Nat.ne_of_lt (Nat.lt_of_lt_of_le (by have := World.block_lt_of_cell? _ _ hw_p1; first | rwa [add_block] at this | exact this) GWG2.out))) _).trans (hHeld.2.1)))), ((cell_far (p := ⟨gG2, _, none⟩) (by first | exact Nat.ne_of_lt (Nat.lt_of_lt_of_le (by have := World.block_lt_of_cell? _ _ hw_q0; first | rwa [add_block] at this | exact this) GWG2.out) | (rw [add_block]; exact Nat.ne_of_lt (Nat.lt_of_lt_of_le (by have := World.block_lt_of_cell? _ _ hw_q0; first | rwa [add_block] at this | exact this) GWG2.out)) | (show (Addr.add _ _).block ≠ _; rw [add_block]; exact Nat.ne_of_lt (Nat.lt_of_lt_of_le (by have := World.block_lt_of_cell? _ _ hw_q0; first | rwa [add_block] at this | exact this) GWG2.out)) | (dsimp only; exact Nat.ne_of_lt (Nat.lt_of_lt_of_le (by have := World.block_lt_of_cell? _ _ hw_q0; first | rwa [add_block] at this | exact this) GWG2.out))) _).trans (((cell_far (p := ⟨gG2, _, none⟩) (by first | exact Nat.ne_of_lt (Nat.lt_of_lt_of_le (by have := World.block_lt_of_cell? _ _ hw_q0; first | rwa [add_block] at this | exact this) GWG2.out) | (rw [add_block]; exact Nat.ne_of_lt (Nat.lt_of_lt_of_le (by have := World.block_lt_of_cell? _ _ hw_q0; first | rwa [add_block] at this | exact this) GWG2.out)) | (show (Addr.add _ _).block ≠ _; rw [add_block]; exact Nat.ne_of_lt (Nat.lt_of_lt_of_le (by have := World.block_lt_of_cell? _ _ hw_q0; first | rwa [add_block] at this | exact this) GWG2.out)) | (dsimp only; exact Nat.ne_of_lt (Nat.lt_of_lt_of_le (by have := World.block_lt_of_cell? _ _ hw_q0; first | rwa [add_block] at this | exact this) GWG2.out))) _).trans (hHeld.2.2.1)))), ((cell_far (p := ⟨gG2, _, none⟩) (by first | exact Nat.ne_of_lt (Nat.lt_of_lt_of_le (by have := World.block_lt_of_cell? _ _ hw_q1; first | rwa [add_block] at this | exact this) GWG2.out) | (rw [add_block]; exact Nat.ne_of_lt (Nat.lt_of_lt_of_le (by have := World.block_lt_of_cell? _ _ hw_q1; first | rwa [add_block] at this | exact this) GWG2.out)) | (show (Addr.add _ _).block ≠ _; rw [add_block]; exact Nat.ne_of_lt (Nat.lt_of_lt_of_le (by have := World.block_lt_of_cell? _ _ hw_q1; first | rwa [add_block] at this | exact this) GWG2.out)) | (dsimp only; exact Nat.ne_of_lt (Nat.lt_of_lt_of_le (by have := World.block_lt_of_cell? _ _ hw_q1; first | rwa [add_block] at this | exact this) GWG2.out))) _).trans (((cell_far (p := ⟨gG2, _, none⟩) (by first | exact Nat.ne_of_lt (Nat.lt_of_lt_of_le (by have := World.block_lt_of_cell? _ _ hw_q1; first | rwa [add_block] at this | exact this) GWG2.out) | (rw [add_block]; exact Nat.ne_of_lt (Nat.lt_of_lt_of_le (by have := World.block_lt_of_cell? _ _ hw_q1; first | rwa [add_block] at this | exact this) GWG2.out)) | (show (Addr.add _ _).block ≠ _; rw [add_block]; exact Nat.ne_of_lt (Nat.lt_of_lt_of_le (by have := World.block_lt_of_cell? _ _ hw_q1; first | rwa [add_block] at this | exact this) GWG2.out)) | (dsimp only; exact Nat.ne_of_lt (Nat.lt_of_lt_of_le (by have := World.block_lt_of_cell? _ _ hw_q1; first | rwa [add_block] at this | exact this) GWG2.out))) _).trans (hHeld.2.2.2))))⟩ (fun hHeld => ?_)
      clear hK K
      refine done_ (done_of HT_.out (by kernel_rfl)) ?_
      have B1 := Aside0.mk (blk_far (blk_far (blk_put (blk_put BKG1.out 0 (.int .i64 a.f0) rfl) 1 (.int .i64 a.f1) rfl) (p := ⟨gG2, 0, none⟩) NB12.out (.int .i64 b.f0)) (p := ⟨gG2, 1, none⟩) NB12.out (.int .i64 b.f1))
      have B2 := Aside0.mk (blk_put (blk_put (blk_far (blk_far BKG2.out (p := ⟨gG1, 0, none⟩) NB21.out (.int .i64 a.f0)) (p := ⟨gG1, 1, none⟩) NB21.out (.int .i64 a.f1)) 0 (.int .i64 b.f0) rfl) 1 (.int .i64 b.f1) rfl)
      have HBF := Aside0.mk (lS (j := 1) (v := .int .i64 b.f1) (lS (j := 0) (v := .int .i64 b.f0) (lS (j := 1) (v := .int .i64 a.f1) (lS (j := 0) (v := .int .i64 a.f0) HB.out GWG1.out) GWG1.out) GWG2.out) GWG2.out)
      clear hHeld hs11 hfs11 hns11_1 hms11_1 hs12 hfs12 hns12_1 hms12_1 hs13 hfs13 hns13_0 hms13_0 hs14 hfs14 hns14_0 hms14_0 BKG1 BKG2 HB
      generalize (((wE.setCell ⟨gG1, 0, none⟩ (.int .i64 a.f0)).setCell ⟨gG1, 1, none⟩ (.int .i64 a.f1)).setCell ⟨gG2, 0, none⟩ (.int .i64 b.f0)).setCell ⟨gG2, 1, none⟩ (.int .i64 b.f1) = wF at *
      have BP := Aside0.mk (blk_below BP0.out HBF.out)
      have e0 : wF.cell? ⟨gG1, 0, none⟩ = some (.int .i64 a.f0) := blk_cell B1.out 0
      have e1 : wF.cell? ⟨gG1, 1, none⟩ = some (.int .i64 a.f1) := blk_cell B1.out 1
      have e2 : wF.cell? ⟨gG2, 0, none⟩ = some (.int .i64 b.f0) := blk_cell B2.out 0
      have e3 : wF.cell? ⟨gG2, 1, none⟩ = some (.int .i64 b.f1) := blk_cell B2.out 1
      have e4 : wF.cell? ⟨gP, 0, none⟩ = some (.int .i64 p.f0) := blk_cell BP.out 0
      have e5 : wF.cell? ⟨gP, 1, none⟩ = some (.int .i64 p.f1) := blk_cell BP.out 1
      generalize hob : onB a b p = ob at *
      clear hob
      cases ob with
      | true =>
        have HR := Aside0.mk (show r = 0 by rw [HV.out, HST.out]; rfl)
        clear HV HST
        go_wp2_with (first | (go_at_call 59; go_must (refine (silversideref01_on.calls _ _ _ _ _ _ _ _ HON.out).mono ?_); rintro e w3 ⟨rfl, hb3⟩; have HB3 := Aside0.mk (below_step HBF.out hb3); clear hb3))
        go_ret
        exact ⟨by rw [HR.out]; rfl, below_step HBZ.out HB3.out⟩
      | false =>
        have HR := Aside0.mk (show r = insR l0 p (l0.length - (k + 1)) (k + 1) (xor odd cr) by rw [HV.out, HST.out]; rfl)
        clear HV HST
        by_cases h1 : a.f1 ≤ p.f1
        · have d1 : decide (a.f1 ≤ p.f1) = true := decide_eq_true h1
          by_cases h2 : p.f1 < b.f1
          · have d2 : decide (p.f1 < b.f1) = true := decide_eq_true h2
            have d3 : decide (b.f1 ≤ p.f1) = false := decide_eq_false (by omega)
            by_cases h3 : 0 < s1
            · have d4 : decide (0 < s1) = true := decide_eq_true h3
              have HC := Aside0.mk (show cr = true by rw [HCR.out, decide_eq_true_eq]; exact Or.inl ⟨h1, h2, h3⟩)
              rw [HC.out] at HR
              clear HCR HC h1 h2 h3
              go_wp2_with (first | (go_at_call 59; go_must (refine (silversideref01_on.calls _ _ _ _ _ _ _ _ HON.out).mono ?_); rintro e w3 ⟨rfl, hb3⟩; have HBN := Aside0.mk (below_step HBF.out hb3); have c0 := cB hb3 e0; have c1 := cB hb3 e1; have c2 := cB hb3 e2; have c3 := cB hb3 e3; have c4 := cB hb3 e4; have c5 := cB hb3 e5; clear hb3) | (go_at_call 31; go_must (refine (silversideref01_Turn.calls _ _ _ _ _ _ _ _ HT1.out).mono ?_); rintro e w4 ⟨rfl, hb4⟩; have HBM := Aside0.mk (below_step HBN.out hb4); have f0 := cB hb4 c0; have f1 := cB hb4 c1; have f2 := cB hb4 c2; have f3 := cB hb4 c3; have f4 := cB hb4 c4; have f5 := cB hb4 c5; clear hb4))
              go_roundw
              case rel => exact ⟨k + 1, xor odd true, by omega, by go_num, by cases odd <;> rfl, HR, HBM⟩
              case measure => simp [intOf]; omega
            · have d4 : decide (0 < s1) = false := decide_eq_false h3
              have HC := Aside0.mk (show cr = false by rw [HCR.out, decide_eq_false_iff_not]; omega)
              rw [HC.out] at HR
              clear HCR HC h1 h2 h3
              go_wp2_with (first | (go_at_call 59; go_must (refine (silversideref01_on.calls _ _ _ _ _ _ _ _ HON.out).mono ?_); rintro e w3 ⟨rfl, hb3⟩; have HBN := Aside0.mk (below_step HBF.out hb3); have c0 := cB hb3 e0; have c1 := cB hb3 e1; have c2 := cB hb3 e2; have c3 := cB hb3 e3; have c4 := cB hb3 e4; have c5 := cB hb3 e5; clear hb3) | (go_at_call 31; go_must (refine (silversideref01_Turn.calls _ _ _ _ _ _ _ _ HT1.out).mono ?_); rintro e w4 ⟨rfl, hb4⟩; have HBM := Aside0.mk (below_step HBN.out hb4); have f0 := cB hb4 c0; have f1 := cB hb4 c1; have f2 := cB hb4 c2; have f3 := cB hb4 c3; have f4 := cB hb4 c4; have f5 := cB hb4 c5; clear hb4))
              go_roundw
              case rel => exact ⟨k + 1, xor odd false, by omega, by go_num, by cases odd <;> rfl, HR, HBM⟩
              case measure => simp [intOf]; omega
          · have d2 : decide (p.f1 < b.f1) = false := decide_eq_false h2
            have d3 : decide (b.f1 ≤ p.f1) = true := decide_eq_true (by omega)
            have d5 : decide (p.f1 < a.f1) = false := decide_eq_false (by omega)
            have HC := Aside0.mk (show cr = false by rw [HCR.out, decide_eq_false_iff_not]; omega)
            rw [HC.out] at HR
            clear HCR HC h1 h2
            go_wp2_with (first | (go_at_call 59; go_must (refine (silversideref01_on.calls _ _ _ _ _ _ _ _ HON.out).mono ?_); rintro e w3 ⟨rfl, hb3⟩; have HBN := Aside0.mk (below_step HBF.out hb3); have c0 := cB hb3 e0; have c1 := cB hb3 e1; have c2 := cB hb3 e2; have c3 := cB hb3 e3; have c4 := cB hb3 e4; have c5 := cB hb3 e5; clear hb3))
            go_roundw
            case rel => exact ⟨k + 1, xor odd false, by omega, by go_num, by cases odd <;> rfl, HR, HBN⟩
            case measure => simp [intOf]; omega
        · have d1 : decide (a.f1 ≤ p.f1) = false := decide_eq_false h1
          have d5 : decide (p.f1 < a.f1) = true := decide_eq_true (by omega)
          by_cases h2 : b.f1 ≤ p.f1
          · have d3 : decide (b.f1 ≤ p.f1) = true := decide_eq_true h2
            by_cases h3 : 0 < s2
            · have d4 : decide (0 < s2) = true := decide_eq_true h3
              have HC := Aside0.mk (show cr = true by rw [HCR.out, decide_eq_true_eq]; exact Or.inr ⟨h2, by omega, h3⟩)
              rw [HC.out] at HR
              clear HCR HC h1 h2 h3
              go_wp2_with (first | (go_at_call 59; go_must (refine (silversideref01_on.calls _ _ _ _ _ _ _ _ HON.out).mono ?_); rintro e w3 ⟨rfl, hb3⟩; have HBN := Aside0.mk (below_step HBF.out hb3); have c0 := cB hb3 e0; have c1 := cB hb3 e1; have c2 := cB hb3 e2; have c3 := cB hb3 e3; have c4 := cB hb3 e4; have c5 := cB hb3 e5; clear hb3) | (go_at_call 31; go_must (refine (silversideref01_Turn.calls _ _ _ _ _ _ _ _ HT2.out).mono ?_); rintro e w4 ⟨rfl, hb4⟩; have HBM := Aside0.mk (below_step HBN.out hb4); have f0 := cB hb4 c0; have f1 := cB hb4 c1; have f2 := cB hb4 c2; have f3 := cB hb4 c3; have f4 := cB hb4 c4; have f5 := cB hb4 c5; clear hb4))
              go_roundw
              case rel => exact ⟨k + 1, xor odd true, by omega, by go_num, by cases odd <;> rfl, HR, HBM⟩
              case measure => simp [intOf]; omega
            · have d4 : decide (0 < s2) = false := decide_eq_false h3
              have HC := Aside0.mk (show cr = false by rw [HCR.out, decide_eq_false_iff_not]; omega)
              rw [HC.out] at HR
              clear HCR HC h1 h2 h3
              go_wp2_with (first | (go_at_call 59; go_must (refine (silversideref01_on.calls _ _ _ _ _ _ _ _ HON.out).mono ?_); rintro e w3 ⟨rfl, hb3⟩; have HBN := Aside0.mk (below_step HBF.out hb3); have c0 := cB hb3 e0; have c1 := cB hb3 e1; have c2 := cB hb3 e2; have c3 := cB hb3 e3; have c4 := cB hb3 e4; have c5 := cB hb3 e5; clear hb3) | (go_at_call 31; go_must (refine (silversideref01_Turn.calls _ _ _ _ _ _ _ _ HT2.out).mono ?_); rintro e w4 ⟨rfl, hb4⟩; have HBM := Aside0.mk (below_step HBN.out hb4); have f0 := cB hb4 c0; have f1 := cB hb4 c1; have f2 := cB hb4 c2; have f3 := cB hb4 c3; have f4 := cB hb4 c4; have f5 := cB hb4 c5; clear hb4))
              go_roundw
              case rel => exact ⟨k + 1, xor odd false, by omega, by go_num, by cases odd <;> rfl, HR, HBM⟩
              case measure => simp [intOf]; omega
          · have d3 : decide (b.f1 ≤ p.f1) = false := decide_eq_false h2
            have HC := Aside0.mk (show cr = false by rw [HCR.out, decide_eq_false_iff_not]; omega)
            rw [HC.out] at HR
            clear HCR HC h1 h2
            go_wp2_with (first | (go_at_call 59; go_must (refine (silversideref01_on.calls _ _ _ _ _ _ _ _ HON.out).mono ?_); rintro e w3 ⟨rfl, hb3⟩; have HBN := Aside0.mk (below_step HBF.out hb3); have c0 := cB hb3 e0; have c1 := cB hb3 e1; have c2 := cB hb3 e2; have c3 := cB hb3 e3; have c4 := cB hb3 e4; have c5 := cB hb3 e5; clear hb3))
            go_roundw
            case rel => exact ⟨k + 1, xor odd false, by omega, by go_num, by cases odd <;> rfl, HR, HBN⟩
            case measure => simp [intOf]; omega
    · obtain rfl : k = l0.length := by omega
      have HR := Aside0.mk (show r = if odd then 1 else -1 by rw [HV.out, Nat.sub_self]; rfl)
      clear HV
      cases odd with
      | true =>
        go_wp2
        go_ret
        exact ⟨by rw [HR.out]; rfl, below_step HBZ.out HB.out⟩
      | false =>
        go_wp2
        go_ret
        exact ⟨by rw [HR.out]; rfl, below_step HBZ.out HB.out⟩
def silversideref01_Inside.f (l0 : List S31) (a1 a2 : Int) : Option Int := if allOk l0 = true ∧ okPt ⟨a1, a2⟩ = true ∧ l0.length ≤ 4096 then some (insR l0 ⟨a1, a2⟩ l0.length 0 false) else none
theorem silversideref01_Inside.calls (A0 : Option Addr) (c0 : Nat) (l0 : List S31) (a1_0 a1_1 : Int) (r : Int) (w : World) (hr0 : Kd.C k31 w A0 l0.length l0) (hc0 : l0.length ≤ c0) (h : silversideref01_Inside.f l0 a1_0 a1_1 = some r) :
    Calls Try.prog 29 #[.slice A0 l0.length c0, .agg #[.int .i64 a1_0, .int .i64 a1_1]] w fun e w' => e = .returned (.int .i64 r) ∧ Below w.heap.size w w' := by
  unfold silversideref01_Inside.f at h
  split at h
  · rename_i hh
    cases h
    exact refinside_calls A0 c0 l0 ⟨a1_0, a1_1⟩ w hr0 hc0 hh.1 hh.2.1 hh.2.2
  · cases h
end Go.Proofs.Ythaklbjcjoolcaa.P
namespace Go.Proofs.Ythaklbjcjoolcaa.P
open Go.RowKit Go.Proofs.YthaklbjcjoolcaaW.PrintWords Go.Proofs.YthaklbjcjoolcaaW.PrintLast Go.Proofs.YthaklbjcjoolcaaW.PrintMore
attribute [local go_sem] max2_int min2_int max_two min_two max_three min_three max_four min_four   -- for this text's walks alone
set_option linter.unusedVariables false
set_option linter.unusedSimpArgs false

/-! ### silversidelaw01_PlaneInside: function 5 -/
def silversidelaw01_PlaneInside.j0 : Nat → List (S31) → Int → Int → Bool → Int → Int → Option (Bool)
 | 0, _, _, _, _, _, _ => none
 | k + 1, x5, x6, x7, x23, x292000, x292001 => if x23 = true then (if x6 = 0 then (if x7 = 2 then ((silversidelaw01_awake.f k).bind fun t299 => (some t299)) else (some false)) else (some false)) else ((silversideref01_Inside.f x5 x292000 x292001).bind fun t300 => (if x6 = t300 then (if x7 = 0 then ((silversidelaw01_awake.f k).bind fun t301 => (some t301)) else (some false)) else (some false)))
def silversidelaw01_PlaneInside.f (k : Nat) (l0 : List (S31)) (a1_0 : Int) (a1_1 : Int) : Option (Bool) := (silversidelaw01_some.f l0 60).bind fun t292 => ((plane_Inside.f k t292 a1_0 a1_1).bind fun bt295 => ((silversideref01_Simple.f k t292).bind fun t297 => (if t297 = true then ((silversideref01_Valid.f a1_0 a1_1).bind fun t298 => (silversidelaw01_PlaneInside.j0 k t292 bt295.1 bt295.2 (!t298) a1_0 a1_1)) else (silversidelaw01_PlaneInside.j0 k t292 bt295.1 bt295.2 true a1_0 a1_1))))
theorem silversidelaw01_PlaneInside.mono_l : ∀ k, (∀ y0 y1 y2 y3 y4 y5, LeO (silversidelaw01_PlaneInside.j0 k y0 y1 y2 y3 y4 y5) (silversidelaw01_PlaneInside.j0 (k + 1) y0 y1 y2 y3 y4 y5))
 | 0 => fun _ _ _ _ _ _ r h => by simp [silversidelaw01_PlaneInside.j0] at h
 | k + 1 => by
  have ih0 := silversidelaw01_PlaneInside.mono_l k
  ·intro y0 y1 y2 y3 y4 y5
   unfold silversidelaw01_PlaneInside.j0
   repeat' first
   | (with_reducible exact ih0 _ _ _ _ _ _)
   | (with_reducible exact plane_Inside.mono _ _ _ _)
   | (with_reducible exact silversidelaw01_awake.mono _)
   | (with_reducible exact silversideref01_Simple.mono _ _)
   | (with_reducible exact LeO.refl _)
   | (with_reducible exact LeO.none _)
   | (with_reducible refine LeO.ite ?_ ?_)
   | (with_reducible refine LeO.bind ?_ (fun _ => ?_))
   | exact ih0 _ _ _ _ _ _
   | exact plane_Inside.mono _ _ _ _
   | exact silversidelaw01_awake.mono _
   | exact silversideref01_Simple.mono _ _
   | exact LeO.none _
   | refine LeO.ite ?_ ?_
   | refine LeO.bind ?_ (fun _ => ?_)
theorem silversidelaw01_PlaneInside.mono : ∀ a0 a1 a2 k, LeO (silversidelaw01_PlaneInside.f k a0 a1 a2) (silversidelaw01_PlaneInside.f (k + 1) a0 a1 a2) := by
 intro a0 a1 a2 k
 have ih0 := silversidelaw01_PlaneInside.mono_l k
 unfold silversidelaw01_PlaneInside.f
 repeat' first
   | (with_reducible exact ih0 _ _ _ _ _ _)
   | (with_reducible exact plane_Inside.mono _ _ _ _)
   | (with_reducible exact silversidelaw01_awake.mono _)
   | (with_reducible exact silversideref01_Simple.mono _ _)
   | (with_reducible exact LeO.refl _)
   | (with_reducible exact LeO.none _)
   | (with_reducible refine LeO.ite ?_ ?_)
   | (with_reducible refine LeO.bind ?_ (fun _ => ?_))
   | exact ih0 _ _ _ _ _ _
   | exact plane_Inside.mono _ _ _ _
   | exact silversidelaw01_awake.mono _
   | exact silversideref01_Simple.mono _ _
   | exact LeO.none _
   | refine LeO.ite ?_ ?_
   | refine LeO.bind ?_ (fun _ => ?_)
set_option maxHeartbeats 8000000 in
set_option maxRecDepth 100000 in
theorem silversidelaw01_PlaneInside.calls (k : Nat) (A0 : Option Addr) (c0 : Nat) (l0 : List (S31)) (a1_0 : Int) (a1_1 : Int) (r : Bool) (w : World) (hr0 : Kd.C k31 w A0 l0.length l0) (hc0 : l0.length ≤ c0) (h : silversidelaw01_PlaneInside.f k l0 a1_0 a1_1 = some r) :
  Calls Try.prog 5 #[.slice A0 l0.length c0, .agg #[.int .i64 a1_0, .int .i64 a1_1]] w fun e w' => e = .returned (.bool r) ∧ Below w.heap.size w w' := by
 have hu31 := Try.underlying31
 have HR0 := Aside0.mk hr0
 have HC0 := Aside0.mk hc0
 clear hr0 hc0
 have HB := Aside0.mk (Below.refl w.heap.size w)
 have H : ((silversidelaw01_some.f l0 60).bind fun t292 => ((plane_Inside.f k t292 a1_0 a1_1).bind fun bt295 => ((silversideref01_Simple.f k t292).bind fun t297 => (if t297 = true then ((silversideref01_Valid.f a1_0 a1_1).bind fun t298 => (silversidelaw01_PlaneInside.j0 k t292 bt295.1 bt295.2 (!t298) a1_0 a1_1)) else (silversidelaw01_PlaneInside.j0 k t292 bt295.1 bt295.2 true a1_0 a1_1))))) = some r := h
 clear h
 replace H := Option.bind_eq_some_iff.mp H
 obtain ⟨t292, A30, H⟩ := H
 replace H : ((plane_Inside.f k t292 a1_0 a1_1).bind fun bt295 => ((silversideref01_Simple.f k t292).bind fun t297 => (if t297 = true then ((silversideref01_Valid.f a1_0 a1_1).bind fun t298 => (silversidelaw01_PlaneInside.j0 k t292 bt295.1 bt295.2 (!t298) a1_0 a1_1)) else (silversidelaw01_PlaneInside.j0 k t292 bt295.1 bt295.2 true a1_0 a1_1)))) = some r := H
 have A3 := Aside0.mk A30
 clear A30
 replace H := Option.bind_eq_some_iff.mp H
 obtain ⟨⟨t295, t296⟩, A40, H⟩ := H
 replace H : ((silversideref01_Simple.f k t292).bind fun t297 => (if t297 = true then ((silversideref01_Valid.f a1_0 a1_1).bind fun t298 => (silversidelaw01_PlaneInside.j0 k t292 t295 t296 (!t298) a1_0 a1_1)) else (silversidelaw01_PlaneInside.j0 k t292 t295 t296 true a1_0 a1_1))) = some r := H
 have A4 := Aside0.mk A40
 clear A40
 have HC5 := Aside0.mk H
 clear H
 go_enter Try.func5, Try.ntmps5
 go_upto_region 3 with (first | ((with_reducible refine gate_dst (N := 3) rfl ?_); refine box_event ?hg (N := 3) ?hd (cs := #[.int .i64 a1_0, .int .i64 a1_1]) (t := 31) ?hr ?_; (case hd => rfl); (case hg => rfl); (case hr => first | (go_simp; done) | (go_simp; rfl)); intro gb291 hg w6 hbox hb; have n0_ := Aside0.mk (below_step (by repeat (first | (with_reducible first | exact HB.out | apply lA | apply lN | apply lD) | exact HB.out)) hb); have n1_ := Aside0.mk (hbox); have n2_ := Aside0.mk ((by rw [hg]; exact (below_size (by repeat (first | (with_reducible first | exact HB.out | apply lA | apply lN | apply lD) | exact HB.out))) : w.heap.size ≤ gb291)); have n3_ := Aside0.mk ((by rw [hg]; exact (below_size (by repeat (first | (with_reducible first | exact HB.out | apply lA | apply lN | apply lD) | exact HB.out))) : w.heap.size ≤ gb291)); clear HB; have HB := n0_; have BK291 := n1_; have GW291 := n2_; have GE291 := n3_; clear n0_ n1_ n2_ n3_; clear hb hbox hg) | ((with_reducible refine gate_callee (f := 20) rfl ?_); refine goesL_ (some 9) rfl rfl Try.func20 (by kernel_rfl) rfl #[.slice A0 l0.length c0, .int .i64 60] rfl (by (try simp only [List.map_toArray, List.map_cons, List.map_nil]); first | done | rfl | (simp only [List.length_drop, List.length_take]; rfl)) ?_; (with_reducible refine (silversidelaw01_some.calls _ _ l0 60 t292 _ ?side1 ?side2 A3.out).mono ?_); (case side1 => repeat (first | exact (Kd.C_below HR0.out HB.out) | (with_reducible refine Kd.C_alloc ?_ _) | (with_reducible refine Kd.C_drewN ?_ _) | (with_reducible refine Kd.C_drew ?_))); (case side2 => exact HC0.out); rintro e w7 ⟨v293, rfl, ho0, hb⟩; refine ⟨_, rfl, ?_⟩; have n0_ := Aside0.mk (Kd.R_lower (Kd.R_newB ho0 (g := gb291) (o := .cells #[.int .i64 a1_0, .int .i64 a1_1] 31 (0, 0)) (kX BK291.out)) (below_size (by repeat (first | (with_reducible first | exact HB.out | apply lA | apply lN | apply lD | refine lS ?_ GE291.out) | exact HB.out)))); have n1_ := Aside0.mk (blk_below (g := gb291) (o := .cells #[.int .i64 a1_0, .int .i64 a1_1] 31 (0, 0)) (kX BK291.out) hb); have n2_ := Aside0.mk (below_step (by repeat (first | (with_reducible first | exact HB.out | apply lA | apply lN | apply lD | refine lS ?_ GE291.out) | exact HB.out)) hb); clear BK291; clear HB; have HO294 := n0_; have BK291 := n1_; have HB := n2_; clear n0_ n1_ n2_; (try clear hb); (try clear hb2); (try clear hk); (try clear hi); (try clear ho0); have hcz8_0 : w7.cell? ⟨gb291, 0, none⟩ = some (.int .i64 a1_0) := (blk_cell BK291.out 0).trans rfl; have hcz8_1 : w7.cell? ⟨gb291, 1, none⟩ = some (.int .i64 a1_1) := (blk_cell BK291.out 1).trans rfl; have hfz8_0 := blk_frozen BK291.out 0; have hfz8_1 := blk_frozen BK291.out 1; obtain ⟨Ao9, co9, eo9⟩ := Kd.R_slice HO294.out; subst eo9) | ((with_reducible refine gate_callee (f := 27) rfl ?_); refine goesL_ (some 13) rfl rfl Try.func27 (by kernel_rfl) rfl #[.slice Ao9 t292.length co9, .agg #[.int .i64 a1_0, .int .i64 a1_1]] rfl (by (try simp only [List.map_toArray, List.map_cons, List.map_nil]); first | done | rfl | (simp only [List.length_drop, List.length_take]; rfl)) ?_; (with_reducible refine (plane_Inside.calls k _ _ t292 a1_0 a1_1 t295 t296 _ ?side1 ?side2 A4.out).mono ?_); (case side1 => repeat (first | exact (Kd.R_reads' HO294.out).2.2 | (with_reducible refine Kd.C_alloc ?_ _) | (with_reducible refine Kd.C_drewN ?_ _) | (with_reducible refine Kd.C_drew ?_))); (case side2 => exact (Kd.R_reads' HO294.out).2.1); rintro e w10 ⟨rfl, hb⟩; refine ⟨_, rfl, ?_⟩; have n0_ := Aside0.mk (Kd.R_below (by (with_reducible repeat (first | apply Kd.R_alloc | apply Kd.R_drewN | apply Kd.R_drew)); exact HO294.out) hb); have n1_ := Aside0.mk (blk_below (g := gb291) (o := .cells #[.int .i64 a1_0, .int .i64 a1_1] 31 (0, 0)) (kX BK291.out) hb); have n2_ := Aside0.mk (below_step (by repeat (first | (with_reducible first | exact HB.out | apply lA | apply lN | apply lD | refine lS ?_ GE291.out) | exact HB.out)) hb); clear HO294; clear BK291; clear HB; have HO294 := n0_; have BK291 := n1_; have HB := n2_; clear n0_ n1_ n2_; (try clear hb); (try clear hb2); (try clear hk); (try clear hi)))
 (try simp only [Act.put, sA, sB, sC])
 go_cut [23] (fun v23 wc => ∃ (kq : Nat) (x23_4 : Bool), v23 = .bool x23_4 ∧ Aside0 (silversidelaw01_PlaneInside.j0 kq t292 t295 t296 x23_4 a1_0 a1_1 = some r) ∧ Aside0 (kq ≤ k) ∧ Aside0 (Kd.R k31 31 wc w.heap.size (fun k_ => k_ ≠ gb291) (.slice Ao9 t292.length co9) t292) ∧ Aside0 (wc.heap[gb291]? = some (.cells #[.int .i64 a1_0, .int .i64 a1_1] 31 (0, 0))) ∧ Aside0 (Below w.heap.size w wc))
 case first =>
  have H := HC5.out
  clear HC5
  replace H := Option.bind_eq_some_iff.mp H
  obtain ⟨t297, A110, H⟩ := H
  replace H : (if t297 = true then ((silversideref01_Valid.f a1_0 a1_1).bind fun t298 => (silversidelaw01_PlaneInside.j0 k t292 t295 t296 (!t298) a1_0 a1_1)) else (silversidelaw01_PlaneInside.j0 k t292 t295 t296 true a1_0 a1_1)) = some r := H
  have A11 := Aside0.mk A110
  clear A110
  by_cases c12 : t297 = true
  ·subst c12
   have H1 : ((silversideref01_Valid.f a1_0 a1_1).bind fun t298 => (silversidelaw01_PlaneInside.j0 k t292 t295 t296 (!t298) a1_0 a1_1)) = some r := by rw [if_pos rfl] at H; exact H
   clear H
   have H := H1
   clear H1
   replace H := Option.bind_eq_some_iff.mp H
   obtain ⟨t298, A130, H⟩ := H
   replace H : (silversidelaw01_PlaneInside.j0 k t292 t295 t296 (!t298) a1_0 a1_1) = some r := H
   have A13 := Aside0.mk A130
   clear A130
   have H' := Aside0.mk H
   clear H
   go_wp2_with (first | ((with_reducible refine gate_callee (f := 26) rfl ?_); refine goesL_ (some 17) rfl rfl Try.func26 (by kernel_rfl) rfl #[.slice Ao9 t292.length co9] rfl (by (try simp only [List.map_toArray, List.map_cons, List.map_nil]); first | done | rfl | (simp only [List.length_drop, List.length_take]; rfl)) ?_; (with_reducible refine (silversideref01_Simple.calls k _ _ t292 true _ ?side1 ?side2 A11.out).mono ?_); (case side1 => repeat (first | exact (Kd.R_reads' HO294.out).2.2 | (with_reducible refine Kd.C_alloc ?_ _) | (with_reducible refine Kd.C_drewN ?_ _) | (with_reducible refine Kd.C_drew ?_))); (case side2 => exact (Kd.R_reads' HO294.out).2.1); rintro e w14 ⟨rfl, hb⟩; refine ⟨_, rfl, ?_⟩; have n0_ := Aside0.mk (Kd.R_below (by (with_reducible repeat (first | apply Kd.R_alloc | apply Kd.R_drewN | apply Kd.R_drew)); exact HO294.out) hb); have n1_ := Aside0.mk (blk_below (g := gb291) (o := .cells #[.int .i64 a1_0, .int .i64 a1_1] 31 (0, 0)) (kX BK291.out) hb); have n2_ := Aside0.mk (below_step (by repeat (first | (with_reducible first | exact HB.out | apply lA | apply lN | apply lD | refine lS ?_ GE291.out) | exact HB.out)) hb); clear HO294; clear BK291; clear HB; have HO294 := n0_; have BK291 := n1_; have HB := n2_; clear n0_ n1_ n2_; (try clear hb); (try clear hb2); (try clear hk); (try clear hi); have hcz15_0 : w14.cell? ⟨gb291, 0, none⟩ = some (.int .i64 a1_0) := (blk_cell BK291.out 0).trans rfl; have hcz15_1 : w14.cell? ⟨gb291, 1, none⟩ = some (.int .i64 a1_1) := (blk_cell BK291.out 1).trans rfl; have hfz15_0 := blk_frozen BK291.out 0; have hfz15_1 := blk_frozen BK291.out 1) | (go_at_call 28; (with_reducible refine (silversideref01_Valid.calls a1_0 a1_1 t298 _ A13.out).mono ?_); rintro e w16 ⟨rfl, hb⟩; have n0_ := Aside0.mk (Kd.R_below (by (with_reducible repeat (first | apply Kd.R_alloc | apply Kd.R_drewN | apply Kd.R_drew)); exact HO294.out) hb); have n1_ := Aside0.mk (blk_below (g := gb291) (o := .cells #[.int .i64 a1_0, .int .i64 a1_1] 31 (0, 0)) (kX BK291.out) hb); have n2_ := Aside0.mk (below_step (by repeat (first | (with_reducible first | exact HB.out | apply lA | apply lN | apply lD | refine lS ?_ GE291.out) | exact HB.out)) hb); clear HO294; clear BK291; clear HB; have HO294 := n0_; have BK291 := n1_; have HB := n2_; clear n0_ n1_ n2_; (try clear hb); (try clear hb2); (try clear hk); (try clear hi)))
   go_meet
   case rel => exact ⟨_, (!t298), (by first | rfl | (simp; done) | (simp [*]; done)), H', ⟨by first | omega | exact Nat.le_refl _⟩, ⟨by (with_reducible repeat (first | apply Kd.R_alloc | apply Kd.R_drewN | apply Kd.R_drew)); exact Kd.R_mono HO294.out (fun _ hk => hk.2)⟩, ⟨by (with_reducible repeat (first | refine kN ?_ _ | refine kD ?_ | refine kA ?_ _)); exact BK291.out⟩, ⟨by repeat (first | (with_reducible first | exact HB.out | apply lA | apply lN | apply lD | refine lS ?_ GE291.out) | exact HB.out)⟩⟩
  replace c12 := Bool.eq_false_iff.mpr c12
  subst c12
  have H1 : (silversidelaw01_PlaneInside.j0 k t292 t295 t296 true a1_0 a1_1) = some r := by rw [if_neg (show ¬ (false = true) by decide)] at H; exact H
  clear H
  have H := H1
  clear H1
  have H' := Aside0.mk H
  clear H
  go_wp2_with (first | ((with_reducible refine gate_callee (f := 26) rfl ?_); refine goesL_ (some 17) rfl rfl Try.func26 (by kernel_rfl) rfl #[.slice Ao9 t292.length co9] rfl (by (try simp only [List.map_toArray, List.map_cons, List.map_nil]); first | done | rfl | (simp only [List.length_drop, List.length_take]; rfl)) ?_; (with_reducible refine (silversideref01_Simple.calls k _ _ t292 false _ ?side1 ?side2 A11.out).mono ?_); (case side1 => repeat (first | exact (Kd.R_reads' HO294.out).2.2 | (with_reducible refine Kd.C_alloc ?_ _) | (with_reducible refine Kd.C_drewN ?_ _) | (with_reducible refine Kd.C_drew ?_))); (case side2 => exact (Kd.R_reads' HO294.out).2.1); rintro e w17 ⟨rfl, hb⟩; refine ⟨_, rfl, ?_⟩; have n0_ := Aside0.mk (Kd.R_below (by (with_reducible repeat (first | apply Kd.R_alloc | apply Kd.R_drewN | apply Kd.R_drew)); exact HO294.out) hb); have n1_ := Aside0.mk (blk_below (g := gb291) (o := .cells #[.int .i64 a1_0, .int .i64 a1_1] 31 (0, 0)) (kX BK291.out) hb); have n2_ := Aside0.mk (below_step (by repeat (first | (with_reducible first | exact HB.out | apply lA | apply lN | apply lD | refine lS ?_ GE291.out) | exact HB.out)) hb); clear HO294; clear BK291; clear HB; have HO294 := n0_; have BK291 := n1_; have HB := n2_; clear n0_ n1_ n2_; (try clear hb); (try clear hb2); (try clear hk); (try clear hi)))
  go_meet
  case rel => exact ⟨_, (true), (by first | rfl | (simp; done) | (simp [*]; done)), H', ⟨by first | omega | exact Nat.le_refl _⟩, ⟨by (with_reducible repeat (first | apply Kd.R_alloc | apply Kd.R_drewN | apply Kd.R_drew)); exact Kd.R_mono HO294.out (fun _ hk => hk.2)⟩, ⟨by (with_reducible repeat (first | refine kN ?_ _ | refine kD ?_ | refine kA ?_ _)); exact BK291.out⟩, ⟨by repeat (first | (with_reducible first | exact HB.out | apply lA | apply lN | apply lD | refine lS ?_ GE291.out) | exact HB.out)⟩⟩
 case rest =>
  clear HC5
  try clear c1
  try clear c2
  try clear p2
  try clear c5
  try clear c12
  try clear hcz15_0
  try clear hcz15_1
  try clear hcz8_0
  try clear hcz8_1
  try clear hfz15_0
  try clear hfz15_1
  try clear hfz8_0
  try clear hfz8_1
  obtain ⟨kq, x23_4, rfl, HA, HJ4, HO_5, BK291, HB⟩ := hcut
  cases kq with
  | zero => exact absurd HA.out (by simp [silversidelaw01_PlaneInside.j0])
  | succ kj4 =>
   have H := HA.out
   clear HA
   simp only [silversidelaw01_PlaneInside.j0] at H
   by_cases c18 : x23_4 = true
   ·subst c18
    have H1 : (if t295 = 0 then (if t296 = 2 then ((silversidelaw01_awake.f kj4).bind fun t299 => (some t299)) else (some false)) else (some false)) = some r := by rw [if_pos rfl] at H; exact H
    clear H
    have H := H1
    clear H1
    by_cases c19 : t295 = 0
    ·rw [if_pos c19] at H
     have c19b0 : (t295 == 0) = true := beq_iff_eq.mpr c19
     have c19b1 : (t295 != 0) = false := bne_eq_false_iff_eq.mpr c19
     clear c19
     by_cases c20 : t296 = 2
     ·rw [if_pos c20] at H
      have c20b0 : (t296 == 2) = true := beq_iff_eq.mpr c20
      have c20b1 : (t296 != 2) = false := bne_eq_false_iff_eq.mpr c20
      clear c20
      replace H := Option.bind_eq_some_iff.mp H
      obtain ⟨t299, A210, H⟩ := H
      replace H : (some t299) = some r := H
      have A21 := Aside0.mk A210
      clear A210
      obtain rfl := Option.some.inj H
      go_wp2_with (first | (go_at_call 23; (with_reducible refine (silversidelaw01_awake.calls kj4  t299 _ A21.out).mono ?_); rintro e w22 ⟨rfl, hb⟩; have n0_ := Aside0.mk (Kd.R_below (by (with_reducible repeat (first | apply Kd.R_alloc | apply Kd.R_drewN | apply Kd.R_drew)); exact HO_5.out) hb); have n1_ := Aside0.mk (blk_below (g := gb291) (o := .cells #[.int .i64 a1_0, .int .i64 a1_1] 31 (0, 0)) (kX BK291.out) hb); have n2_ := Aside0.mk (below_step (by repeat (first | (with_reducible first | exact HB.out | apply lA | apply lN | apply lD | refine lS ?_ GE291.out) | exact HB.out)) hb); clear HO_5; clear BK291; clear HB; have HO_5 := n0_; have BK291 := n1_; have HB := n2_; clear n0_ n1_ n2_; (try clear hb); (try clear hb2); (try clear hk); (try clear hi)))
      go_ret
      exact ⟨by first | rfl | (simp [errW_none, errW_some] <;> rfl) | (simp [*, errW_none, errW_some] <;> rfl), by repeat (first | (with_reducible first | exact HB.out | apply lA | apply lN | apply lD | refine lS ?_ GE291.out) | exact HB.out)⟩
     ·rw [if_neg c20] at H
      have c20b0 : (t296 == 2) = false := beq_eq_false_iff_ne.mpr c20
      have c20b1 : (t296 != 2) = true := bne_iff_ne.mpr c20
      obtain rfl := Option.some.inj H
      go_wp2
      go_ret
      exact ⟨by first | rfl | (simp [errW_none, errW_some] <;> rfl) | (simp [*, errW_none, errW_some] <;> rfl), by repeat (first | (with_reducible first | exact HB.out | apply lA | apply lN | apply lD | refine lS ?_ GE291.out) | exact HB.out)⟩
    ·rw [if_neg c19] at H
     have c19b0 : (t295 == 0) = false := beq_eq_false_iff_ne.mpr c19
     have c19b1 : (t295 != 0) = true := bne_iff_ne.mpr c19
     obtain rfl := Option.some.inj H
     go_wp2
     go_ret
     exact ⟨by first | rfl | (simp [errW_none, errW_some] <;> rfl) | (simp [*, errW_none, errW_some] <;> rfl), by repeat (first | (with_reducible first | exact HB.out | apply lA | apply lN | apply lD | refine lS ?_ GE291.out) | exact HB.out)⟩
   ·replace c18 := Bool.eq_false_iff.mpr c18
    subst c18
    have H1 : ((silversideref01_Inside.f t292 a1_0 a1_1).bind fun t300 => (if t295 = t300 then (if t296 = 0 then ((silversidelaw01_awake.f kj4).bind fun t301 => (some t301)) else (some false)) else (some false))) = some r := by rw [if_neg (show ¬ (false = true) by decide)] at H; exact H
    clear H
    have H := H1
    clear H1
    replace H := Option.bind_eq_some_iff.mp H
    obtain ⟨t300, A230, H⟩ := H
    replace H : (if t295 = t300 then (if t296 = 0 then ((silversidelaw01_awake.f kj4).bind fun t301 => (some t301)) else (some false)) else (some false)) = some r := H
    have A23 := Aside0.mk A230
    clear A230
    by_cases c24 : t295 = t300
    ·rw [if_pos c24] at H
     have c24b0 : (t295 == t300) = true := beq_iff_eq.mpr c24
     have c24b1 : (t295 != t300) = false := bne_eq_false_iff_eq.mpr c24
     clear c24
     by_cases c25 : t296 = 0
     ·rw [if_pos c25] at H
      have c25b0 : (t296 == 0) = true := beq_iff_eq.mpr c25
      have c25b1 : (t296 != 0) = false := bne_eq_false_iff_eq.mpr c25
      clear c25
      replace H := Option.bind_eq_some_iff.mp H
      obtain ⟨t301, A260, H⟩ := H
      replace H : (some t301) = some r := H
      have A26 := Aside0.mk A260
      clear A260
      obtain rfl := Option.some.inj H
      have hcz27_0 : wc.cell? ⟨gb291, 0, none⟩ = some (.int .i64 a1_0) := (blk_cell BK291.out 0).trans rfl
      have hcz27_1 : wc.cell? ⟨gb291, 1, none⟩ = some (.int .i64 a1_1) := (blk_cell BK291.out 1).trans rfl
      have hfz27_0 := blk_frozen BK291.out 0
      have hfz27_1 := blk_frozen BK291.out 1
      go_wp2_with (first | ((with_reducible refine gate_callee (f := 29) rfl ?_); refine goesL_ (some 36) rfl rfl Try.func29 (by kernel_rfl) rfl #[.slice Ao9 t292.length co9, .agg #[.int .i64 a1_0, .int .i64 a1_1]] rfl (by (try simp only [List.map_toArray, List.map_cons, List.map_nil]); first | done | rfl | (simp only [List.length_drop, List.length_take]; rfl)) ?_; (with_reducible refine (silversideref01_Inside.calls _ _ t292 a1_0 a1_1 t300 _ ?side1 ?side2 A23.out).mono ?_); (case side1 => repeat (first | exact (Kd.R_reads' HO_5.out).2.2 | (with_reducible refine Kd.C_alloc ?_ _) | (with_reducible refine Kd.C_drewN ?_ _) | (with_reducible refine Kd.C_drew ?_))); (case side2 => exact (Kd.R_reads' HO_5.out).2.1); rintro e w28 ⟨rfl, hb⟩; refine ⟨_, rfl, ?_⟩; have n0_ := Aside0.mk (Kd.R_below (by (with_reducible repeat (first | apply Kd.R_alloc | apply Kd.R_drewN | apply Kd.R_drew)); exact HO_5.out) hb); have n1_ := Aside0.mk (blk_below (g := gb291) (o := .cells #[.int .i64 a1_0, .int .i64 a1_1] 31 (0, 0)) (kX BK291.out) hb); have n2_ := Aside0.mk (below_step (by repeat (first | (with_reducible first | exact HB.out | apply lA | apply lN | apply lD | refine lS ?_ GE291.out) | exact HB.out)) hb); clear HO_5; clear BK291; clear HB; have HO_5 := n0_; have BK291 := n1_; have HB := n2_; clear n0_ n1_ n2_; (try clear hb); (try clear hb2); (try clear hk); (try clear hi)) | (go_at_call 23; (with_reducible refine (silversidelaw01_awake.calls kj4  t301 _ A26.out).mono ?_); rintro e w29 ⟨rfl, hb⟩; have n0_ := Aside0.mk (Kd.R_below (by (with_reducible repeat (first | apply Kd.R_alloc | apply Kd.R_drewN | apply Kd.R_drew)); exact HO_5.out) hb); have n1_ := Aside0.mk (blk_below (g := gb291) (o := .cells #[.int .i64 a1_0, .int .i64 a1_1] 31 (0, 0)) (kX BK291.out) hb); have n2_ := Aside0.mk (below_step (by repeat (first | (with_reducible first | exact HB.out | apply lA | apply lN | apply lD | refine lS ?_ GE291.out) | exact HB.out)) hb); clear HO_5; clear BK291; clear HB; have HO_5 := n0_; have BK291 := n1_; have HB := n2_; clear n0_ n1_ n2_; (try clear hb); (try clear hb2); (try clear hk); (try clear hi)))
      go_ret
      exact ⟨by first | rfl | (simp [errW_none, errW_some] <;> rfl) | (simp [*, errW_none, errW_some] <;> rfl), by repeat (first | (with_reducible first | exact HB.out | apply lA | apply lN | apply lD | refine lS ?_ GE291.out) | exact HB.out)⟩
     ·rw [if_neg c25] at H
      have c25b0 : (t296 == 0) = false := beq_eq_false_iff_ne.mpr c25
      have c25b1 : (t296 != 0) = true := bne_iff_ne.mpr c25
      obtain rfl := Option.some.inj H
      have hcz30_0 : wc.cell? ⟨gb291, 0, none⟩ = some (.int .i64 a1_0) := (blk_cell BK291.out 0).trans rfl
      have hcz30_1 : wc.cell? ⟨gb291, 1, none⟩ = some (.int .i64 a1_1) := (blk_cell BK291.out 1).trans rfl
      have hfz30_0 := blk_frozen BK291.out 0
      have hfz30_1 := blk_frozen BK291.out 1
      go_wp2_with (first | ((with_reducible refine gate_callee (f := 29) rfl ?_); refine goesL_ (some 36) rfl rfl Try.func29 (by kernel_rfl) rfl #[.slice Ao9 t292.length co9, .agg #[.int .i64 a1_0, .int .i64 a1_1]] rfl (by (try simp only [List.map_toArray, List.map_cons, List.map_nil]); first | done | rfl | (simp only [List.length_drop, List.length_take]; rfl)) ?_; (with_reducible refine (silversideref01_Inside.calls _ _ t292 a1_0 a1_1 t300 _ ?side1 ?side2 A23.out).mono ?_); (case side1 => repeat (first | exact (Kd.R_reads' HO_5.out).2.2 | (with_reducible refine Kd.C_alloc ?_ _) | (with_reducible refine Kd.C_drewN ?_ _) | (with_reducible refine Kd.C_drew ?_))); (case side2 => exact (Kd.R_reads' HO_5.out).2.1); rintro e w31 ⟨rfl, hb⟩; refine ⟨_, rfl, ?_⟩; have n0_ := Aside0.mk (Kd.R_below (by (with_reducible repeat (first | apply Kd.R_alloc | apply Kd.R_drewN | apply Kd.R_drew)); exact HO_5.out) hb); have n1_ := Aside0.mk (blk_below (g := gb291) (o := .cells #[.int .i64 a1_0, .int .i64 a1_1] 31 (0, 0)) (kX BK291.out) hb); have n2_ := Aside0.mk (below_step (by repeat (first | (with_reducible first | exact HB.out | apply lA | apply lN | apply lD | refine lS ?_ GE291.out) | exact HB.out)) hb); clear HO_5; clear BK291; clear HB; have HO_5 := n0_; have BK291 := n1_; have HB := n2_; clear n0_ n1_ n2_; (try clear hb); (try clear hb2); (try clear hk); (try clear hi)))
      go_ret
      exact ⟨by first | rfl | (simp [errW_none, errW_some] <;> rfl) | (simp [*, errW_none, errW_some] <;> rfl), by repeat (first | (with_reducible first | exact HB.out | apply lA | apply lN | apply lD | refine lS ?_ GE291.out) | exact HB.out)⟩
    ·rw [if_neg c24] at H
     have c24b0 : (t295 == t300) = false := beq_eq_false_iff_ne.mpr c24
     have c24b1 : (t295 != t300) = true := bne_iff_ne.mpr c24
     obtain rfl := Option.some.inj H
     have hcz32_0 : wc.cell? ⟨gb291, 0, none⟩ = some (.int .i64 a1_0) := (blk_cell BK291.out 0).trans rfl
     have hcz32_1 : wc.cell? ⟨gb291, 1, none⟩ = some (.int .i64 a1_1) := (blk_cell BK291.out 1).trans rfl
     have hfz32_0 := blk_frozen BK291.out 0
     have hfz32_1 := blk_frozen BK291.out 1
     go_wp2_with (first | ((with_reducible refine gate_callee (f := 29) rfl ?_); refine goesL_ (some 36) rfl rfl Try.func29 (by kernel_rfl) rfl #[.slice Ao9 t292.length co9, .agg #[.int .i64 a1_0, .int .i64 a1_1]] rfl (by (try simp only [List.map_toArray, List.map_cons, List.map_nil]); first | done | rfl | (simp only [List.length_drop, List.length_take]; rfl)) ?_; (with_reducible refine (silversideref01_Inside.calls _ _ t292 a1_0 a1_1 t300 _ ?side1 ?side2 A23.out).mono ?_); (case side1 => repeat (first | exact (Kd.R_reads' HO_5.out).2.2 | (with_reducible refine Kd.C_alloc ?_ _) | (with_reducible refine Kd.C_drewN ?_ _) | (with_reducible refine Kd.C_drew ?_))); (case side2 => exact (Kd.R_reads' HO_5.out).2.1); rintro e w33 ⟨rfl, hb⟩; refine ⟨_, rfl, ?_⟩; have n0_ := Aside0.mk (Kd.R_below (by (with_reducible repeat (first | apply Kd.R_alloc | apply Kd.R_drewN | apply Kd.R_drew)); exact HO_5.out) hb); have n1_ := Aside0.mk (blk_below (g := gb291) (o := .cells #[.int .i64 a1_0, .int .i64 a1_1] 31 (0, 0)) (kX BK291.out) hb); have n2_ := Aside0.mk (below_step (by repeat (first | (with_reducible first | exact HB.out | apply lA | apply lN | apply lD | refine lS ?_ GE291.out) | exact HB.out)) hb); clear HO_5; clear BK291; clear HB; have HO_5 := n0_; have BK291 := n1_; have HB := n2_; clear n0_ n1_ n2_; (try clear hb); (try clear hb2); (try clear hk); (try clear hi)))
     go_ret
     exact ⟨by first | rfl | (simp [errW_none, errW_some] <;> rfl) | (simp [*, errW_none, errW_some] <;> rfl), by repeat (first | (with_reducible first | exact HB.out | apply lA | apply lN | apply lD | refine lS ?_ GE291.out) | exact HB.out)⟩

end Go.Proofs.Ythaklbjcjoolcaa.P
namespace Go.Proofs.Ythaklbjcjoolcaa.P
open Go.RowKit Go.Proofs.YthaklbjcjoolcaaW.PrintWords Go.Proofs.YthaklbjcjoolcaaW.PrintLast Go.Proofs.YthaklbjcjoolcaaW.PrintMore
set_option linter.unusedVariables false
set_option linter.unusedSimpArgs false
def nx (l : List S31) (i : Nat) : Nat := (i + 1) % l.length
def rowB (l : List S31) (i : Nat) : Nat → Nat → Bool
  | 0, _ => true
  | n + 1, k => (decide (nx l k = i) || !meetB (pt l i) (pt l (nx l i)) (pt l k) (pt l (nx l k))) && rowB l i n (k + 1)
def eqE (l : List S31) (i : Nat) : Bool := (pt l i).f0 == (pt l (nx l i)).f0 && ((pt l i).f1 == (pt l (nx l i)).f1)
def xB (l : List S31) (i : Nat) : Bool := onB (pt l (nx l i)) (pt l (nx l (nx l i))) (pt l i) || onB (pt l i) (pt l (nx l i)) (pt l (nx l (nx l i)))
/-- no two edges from the i-th on touch that must not, and no edge is a point -/
def simB (l : List S31) : Nat → Nat → Bool
  | 0, _ => true
  | n + 1, i => (!eqE l i && (!xB l i && rowB l i (l.length - (i + 2)) (i + 2))) && simB l n (i + 1)
def neB (l : List S31) : Nat → Nat → Bool
  | 0, _ => true
  | n + 1, i => !eqE l i && neB l n (i + 1)
def touB (l : List S31) : Nat → Nat → Bool
  | 0, _ => true
  | n + 1, i => (!xB l i && rowB l i (l.length - (i + 2)) (i + 2)) && touB l n (i + 1)
theorem simB_parts (l : List S31) : ∀ n i, simB l n i = (neB l n i && touB l n i)
  | 0, _ => rfl
  | n + 1, i => by
    unfold simB neB touB
    rw [simB_parts l n (i + 1)]
    cases eqE l i <;> cases xB l i <;> cases rowB l i (l.length - (i + 2)) (i + 2) <;> cases neB l n (i + 1) <;> cases touB l n (i + 1) <;> rfl
theorem pt_ok {l : List S31} (h : allOk l = true) {i : Nat} (hi : i < l.length) : okPt (pt l i) = true := by
  rw [pt_eq l i hi]
  exact List.all_eq_true.1 h _ (List.getElem_mem hi)
theorem nx_lt (l : List S31) (i : Nat) (h : 0 < l.length) : nx l i < l.length := Nat.mod_lt _ h
theorem nx_tmod (l : List S31) (i : Nat) (h : i < l.length) (hn : l.length ≤ 4096) : Int.tmod (wrap64 ((i : Int) + 1)) (l.length : Int) = (nx l i : Int) := by
  rw [w64i (by omega) (by omega), show ((i : Int) + 1) = ((i + 1 : Nat) : Int) by omega]
  rfl
theorem nx_next (l : List S31) (i : Nat) (h : i < l.length) (hn : l.length ≤ 4096) : silversideref01_next.f (i : Int) (l.length : Int) = some ((nx l i : Nat) : Int) := by
  unfold silversideref01_next.f nx
  rw [w64i (by omega) (by omega)]
  by_cases h1 : i + 1 < l.length
  · rw [if_pos (by omega), Nat.mod_eq_of_lt h1]; rfl
  · have : i + 1 = l.length := by omega
    rw [if_neg (by omega), this, Nat.mod_self]; rfl
theorem prog_row (l : List S31) (ho : allOk l = true) (hn : l.length ≤ 4096) (i : Nat) (hi : i < l.length) (v : Bool) (hv : Ev (fun k => plane_Simple.l0 k l (l.length : Int) (l.length : Int) ((i + 1 : Nat) : Int)) v) :
    ∀ m j, l.length - j = m → j ≤ l.length + 1 → Ev (fun k => plane_Simple.l1 k l (l.length : Int) (i : Int) (j : Int) (l.length : Int) (i : Int) (pt l i).f0 (pt l i).f1 (pt l (nx l i)).f0 (pt l (nx l i)).f1) (rowB l i m j && v)
  | 0, j, hm, hj => by
    refine Ev.step (f := fun k => plane_Simple.l0 k l (l.length : Int) (l.length : Int) ((i + 1 : Nat) : Int)) (fun k => ?_) hv
    rw [plane_Simple.l1, if_neg (by omega), w64i (x := (i : Int) + 1) (by omega) (by omega)]
    rfl
  | m + 1, j, hm, hj => by
    have hjl : j < l.length := by omega
    have hnj := nx_lt l j (by omega)
    have hni := nx_lt l i (by omega)
    have ih := prog_row l ho hn i hi v hv m (j + 1) (by omega) (by omega)
    have ej : wrap64 ((j : Int) + 1) = ((j + 1 : Nat) : Int) := w64i (x := (j : Int) + 1) (by omega) (by omega)
    unfold rowB
    by_cases hx : nx l j = i
    · refine Ev.step (f := fun k => plane_Simple.l1 k l (l.length : Int) (i : Int) ((j + 1 : Nat) : Int) (l.length : Int) (i : Int) (pt l i).f0 (pt l i).f1 (pt l (nx l i)).f0 (pt l (nx l i)).f1) (fun k => ?_) (by rw [decide_eq_true hx, Bool.true_or, Bool.true_and]; exact ih)
      rw [plane_Simple.l1, if_pos (by omega), if_neg (by omega), nx_tmod l j hjl hn, if_pos (by omega), ej]
    · rw [decide_eq_false hx, Bool.false_or]
      refine Ev.step (f := fun k => (plane_segment_meets.f k (pt l i).f0 (pt l i).f1 (pt l (nx l i)).f0 (pt l (nx l i)).f1 (pt l j).f0 (pt l j).f1 (pt l (nx l j)).f0 (pt l (nx l j)).f1).bind fun t => if t = true then some false else plane_Simple.l1 k l (l.length : Int) (i : Int) ((j + 1 : Nat) : Int) (l.length : Int) (i : Int) (pt l i).f0 (pt l i).f1 (pt l (nx l i)).f0 (pt l (nx l i)).f1) (fun k => ?_) ?_
      · rw [plane_Simple.l1, if_pos (by omega), if_neg (by omega), nx_tmod l j hjl hn, if_neg (by omega), edge_is l j hjl hn, ej]
        rfl
      · refine Ev.bind (Ev.step (f := fun _ => some (meetB (pt l i) (pt l (nx l i)) (pt l j) (pt l (nx l j)))) (fun k => meets_is (pt_ok ho hi) (pt_ok ho hni) (pt_ok ho hjl) (pt_ok ho hnj) k) (Ev.now _)) ?_
        cases meetB (pt l i) (pt l (nx l i)) (pt l j) (pt l (nx l j))
        · exact ev_neg (by decide) (by simpa using ih)
        · exact ev_pos rfl (Ev.now _)
theorem prog_sim (l : List S31) (ho : allOk l = true) (hn : l.length ≤ 4096) : ∀ m i, l.length - i = m → i ≤ l.length → Ev (fun k => plane_Simple.l0 k l (l.length : Int) (l.length : Int) (i : Int)) (simB l m i)
  | 0, i, hm, hi => by
    refine Ev.step (f := fun _ => some true) (fun k => ?_) (Ev.now _)
    rw [plane_Simple.l0, if_neg (by omega)]
  | m + 1, i, hm, hi => by
    have hil : i < l.length := by omega
    have hni := nx_lt l i (by omega)
    have hnn := nx_lt l (nx l i) (by omega)
    have ih := prog_sim l ho hn m (i + 1) (by omega) (by omega)
    have hr := prog_row l ho hn i hil _ ih (l.length - (i + 2)) (i + 2) rfl (by omega)
    have h1 := has_is (pt_ok ho hni) (pt_ok ho hnn) (pt_ok ho hil)
    have h2 := has_is (pt_ok ho hil) (pt_ok ho hni) (pt_ok ho hnn)
    have ej : wrap64 ((i : Int) + 2) = ((i + 2 : Nat) : Int) := w64i (x := (i : Int) + 2) (by omega) (by omega)
    have hj : ∀ b : Bool, Ev (fun k => plane_Simple.j2 k l (l.length : Int) (i : Int) (l.length : Int) (i : Int) b (pt l i).f0 (pt l i).f1 (pt l (nx l i)).f0 (pt l (nx l i)).f1) (!b && (rowB l i (l.length - (i + 2)) (i + 2) && simB l m (i + 1))) := by
      intro b
      cases b
      · refine Ev.step (f := fun k => plane_Simple.l1 k l (l.length : Int) (i : Int) ((i + 2 : Nat) : Int) (l.length : Int) (i : Int) (pt l i).f0 (pt l i).f1 (pt l (nx l i)).f0 (pt l (nx l i)).f1) (fun k => ?_) (by simpa using hr)
        rw [plane_Simple.j2, if_neg (by decide), ej]
      · refine Ev.step (f := fun _ => some false) (fun k => ?_) (Ev.now _)
        rw [plane_Simple.j2, if_pos rfl]
    refine Ev.step (f := fun k => if eqE l i = true then plane_Simple.j2 k l (l.length : Int) (i : Int) (l.length : Int) (i : Int) true (pt l i).f0 (pt l i).f1 (pt l (nx l i)).f0 (pt l (nx l i)).f1 else if onB (pt l (nx l i)) (pt l (nx l (nx l i))) (pt l i) = true then plane_Simple.j2 k l (l.length : Int) (i : Int) (l.length : Int) (i : Int) true (pt l i).f0 (pt l i).f1 (pt l (nx l i)).f0 (pt l (nx l i)).f1 else plane_Simple.j2 k l (l.length : Int) (i : Int) (l.length : Int) (i : Int) (onB (pt l i) (pt l (nx l i)) (pt l (nx l (nx l i)))) (pt l i).f0 (pt l i).f1 (pt l (nx l i)).f0 (pt l (nx l i)).f1) (fun k => ?_) ?_
    · rw [plane_Simple.l0, if_pos (by omega), edge_is l i hil hn, Option.bind_some, if_neg (by omega), nx_tmod l i hil hn, edge_is l (nx l i) hni hn]
      simp only [Option.bind_some]
      show (if eqE l i = true then _ else _) = _
      have e1 : ∀ o, plane_segment_has.f (pt l (nx l i)).f0 (pt l (nx l i)).f1 (pt l ((nx l i + 1) % l.length)).f0 (pt l ((nx l i + 1) % l.length)).f1 (pt l i).f0 (pt l i).f1 = o → some (onB (pt l (nx l i)) (pt l (nx l (nx l i))) (pt l i)) = o := fun o h => h1.symm.trans h
      rw [← e1 _ rfl]
      have e2 : ∀ o, plane_segment_has.f (pt l i).f0 (pt l i).f1 (pt l ((i + 1) % l.length)).f0 (pt l ((i + 1) % l.length)).f1 (pt l ((nx l i + 1) % l.length)).f0 (pt l ((nx l i + 1) % l.length)).f1 = o → some (onB (pt l i) (pt l (nx l i)) (pt l (nx l (nx l i)))) = o := fun o h => h2.symm.trans h
      rw [← e2 _ rfl]
      rfl
    · unfold simB xB
      by_cases he : eqE l i = true
      · rw [he]; exact ev_pos rfl (hj true)
      · rw [Bool.not_eq_true] at he
        rw [he]
        refine ev_neg (by decide) ?_
        by_cases hx : onB (pt l (nx l i)) (pt l (nx l (nx l i))) (pt l i) = true
        · rw [hx]; exact ev_pos rfl (hj true)
        · rw [Bool.not_eq_true] at hx
          rw [hx]
          refine ev_neg (by decide) ?_
          have h := hj (onB (pt l i) (pt l (nx l i)) (pt l (nx l (nx l i))))
          rw [← Bool.and_assoc] at h
          simpa using h
end Go.Proofs.Ythaklbjcjoolcaa.P
namespace Go.Proofs.Ythaklbjcjoolcaa.P
open Go.RowKit Go.Proofs.YthaklbjcjoolcaaW.PrintWords Go.Proofs.YthaklbjcjoolcaaW.PrintLast Go.Proofs.YthaklbjcjoolcaaW.PrintMore
set_option linter.unusedVariables false
set_option linter.unusedSimpArgs false
theorem ref_row (l : List S31) (ho : allOk l = true) (hn : l.length ≤ 4096) (i : Nat) (hi : i < l.length) (v : Bool) (hv : Ev (fun k => silversideref01_Simple.l1 k l (l.length : Int) ((i + 1 : Nat) : Int)) v) :
    ∀ m j, l.length - j = m → j ≤ l.length + 1 → Ev (fun k => silversideref01_Simple.l2 k l (l.length : Int) (i : Int) ((nx l i : Nat) : Int) (j : Int)) (rowB l i m j && v)
  | 0, j, hm, hj => by
    refine Ev.step (f := fun k => silversideref01_Simple.l1 k l (l.length : Int) ((i + 1 : Nat) : Int)) (fun k => ?_) hv
    rw [silversideref01_Simple.l2, if_neg (by omega), w64i (x := (i : Int) + 1) (by omega) (by omega)]
    rfl
  | m + 1, j, hm, hj => by
    have hjl : j < l.length := by omega
    have hnj := nx_lt l j (by omega)
    have hni := nx_lt l i (by omega)
    have ih := ref_row l ho hn i hi v hv m (j + 1) (by omega) (by omega)
    have ej : wrap64 ((j : Int) + 1) = ((j + 1 : Nat) : Int) := w64i (x := (j : Int) + 1) (by omega) (by omega)
    unfold rowB
    by_cases hx : nx l j = i
    · refine Ev.step (f := fun k => silversideref01_Simple.l2 k l (l.length : Int) (i : Int) ((nx l i : Nat) : Int) ((j + 1 : Nat) : Int)) (fun k => ?_) (by rw [decide_eq_true hx, Bool.true_or, Bool.true_and]; exact ih)
      rw [silversideref01_Simple.l2, if_pos (by omega), nx_next l j hjl hn, Option.bind_some, if_pos (by omega), ej]
    · rw [decide_eq_false hx, Bool.false_or]
      refine Ev.step (f := fun k => (silversideref01_meet.f k (pt l i).f0 (pt l i).f1 (pt l (nx l i)).f0 (pt l (nx l i)).f1 (pt l j).f0 (pt l j).f1 (pt l (nx l j)).f0 (pt l (nx l j)).f1).bind fun t => if t = true then some false else silversideref01_Simple.l2 k l (l.length : Int) (i : Int) ((nx l i : Nat) : Int) ((j + 1 : Nat) : Int)) (fun k => ?_) ?_
      · rw [silversideref01_Simple.l2, if_pos (by omega), nx_next l j hjl hn, Option.bind_some, if_neg (by omega), if_pos (by omega), if_pos (by omega), if_pos (by omega), if_pos (by omega), if_pos (by omega), if_pos (by omega), Option.bind_some, if_pos (by omega), if_pos (by omega), ej]
        simp only [rd_pt]
      · refine Ev.bind (Ev.step (f := fun _ => some (meetB (pt l i) (pt l (nx l i)) (pt l j) (pt l (nx l j)))) (fun k => refmeet_is (pt_ok ho hi) (pt_ok ho hni) (pt_ok ho hjl) (pt_ok ho hnj) k) (Ev.now _)) ?_
        cases meetB (pt l i) (pt l (nx l i)) (pt l j) (pt l (nx l j))
        · exact ev_neg (by decide) (by simpa using ih)
        · exact ev_pos rfl (Ev.now _)
theorem crs_cyc (a b c : S31) : crs b c a = crs a b c := by
  unfold crs
  rw [← Int.sub_eq_zero]
  simp only [Int.sub_mul, Int.mul_sub]
  rw [Int.mul_comm c.f0 a.f1, Int.mul_comm c.f0 b.f1, Int.mul_comm b.f0 a.f1, Int.mul_comm b.f0 b.f1, Int.mul_comm c.f1 a.f0, Int.mul_comm c.f1 b.f0, Int.mul_comm b.f1 a.f0, Int.mul_comm a.f0 c.f1, Int.mul_comm a.f0 a.f1, Int.mul_comm b.f0 c.f1]
  omega
theorem ref_tou (l : List S31) (ho : allOk l = true) (hn : l.length ≤ 4096) : ∀ m i, l.length - i = m → i ≤ l.length → Ev (fun k => silversideref01_Simple.l1 k l (l.length : Int) (i : Int)) (touB l m i)
  | 0, i, hm, hi => by
    refine Ev.step (f := fun _ => some true) (fun k => ?_) (Ev.now _)
    rw [silversideref01_Simple.l1, if_neg (by omega)]
  | m + 1, i, hm, hi => by
    have hil : i < l.length := by omega
    have hni := nx_lt l i (by omega)
    have hnn := nx_lt l (nx l i) (by omega)
    have ih := ref_tou l ho hn m (i + 1) (by omega) (by omega)
    have hr := ref_row l ho hn i hil _ ih (l.length - (i + 2)) (i + 2) rfl (by omega)
    have h1 := on_is (pt_ok ho hni) (pt_ok ho hnn) (pt_ok ho hil)
    have h2 := on_is (pt_ok ho hil) (pt_ok ho hni) (pt_ok ho hnn)
    have ht := turn_is (pt_ok ho hil) (pt_ok ho hni) (pt_ok ho hnn)
    have ej : wrap64 ((i : Int) + 2) = ((i + 2 : Nat) : Int) := w64i (x := (i : Int) + 2) (by omega) (by omega)
    have hj : ∀ b : Bool, Ev (fun k => silversideref01_Simple.j3 k l (l.length : Int) (i : Int) ((nx l i : Nat) : Int) b) (!b && (rowB l i (l.length - (i + 2)) (i + 2) && touB l m (i + 1))) := by
      intro b
      cases b
      · refine Ev.step (f := fun k => silversideref01_Simple.l2 k l (l.length : Int) (i : Int) ((nx l i : Nat) : Int) ((i + 2 : Nat) : Int)) (fun k => ?_) (by simpa using hr)
        rw [silversideref01_Simple.j3, if_neg (by decide), ej]
      · refine Ev.step (f := fun _ => some false) (fun k => ?_) (Ev.now _)
        rw [silversideref01_Simple.j3, if_pos rfl]
    refine Ev.step (f := fun k => if sgn (crs (pt l i) (pt l (nx l i)) (pt l (nx l (nx l i)))) = 0 then (if onB (pt l i) (pt l (nx l i)) (pt l (nx l (nx l i))) = true then silversideref01_Simple.j3 k l (l.length : Int) (i : Int) ((nx l i : Nat) : Int) true else silversideref01_Simple.j3 k l (l.length : Int) (i : Int) ((nx l i : Nat) : Int) (onB (pt l (nx l i)) (pt l (nx l (nx l i))) (pt l i))) else silversideref01_Simple.j3 k l (l.length : Int) (i : Int) ((nx l i : Nat) : Int) false) (fun k => ?_) ?_
    · rw [silversideref01_Simple.l1, if_pos (by omega), nx_next l i hil hn, Option.bind_some, nx_next l (nx l i) hni hn, Option.bind_some, if_pos (by omega), if_pos (by omega), if_pos (by omega), if_pos (by omega), if_pos (by omega), if_pos (by omega)]
      simp only [rd_pt, refturn_same, ht, h1, h2, Option.bind_some]
    · unfold touB xB
      by_cases h0 : crs (pt l i) (pt l (nx l i)) (pt l (nx l (nx l i))) = 0
      · refine ev_pos (sgn_zero.2 h0) ?_
        by_cases hx : onB (pt l i) (pt l (nx l i)) (pt l (nx l (nx l i))) = true
        · rw [hx, Bool.or_true]; exact ev_pos rfl (hj true)
        · rw [Bool.not_eq_true] at hx
          rw [hx, Bool.or_false]
          refine ev_neg (by decide) ?_
          have h := hj (onB (pt l (nx l i)) (pt l (nx l (nx l i))) (pt l i))
          rw [← Bool.and_assoc] at h
          exact h
      · refine ev_neg (fun h => h0 (sgn_zero.1 h)) ?_
        have e1 : onB (pt l i) (pt l (nx l i)) (pt l (nx l (nx l i))) = false := Bool.eq_false_iff.2 fun h => h0 (onB_crs h)
        have e2 : onB (pt l (nx l i)) (pt l (nx l (nx l i))) (pt l i) = false := Bool.eq_false_iff.2 fun h => h0 ((crs_cyc _ _ _).symm.trans (onB_crs h))
        rw [e1, e2]
        have h := hj false
        rw [← Bool.and_assoc] at h
        exact h
theorem ref_ne (l : List S31) (ho : allOk l = true) (hn : l.length ≤ 4096) : ∀ m i, l.length - i = m → i ≤ l.length → Ev (fun k => silversideref01_Simple.l0 k l (l.length : Int) (i : Int)) (neB l m i && touB l l.length 0)
  | 0, i, hm, hi => by
    refine Ev.step (f := fun k => silversideref01_Simple.l1 k l (l.length : Int) ((0 : Nat) : Int)) (fun k => ?_) (ref_tou l ho hn l.length 0 (by omega) (by omega))
    rw [silversideref01_Simple.l0, if_neg (by omega)]
    rfl
  | m + 1, i, hm, hi => by
    have hil : i < l.length := by omega
    have hni := nx_lt l i (by omega)
    have ih := ref_ne l ho hn m (i + 1) (by omega) (by omega)
    have ej : wrap64 ((i : Int) + 1) = ((i + 1 : Nat) : Int) := w64i (x := (i : Int) + 1) (by omega) (by omega)
    refine Ev.step (f := fun k => if eqE l i = true then some false else silversideref01_Simple.l0 k l (l.length : Int) ((i + 1 : Nat) : Int)) (fun k => ?_) ?_
    · rw [silversideref01_Simple.l0, if_pos (by omega), if_pos (by omega), if_pos (by omega), nx_next l i hil hn, Option.bind_some, if_pos (by omega), if_pos (by omega), ej]
      simp only [rd_pt]
      rfl
    · unfold neB
      by_cases h : eqE l i = true
      · rw [h]; exact ev_pos rfl (Ev.now _)
      · rw [Bool.not_eq_true] at h
        rw [h]
        exact ev_neg (by decide) ih
/-- a simple polygon, as both find it -/
def simpleS (l : List S31) : Bool := (decide (3 ≤ l.length ∧ l.length ≤ 512) && allOk l) && simB l l.length 0
theorem prog_simple (l : List S31) : Ev (fun k => plane_Simple.f k l) (simpleS l) := by
  have hj : Ev (fun k => plane_Simple.j0 k l (l.length : Int) true) false := by
    refine Ev.step (f := fun _ => some false) (fun k => ?_) (Ev.now _)
    rw [plane_Simple.j0, if_pos rfl]
  unfold plane_Simple.f simpleS
  by_cases h3 : (l.length : Int) < 3
  · rw [decide_eq_false (by omega), Bool.false_and]
    exact ev_pos h3 hj
  · refine ev_neg h3 (Ev.bind (ev_is (isSet_is l)) ?_)
    unfold isSetB
    by_cases h5 : l.length ≤ 512
    · rw [decide_eq_true (show 1 ≤ l.length ∧ l.length ≤ 512 by omega), decide_eq_true (show 3 ≤ l.length ∧ l.length ≤ 512 by omega), Bool.true_and]
      by_cases ha : allOk l = true
      · rw [ha, Bool.true_and]
        refine Ev.step (f := fun k => plane_Simple.l0 k l (l.length : Int) (l.length : Int) ((0 : Nat) : Int)) (fun k => ?_) (prog_sim l ha (by omega) l.length 0 (by omega) (by omega))
        rw [plane_Simple.j0, if_neg (by decide)]
        rfl
      · rw [Bool.not_eq_true] at ha
        rw [ha]; exact hj
    · rw [decide_eq_false (show ¬ (1 ≤ l.length ∧ l.length ≤ 512) by omega), decide_eq_false (show ¬ (3 ≤ l.length ∧ l.length ≤ 512) by omega)]
      exact hj
theorem ref_simple (l : List S31) (hl : l.length < 9223372036854775807) : Ev (fun k => silversideref01_Simple.f k l) (simpleS l) := by
  have hj : Ev (fun k => silversideref01_Simple.j0 k l (l.length : Int) true) false := by
    refine Ev.step (f := fun _ => some false) (fun k => ?_) (Ev.now _)
    rw [silversideref01_Simple.j0, if_pos rfl]
  unfold silversideref01_Simple.f simpleS
  by_cases h3 : (l.length : Int) < 3
  · rw [decide_eq_false (by omega), Bool.false_and]
    exact ev_pos h3 hj
  · refine ev_neg h3 ?_
    by_cases h5 : (l.length : Int) > 512
    · rw [decide_eq_false (by omega), Bool.false_and]
      exact ev_pos h5 hj
    · refine ev_neg h5 (Ev.bind (valids_ev l hl) ?_)
      rw [decide_eq_true (show 3 ≤ l.length ∧ l.length ≤ 512 by omega), Bool.true_and]
      by_cases ha : allOk l = true
      · rw [ha, Bool.true_and, simB_parts]
        refine Ev.step (f := fun k => silversideref01_Simple.l0 k l (l.length : Int) ((0 : Nat) : Int)) (fun k => ?_) (ref_ne l ha (by omega) l.length 0 (by omega) (by omega))
        rw [silversideref01_Simple.j0, if_neg (by decide)]
        rfl
      · rw [Bool.not_eq_true] at ha
        rw [ha]; exact hj
end Go.Proofs.Ythaklbjcjoolcaa.P
namespace Go.Proofs.Ythaklbjcjoolcaa.Pure
open Go.RowKit Go.Proofs.Ythaklbjcjoolcaa.P Go.Proofs.YthaklbjcjoolcaaW.PrintWords Go.Proofs.YthaklbjcjoolcaaW.PrintLast Go.Proofs.YthaklbjcjoolcaaW.PrintMore
/-- inside or outside, as a number -/
def way (odd : Bool) : Int := if odd then 1 else -1
theorem way_flip (odd : Bool) : wrap64 (-way odd) = way (!odd) := by
  rw [w64i (by cases odd <;> decide) (by cases odd <;> decide)]
  cases odd <;> rfl
theorem prog_ins (l : List S31) (p : S31) (ho : allOk l = true) (hp : okPt p = true) (hn : l.length ≤ 4096) : ∀ (m i : Nat) (odd : Bool), l.length - i = m → i ≤ l.length →
    Ev (fun k => plane_Inside.l0 k l (way odd) (l.length : Int) (i : Int) p.f0 p.f1) (insR l p m i odd, 0)
  | 0, i, odd, hm, hi => by
    refine Ev.step (f := fun _ => some (way odd, 0)) (fun k => ?_) (Ev.now _)
    rw [plane_Inside.l0, if_neg (by omega)]
  | m + 1, i, odd, hm, hi => by
    have hlt : i < l.length := by omega
    have hnb : (i + 1) % l.length < l.length := Nat.mod_lt _ (by omega)
    have oa := pt_ok ho hlt
    have ob := pt_ok ho hnb
    have ih := fun o => prog_ins l p ho hp hn m (i + 1) o (by omega) (by omega)
    have ej : wrap64 ((i : Int) + 1) = ((i + 1 : Nat) : Int) := w64i (x := (i : Int) + 1) (by omega) (by omega)
    have he := edge_is l i hlt hn
    have hst : insR l p (m + 1) i odd = if onB (pt l i) (pt l ((i + 1) % l.length)) p = true then 0 else insR l p m (i + 1) (xor odd (crossR (pt l i) (pt l ((i + 1) % l.length)) p)) := rfl
    rw [hst]
    generalize pt l ((i + 1) % l.length) = b at *
    generalize pt l i = a at *
    have hh := has_is oa ob hp
    have t1 := turn_is oa ob hp
    have t2 := turn_is ob oa hp
    refine Ev.step (f := fun k => if onB a b p = true then some (0, 0) else plane_Inside.l0 k l (way (xor odd (crossR a b p))) (l.length : Int) ((i + 1 : Nat) : Int) p.f0 p.f1) (fun k => ?_) ?_
    · rw [plane_Inside.l0, if_pos (by omega), he, Option.bind_some]
      simp only
      rw [hh, Option.bind_some, ej]
      by_cases ho : onB a b p = true
      · rw [if_pos ho, if_pos ho]
      · rw [if_neg ho, if_neg ho]
        by_cases h1 : a.f1 > b.f1
        · rw [if_pos h1]
          by_cases h2 : b.f1 ≤ p.f1
          · rw [if_pos h2]
            by_cases h3 : p.f1 < a.f1
            · rw [if_pos h3, t2, Option.bind_some]
              by_cases h4 : 0 < crs b a p
              · have hc : crossR a b p = true := by unfold crossR; rw [decide_eq_true_eq]; exact Or.inr ⟨h2, h3, h4⟩
                rw [if_pos (sgn_pos.2 h4), hc, way_flip, Bool.xor_true]
              · have hc : crossR a b p = false := by unfold crossR; rw [decide_eq_false_iff_not]; omega
                rw [if_neg (fun h => h4 (sgn_pos.1 h)), hc, Bool.xor_false]
            · have hc : crossR a b p = false := by unfold crossR; rw [decide_eq_false_iff_not]; omega
              rw [if_neg h3, hc, Bool.xor_false]
          · have hc : crossR a b p = false := by unfold crossR; rw [decide_eq_false_iff_not]; omega
            rw [if_neg h2, hc, Bool.xor_false]
        · rw [if_neg h1]
          by_cases h2 : a.f1 ≤ p.f1
          · rw [if_pos h2]
            by_cases h3 : p.f1 < b.f1
            · rw [if_pos h3, t1, Option.bind_some]
              by_cases h4 : 0 < crs a b p
              · have hc : crossR a b p = true := by unfold crossR; rw [decide_eq_true_eq]; exact Or.inl ⟨h2, h3, h4⟩
                rw [if_pos (sgn_pos.2 h4), hc, way_flip, Bool.xor_true]
              · have hc : crossR a b p = false := by unfold crossR; rw [decide_eq_false_iff_not]; omega
                rw [if_neg (fun h => h4 (sgn_pos.1 h)), hc, Bool.xor_false]
            · have hc : crossR a b p = false := by unfold crossR; rw [decide_eq_false_iff_not]; omega
              rw [if_neg h3, hc, Bool.xor_false]
          · have hc : crossR a b p = false := by unfold crossR; rw [decide_eq_false_iff_not]; omega
            rw [if_neg h2, hc, Bool.xor_false]
    · by_cases ho : onB a b p = true
      · rw [if_pos ho]; exact ev_pos ho (Ev.now _)
      · rw [if_neg ho]; exact ev_neg ho (ih _)
theorem invalid_is (p : S31) : plane_invalid.f p.f0 p.f1 = some (!okPt p) := by
  unfold plane_invalid.f plane_valid.f okPt
  simp only [within_is, Option.bind_some]
  by_cases h1 : -4096 ≤ p.f0 ∧ p.f0 ≤ 4096
  · by_cases h2 : -4096 ≤ p.f1 ∧ p.f1 ≤ 4096 <;> simp [h1, h2]
  · simp [h1]
/-- the program's answer -/
theorem inside_ev (t : List S31) (p : S31) : Ev (fun k => plane_Inside.f k t p.f0 p.f1) (if simpleS t = true ∧ okPt p = true then (insR t p t.length 0 false, 0) else (0, 2)) := by
  have no : Ev (fun k => plane_Inside.j0 k t true p.f0 p.f1) (0, 2) := by
    refine Ev.step (f := fun _ => some (0, 2)) (fun k => ?_) (Ev.now _)
    rw [plane_Inside.j0, if_pos rfl]
  unfold plane_Inside.f
  refine Ev.bind (prog_simple t) ?_
  by_cases hs : simpleS t = true
  · refine ev_pos hs (Ev.bind (ev_is (invalid_is p)) ?_)
    by_cases hp : okPt p = true
    · rw [if_pos ⟨hs, hp⟩, hp]
      unfold simpleS at hs
      simp only [Bool.and_eq_true, decide_eq_true_eq] at hs
      refine Ev.step (fun k => ?_) (prog_ins t p hs.1.2 hp (by omega) t.length 0 false (by omega) (by omega))
      rw [plane_Inside.j0, if_neg (by decide)]
      rfl
    · rw [if_neg (fun h => hp h.2)]
      rw [Bool.not_eq_true] at hp
      rw [hp]; exact no
  · rw [if_neg (fun h => hs h.1)]
    exact ev_neg hs no
theorem PlaneInside (l : List S31) (x y : Int) (_ : ∀ q ∈ l, (Lit.int .i64 q.f0).wf = true ∧ (Lit.int .i64 q.f1).wf = true) (_ : (Lit.int .i64 x).wf = true) (_ : (Lit.int .i64 y).wf = true) : ∃ k, silversidelaw01_PlaneInside.f k l x y = some true := by
  refine Ev.rounds ?_
  unfold silversidelaw01_PlaneInside.f
  obtain ⟨t, ht, hl, _⟩ := some_is l 60 (by decide)
  refine Ev.bind (ev_is ht) (Ev.bind (inside_ev t ⟨x, y⟩) (Ev.bind (ref_simple t (by omega)) ?_))
  have bad : Ev (fun k => silversidelaw01_PlaneInside.j0 k t 0 2 true x y) true := by
    refine Ev.step (f := fun k => (silversidelaw01_awake.f k).bind fun t => some t) (fun k => ?_) awake_bind
    rw [silversidelaw01_PlaneInside.j0, if_pos rfl, if_pos rfl, if_pos rfl]
  by_cases hs : simpleS t = true
  · refine ev_pos hs (Ev.bind (ev_is (valid_is ⟨x, y⟩)) ?_)
    by_cases hp : okPt ⟨x, y⟩ = true
    · rw [if_pos ⟨hs, hp⟩, hp]
      unfold simpleS at hs
      simp only [Bool.and_eq_true, decide_eq_true_eq] at hs
      have hR : silversideref01_Inside.f t x y = some (insR t ⟨x, y⟩ t.length 0 false) := by unfold silversideref01_Inside.f; rw [if_pos ⟨hs.1.2, hp, by omega⟩]
      refine Ev.step (f := fun k => (silversidelaw01_awake.f k).bind fun t => some t) (fun k => ?_) awake_bind
      rw [silversidelaw01_PlaneInside.j0, if_neg (by decide), hR, Option.bind_some, if_pos rfl, if_pos rfl]
    · rw [if_neg (fun h => hp h.2)]
      rw [Bool.not_eq_true] at hp
      rw [hp]; exact bad
  · rw [if_neg (fun h => hs h.1)]
    exact ev_neg hs bad
end Go.Proofs.Ythaklbjcjoolcaa.Pure
