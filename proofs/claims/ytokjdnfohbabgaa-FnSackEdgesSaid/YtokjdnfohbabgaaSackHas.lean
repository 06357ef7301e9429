/-
  Does a receipt have a part? The program's and the reference's functions.
-/
import Derived.Test.YtokjdnfohbabgaaSackPut
import Derived.Test.YtokjdnfohbabgaaSerial
namespace Go.Proofs.Ytokjdnfohbabgaa
set_option linter.unusedVariables false
set_option linter.unusedSimpArgs false
open Go.RowKit

/-- A number is in one of the blocks. -/
def inG (d : Int) : List (Int × Int) → Bool
  | [] => false
  | g :: r => decide (g.1 ≤ d ∧ d ≤ g.2) || inG d r
theorem inG_step {d : Int} {xs : List (Int × Int)} {j : Nat} (h : j < xs.length) : inG d (xs.drop j) = (decide ((xs.getD j (0, 0)).1 ≤ d ∧ d ≤ (xs.getD j (0, 0)).2) || inG d (xs.drop (j + 1))) := by
  rw [drop_get xs j h]; rfl
/-- What SackHas gives. -/
def sackHasV (cum : Int) (xs : List (Int × Int)) (tsn : Int) : Bool := sackOkV cum xs && serOk tsn && (decide (serDiff cum tsn ≤ 0) || inG (serDiff cum tsn) xs)
set_option maxHeartbeats 4000000 in
theorem c_SackHas (cum tsn : Int) (A : Option Addr) (n c : Nat) (xs : List (Int × Int)) (B : Nat) (w : World) (hG : Gaps w B A n xs) (hBw : B ≤ w.heap.size) (hn : n ≤ 9000000000000000) :
    Calls Try.prog 23 #[.agg #[.int .i64 cum, .slice A n c], .int .i64 tsn] w fun e w' => e = .returned (.bool (sackHasV cum xs tsn)) ∧ Below w.heap.size w w' := by
  have hA := Nat.le_trans hBw (Nat.le_succ w.heap.size)
  have HL := Lib.hid hG.1
  have B0 := Lib.hid (Below.refl w.heap.size w)
  cases hok : sackOkV cum xs with
  | false =>
    have hv := Lib.hid (show sackHasV cum xs tsn = false by unfold sackHasV; rw [hok]; rfl)
    go_enter Try.func23, Try.ntmps23
    go_wp2_with fail
    refine (c_sackOk cum A n c xs B _ (by (repeat' (first | (with_reducible exact hG) | with_reducible refine Gaps.alloc ?_ ?_ _ | with_reducible refine Gaps.setCell ?_ ?_ _ | with_reducible refine Gaps.drew ?_ | with_reducible refine Gaps.drewN ?_ _ | omega | (simp; done) | (simp; omega)))) (by first | omega | (simp; done) | (simp; omega)) (by unfold maxLen; omega)).mono ?_
    rintro e w1 ⟨rfl, h1⟩
    have P_1 : Blk w1 (w.heap.size) 28 #[.int .i64 cum, .slice A n c] := Blk.below (by (repeat' (first | (with_reducible refine Blk.drewN ?_ _) | (with_reducible refine Blk.drew ?_) | (with_reducible refine Blk.new1 ?hb; case hb => (first | omega | (simp; done) | (simp; omega))) | (with_reducible refine Blk.alloc ?_ _) | (with_reducible refine' Blk.set2_0 ?_ ?hb; case hb => (first | omega | (simp; done) | (simp; omega))) | (with_reducible refine' Blk.set2_1 ?_ ?hb; case hb => (first | omega | (simp; done) | (simp; omega))) | (with_reducible refine' Blk.set3_0 ?_ ?hb; case hb => (first | omega | (simp; done) | (simp; omega))) | (with_reducible refine' Blk.set3_1 ?_ ?hb; case hb => (first | omega | (simp; done) | (simp; omega))) | (with_reducible refine' Blk.set3_2 ?_ ?hb; case hb => (first | omega | (simp; done) | (simp; omega))) | (with_reducible refine' Blk.set4_0 ?_ ?hb; case hb => (first | omega | (simp; done) | (simp; omega))) | (with_reducible refine' Blk.set4_1 ?_ ?hb; case hb => (first | omega | (simp; done) | (simp; omega))) | (with_reducible refine' Blk.set4_2 ?_ ?hb; case hb => (first | omega | (simp; done) | (simp; omega))) | (with_reducible refine' Blk.set4_3 ?_ ?hb; case hb => (first | omega | (simp; done) | (simp; omega))) | (with_reducible refine' Blk.set7_0 ?_ ?hb; case hb => (first | omega | (simp; done) | (simp; omega))) | (with_reducible refine' Blk.set7_1 ?_ ?hb; case hb => (first | omega | (simp; done) | (simp; omega))) | (with_reducible refine' Blk.set7_2 ?_ ?hb; case hb => (first | omega | (simp; done) | (simp; omega))) | (with_reducible refine' Blk.set7_3 ?_ ?hb; case hb => (first | omega | (simp; done) | (simp; omega))) | (with_reducible refine' Blk.set7_4 ?_ ?hb; case hb => (first | omega | (simp; done) | (simp; omega))) | (with_reducible refine' Blk.set7_5 ?_ ?hb; case hb => (first | omega | (simp; done) | (simp; omega))) | (with_reducible refine' Blk.set7_6 ?_ ?hb; case hb => (first | omega | (simp; done) | (simp; omega))) | (with_reducible refine Blk.far ?_ ?hb _; case hb => (first | omega | (simp; done) | (simp; omega))) | fail))) h1 (by (first | omega | (simp; done) | (simp; omega)))
    have B1 := Lib.hid (below_step (B := w.heap.size) (w0 := w) (by (repeat' (first | with_reducible exact B0.out | with_reducible exact Below.refl _ _ | with_reducible refine below_drew1 ?_ | with_reducible refine below_drewN ?_ _ | with_reducible refine Below.alloc ?_ ?_ _ | with_reducible refine Below.setCell ?_ ?_ _ | omega | (simp; done) | (simp; omega)))) (by have := B0.out.size; (first | omega | (simp; done) | (simp; omega))) h1)
    have z1 : w.heap.size ≤ w1.heap.size := B1.out.size
    clear h1 B0
    obtain ⟨⟨P_0_, P_1_⟩, P_f0_, P_f1_⟩ := P_1.get2n
    have P_l := P_1.lt
    have P_l1_ : w.heap.size < w1.heap.size + 1 := by omega
    have P_l2_ : w.heap.size < w1.heap.size + 2 := by omega
    have P_l3_ : w.heap.size < w1.heap.size + 3 := by omega
    have P_l4_ : w.heap.size < w1.heap.size + 4 := by omega
    go_wp2
    go_ret
    exact ⟨ret_bool hv.out.symm, by (repeat' (first | with_reducible exact B1.out | with_reducible exact Below.refl _ _ | with_reducible refine below_drew1 ?_ | with_reducible refine below_drewN ?_ _ | with_reducible refine Below.alloc ?_ ?_ _ | with_reducible refine Below.setCell ?_ ?_ _ | omega | (simp; done) | (simp; omega)))⟩
  | true =>
    obtain ⟨hc0, hc1, -, -⟩ := sackOk_yes hok
    cases hts : serOk tsn with
    | false =>
      have hv := Lib.hid (show sackHasV cum xs tsn = false by unfold sackHasV; rw [hok, hts]; rfl)
      have B0 := Lib.hid (Below.refl w.heap.size w)
      go_enter Try.func23, Try.ntmps23
      go_wp2_with fail
      refine (c_sackOk cum A n c xs B _ (by (repeat' (first | (with_reducible exact hG) | with_reducible refine Gaps.alloc ?_ ?_ _ | with_reducible refine Gaps.setCell ?_ ?_ _ | with_reducible refine Gaps.drew ?_ | with_reducible refine Gaps.drewN ?_ _ | omega | (simp; done) | (simp; omega)))) (by first | omega | (simp; done) | (simp; omega)) (by unfold maxLen; omega)).mono ?_
      rintro e w1 ⟨rfl, h1⟩
      have P_1 : Blk w1 (w.heap.size) 28 #[.int .i64 cum, .slice A n c] := Blk.below (by (repeat' (first | (with_reducible refine Blk.drewN ?_ _) | (with_reducible refine Blk.drew ?_) | (with_reducible refine Blk.new1 ?hb; case hb => (first | omega | (simp; done) | (simp; omega))) | (with_reducible refine Blk.alloc ?_ _) | (with_reducible refine' Blk.set2_0 ?_ ?hb; case hb => (first | omega | (simp; done) | (simp; omega))) | (with_reducible refine' Blk.set2_1 ?_ ?hb; case hb => (first | omega | (simp; done) | (simp; omega))) | (with_reducible refine' Blk.set3_0 ?_ ?hb; case hb => (first | omega | (simp; done) | (simp; omega))) | (with_reducible refine' Blk.set3_1 ?_ ?hb; case hb => (first | omega | (simp; done) | (simp; omega))) | (with_reducible refine' Blk.set3_2 ?_ ?hb; case hb => (first | omega | (simp; done) | (simp; omega))) | (with_reducible refine' Blk.set4_0 ?_ ?hb; case hb => (first | omega | (simp; done) | (simp; omega))) | (with_reducible refine' Blk.set4_1 ?_ ?hb; case hb => (first | omega | (simp; done) | (simp; omega))) | (with_reducible refine' Blk.set4_2 ?_ ?hb; case hb => (first | omega | (simp; done) | (simp; omega))) | (with_reducible refine' Blk.set4_3 ?_ ?hb; case hb => (first | omega | (simp; done) | (simp; omega))) | (with_reducible refine' Blk.set7_0 ?_ ?hb; case hb => (first | omega | (simp; done) | (simp; omega))) | (with_reducible refine' Blk.set7_1 ?_ ?hb; case hb => (first | omega | (simp; done) | (simp; omega))) | (with_reducible refine' Blk.set7_2 ?_ ?hb; case hb => (first | omega | (simp; done) | (simp; omega))) | (with_reducible refine' Blk.set7_3 ?_ ?hb; case hb => (first | omega | (simp; done) | (simp; omega))) | (with_reducible refine' Blk.set7_4 ?_ ?hb; case hb => (first | omega | (simp; done) | (simp; omega))) | (with_reducible refine' Blk.set7_5 ?_ ?hb; case hb => (first | omega | (simp; done) | (simp; omega))) | (with_reducible refine' Blk.set7_6 ?_ ?hb; case hb => (first | omega | (simp; done) | (simp; omega))) | (with_reducible refine Blk.far ?_ ?hb _; case hb => (first | omega | (simp; done) | (simp; omega))) | fail))) h1 (by (first | omega | (simp; done) | (simp; omega)))
      have B1 := Lib.hid (below_step (B := w.heap.size) (w0 := w) (by (repeat' (first | with_reducible exact B0.out | with_reducible exact Below.refl _ _ | with_reducible refine below_drew1 ?_ | with_reducible refine below_drewN ?_ _ | with_reducible refine Below.alloc ?_ ?_ _ | with_reducible refine Below.setCell ?_ ?_ _ | omega | (simp; done) | (simp; omega)))) (by have := B0.out.size; (first | omega | (simp; done) | (simp; omega))) h1)
      have z1 : w.heap.size ≤ w1.heap.size := B1.out.size
      clear h1 B0
      obtain ⟨⟨P_0_, P_1_⟩, P_f0_, P_f1_⟩ := P_1.get2n
      have P_l := P_1.lt
      have P_l1_ : w.heap.size < w1.heap.size + 1 := by omega
      have P_l2_ : w.heap.size < w1.heap.size + 2 := by omega
      have P_l3_ : w.heap.size < w1.heap.size + 3 := by omega
      have P_l4_ : w.heap.size < w1.heap.size + 4 := by omega
      go_wp2_with fail
      refine (c_serialOk tsn _).mono ?_
      rintro e w' ⟨rfl, rfl⟩
      go_wp2
      go_ret
      exact ⟨ret_bool hv.out.symm, by (repeat' (first | with_reducible exact B1.out | with_reducible exact Below.refl _ _ | with_reducible refine below_drew1 ?_ | with_reducible refine below_drewN ?_ _ | with_reducible refine Below.alloc ?_ ?_ _ | with_reducible refine Below.setCell ?_ ?_ _ | omega | (simp; done) | (simp; omega)))⟩
    | true =>
      obtain ⟨ht0, ht1⟩ := serOk_yes hts
      have hv := Lib.hid (show sackHasV cum xs tsn = (decide (serDiff cum tsn ≤ 0) || inG (serDiff cum tsn) xs) by unfold sackHasV; rw [hok, hts]; rfl)
      have cd := fun W => c_SerialDiff cum tsn W hc0 (by omega) ht0 ht1
      generalize serDiff cum tsn = d at *
      have CD := Lib.hid cd
      clear cd
      have B0 := Lib.hid (Below.refl w.heap.size w)
      go_enter Try.func23, Try.ntmps23
      go_wp2_with fail
      refine (c_sackOk cum A n c xs B _ (by (repeat' (first | (with_reducible exact hG) | with_reducible refine Gaps.alloc ?_ ?_ _ | with_reducible refine Gaps.setCell ?_ ?_ _ | with_reducible refine Gaps.drew ?_ | with_reducible refine Gaps.drewN ?_ _ | omega | (simp; done) | (simp; omega)))) (by first | omega | (simp; done) | (simp; omega)) (by unfold maxLen; omega)).mono ?_
      rintro e w1 ⟨rfl, h1⟩
      have P_1 : Blk w1 (w.heap.size) 28 #[.int .i64 cum, .slice A n c] := Blk.below (by (repeat' (first | (with_reducible refine Blk.drewN ?_ _) | (with_reducible refine Blk.drew ?_) | (with_reducible refine Blk.new1 ?hb; case hb => (first | omega | (simp; done) | (simp; omega))) | (with_reducible refine Blk.alloc ?_ _) | (with_reducible refine' Blk.set2_0 ?_ ?hb; case hb => (first | omega | (simp; done) | (simp; omega))) | (with_reducible refine' Blk.set2_1 ?_ ?hb; case hb => (first | omega | (simp; done) | (simp; omega))) | (with_reducible refine' Blk.set3_0 ?_ ?hb; case hb => (first | omega | (simp; done) | (simp; omega))) | (with_reducible refine' Blk.set3_1 ?_ ?hb; case hb => (first | omega | (simp; done) | (simp; omega))) | (with_reducible refine' Blk.set3_2 ?_ ?hb; case hb => (first | omega | (simp; done) | (simp; omega))) | (with_reducible refine' Blk.set4_0 ?_ ?hb; case hb => (first | omega | (simp; done) | (simp; omega))) | (with_reducible refine' Blk.set4_1 ?_ ?hb; case hb => (first | omega | (simp; done) | (simp; omega))) | (with_reducible refine' Blk.set4_2 ?_ ?hb; case hb => (first | omega | (simp; done) | (simp; omega))) | (with_reducible refine' Blk.set4_3 ?_ ?hb; case hb => (first | omega | (simp; done) | (simp; omega))) | (with_reducible refine' Blk.set7_0 ?_ ?hb; case hb => (first | omega | (simp; done) | (simp; omega))) | (with_reducible refine' Blk.set7_1 ?_ ?hb; case hb => (first | omega | (simp; done) | (simp; omega))) | (with_reducible refine' Blk.set7_2 ?_ ?hb; case hb => (first | omega | (simp; done) | (simp; omega))) | (with_reducible refine' Blk.set7_3 ?_ ?hb; case hb => (first | omega | (simp; done) | (simp; omega))) | (with_reducible refine' Blk.set7_4 ?_ ?hb; case hb => (first | omega | (simp; done) | (simp; omega))) | (with_reducible refine' Blk.set7_5 ?_ ?hb; case hb => (first | omega | (simp; done) | (simp; omega))) | (with_reducible refine' Blk.set7_6 ?_ ?hb; case hb => (first | omega | (simp; done) | (simp; omega))) | (with_reducible refine Blk.far ?_ ?hb _; case hb => (first | omega | (simp; done) | (simp; omega))) | fail))) h1 (by (first | omega | (simp; done) | (simp; omega)))
      have B1 := Lib.hid (below_step (B := w.heap.size) (w0 := w) (by (repeat' (first | with_reducible exact B0.out | with_reducible exact Below.refl _ _ | with_reducible refine below_drew1 ?_ | with_reducible refine below_drewN ?_ _ | with_reducible refine Below.alloc ?_ ?_ _ | with_reducible refine Below.setCell ?_ ?_ _ | omega | (simp; done) | (simp; omega)))) (by have := B0.out.size; (first | omega | (simp; done) | (simp; omega))) h1)
      have z1 : w.heap.size ≤ w1.heap.size := B1.out.size
      clear h1 B0
      obtain ⟨⟨P_0_, P_1_⟩, P_f0_, P_f1_⟩ := P_1.get2n
      have P_l := P_1.lt
      have P_l1_ : w.heap.size < w1.heap.size + 1 := by omega
      have P_l2_ : w.heap.size < w1.heap.size + 2 := by omega
      have P_l3_ : w.heap.size < w1.heap.size + 3 := by omega
      have P_l4_ : w.heap.size < w1.heap.size + 4 := by omega
      go_wp2_with fail
      refine (c_serialOk tsn _).mono ?_
      rintro e w' ⟨rfl, rfl⟩
      go_wp2_with fail
      refine (CD.out _).mono ?_
      rintro e w' ⟨rfl, rfl⟩
      by_cases hd : d ≤ 0
      · have hv2 := Lib.hid (show sackHasV cum xs tsn = true by rw [hv.out]; simp [hd])
        go_wp2
        go_ret
        exact ⟨ret_bool hv2.out.symm, B1.out⟩
      have HV := Lib.hid (show sackHasV cum xs tsn = inG d (xs.drop 0) by rw [hv.out]; simp [hd])
      go_wp2
      go_loopw [7, 25] (fun _ i wr => ∃ j : Nat, j ≤ n ∧ i = .int .i64 j ∧ sackHasV cum xs tsn = inG d (xs.drop j) ∧ Below w.heap.size w wr) (fun _ i _ => n - (intOf i).toNat)
      case atStart => exact ⟨0, Nat.zero_le _, rfl, HV.out, B1.out⟩
      case round =>
        obtain ⟨j, hj, rfl, hin, hB⟩ := hrel
        have B2 := Lib.hid hB
        have IN := Lib.hid hin
        have hz := hB.size
        clear hB hin
        by_cases hlt : j < n
        · obtain ⟨b, o, rfl, hb, hc⟩ := hG.2 (by omega)
          obtain ⟨k0, k1⟩ := hc j hlt
          have hb := Nat.lt_of_lt_of_le hb hBw
          have d0 := (B2.out.cell (p := ⟨b, o + j * 2, none⟩) hb).trans k0
          have d1 := (B2.out.cell (p := ⟨b, o + j * 2 + 1, none⟩) hb).trans k1
          have hst := Lib.hid (inG_step (d := d) (xs := xs) (j := j) (by rw [HL.out]; exact hlt))
          generalize hgx : xs.getD j (0, 0) = g at *
          obtain ⟨f, t⟩ := g
          clear hgx hc k0 k1 hG hBw hA
          simp only at d0 d1
          have hjn : (j : Int) < (n : Int) := by omega
          by_cases h1 : d < f
          · have hr := Lib.hid (show sackHasV cum xs tsn = inG d (xs.drop (j + 1)) by rw [IN.out, hst.out]; simp; omega)
            go_wp2
            go_roundw
            case rel => exact ⟨j + 1, by omega, by go_num, hr.out, by (repeat' (first | with_reducible exact B2.out | with_reducible exact Below.refl _ _ | with_reducible refine below_drew1 ?_ | with_reducible refine below_drewN ?_ _ | with_reducible refine Below.alloc ?_ ?_ _ | with_reducible refine Below.setCell ?_ ?_ _ | omega | (simp; done) | (simp; omega)))⟩
            case measure => simp [intOf]; omega
          by_cases h2 : t < d
          · have hr := Lib.hid (show sackHasV cum xs tsn = inG d (xs.drop (j + 1)) by rw [IN.out, hst.out]; simp; omega)
            go_wp2
            go_roundw
            case rel => exact ⟨j + 1, by omega, by go_num, hr.out, by (repeat' (first | with_reducible exact B2.out | with_reducible exact Below.refl _ _ | with_reducible refine below_drew1 ?_ | with_reducible refine below_drewN ?_ _ | with_reducible refine Below.alloc ?_ ?_ _ | with_reducible refine Below.setCell ?_ ?_ _ | omega | (simp; done) | (simp; omega)))⟩
            case measure => simp [intOf]; omega
          have hr := Lib.hid (show sackHasV cum xs tsn = true by rw [IN.out, hst.out]; simp; omega)
          go_wp2
          go_ret
          exact ⟨ret_bool hr.out.symm, by (repeat' (first | with_reducible exact B2.out | with_reducible exact Below.refl _ _ | with_reducible refine below_drew1 ?_ | with_reducible refine below_drewN ?_ _ | with_reducible refine Below.alloc ?_ ?_ _ | with_reducible refine Below.setCell ?_ ?_ _ | omega | (simp; done) | (simp; omega)))⟩
        · have hje : j = n := by omega
          subst hje
          have hr := Lib.hid (show sackHasV cum xs tsn = false by rw [IN.out, List.drop_eq_nil_of_le (Nat.le_of_eq HL.out)]; rfl)
          go_wp2
          go_ret
          exact ⟨ret_bool hr.out.symm, B2.out⟩
end Go.Proofs.Ytokjdnfohbabgaa
