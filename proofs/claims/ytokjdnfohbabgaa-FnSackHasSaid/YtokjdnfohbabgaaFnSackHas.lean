/-
  Blocks are counted from the last part: for every code. No condition.
-/
import Derived.Test.YtokjdnfohbabgaaDrawSackL
import Derived.Test.YtokjdnfohbabgaaSSackHas
import Derived.Test.YtokjdnfohbabgaaOpen
namespace Go.Proofs.Ytokjdnfohbabgaa.fnSackHas
open Go.ChangeShapes Go.WideShapes Go.ChangeAt Go.RowKit
open Go.ChangeMaps (open_string shut_string)
set_option linter.unusedVariables false
set_option linter.unusedSimpArgs false
set_option maxRecDepth 100000 in
set_option maxHeartbeats 4000000 in
theorem walk (a0 : Option Addr) (n0 c0 : Nat) (w : World) (w0 : Code w a0 n0 c0) :
    Calls Try.prog 9 #[.slice a0 n0 c0] w fun e w' => e = .returned (.bool true) ∧ Below w.heap.size w w' := by
  have hc := w0.2.1
  unfold maxLen at hc
  have hn := w0.1
  by_cases hbig : 1048576 < n0
  · go_enter Try.func9, Try.ntmps9
    go_wp2
    go_ret
    exact ⟨rfl, Below.refl _ _⟩
  have hq : ∀ b : Bool, (b != b) = false := fun b => by simp
  have hq2 : ∀ b : Bool, (b == b) = true := fun b => by simp
  have B0 := Lib.hid (Below.refl w.heap.size w)
  go_enter Try.func9, Try.ntmps9
  go_wp2_with fail
  refine (c_DrawSackHas a0 n0 c0 _ w0).mono ?_
  rintro e w1 ⟨cum, tsn, A, n, c, xs, rfl, hx0, hx1, ht0, ht1, hn10, hnc, hcm, hG, h1⟩
  have B1 := Lib.hid (below_step (B := w.heap.size) (w0 := w) (by (repeat' (first | with_reducible exact B0.out | with_reducible exact Below.refl _ _ | with_reducible refine below_drew1 ?_ | with_reducible refine below_drewN ?_ _ | with_reducible refine Below.alloc ?_ ?_ _ | with_reducible refine Below.setCell ?_ ?_ _ | omega | (simp; done) | (simp; omega)))) (by have := B0.out.size; (first | omega | (simp; done) | (simp; omega))) h1)
  have z1 : w.heap.size ≤ w1.heap.size := B1.out.size
  clear h1 B0
  have GA_1 : Gaps w1 w1.heap.size A n xs := hG
  have GA_z1 : w1.heap.size ≤ w1.heap.size := by omega
  clear hG hn hc
  have HL := Lib.hid GA_1.1
  have ci := fun W h1 h2 => c_SackHas cum tsn A n c xs w1.heap.size W h1 h2 (by omega)
  have cs := fun W h1 h2 => c_sSackHas cum tsn A n c xs w1.heap.size W h1 h2 (by omega)
  have ck := fun W h1 h2 => c_sSackHas cum cum A n c xs w1.heap.size W h1 h2 (by omega)
  obtain ⟨v, hv⟩ : ∃ v, sackHasV cum xs tsn = v := ⟨_, rfl⟩
  obtain ⟨k, hk⟩ : ∃ k, sackHasV cum xs cum = k := ⟨_, rfl⟩
  rw [hv] at ci cs
  rw [hk] at ck
  have CI := Lib.hid ci
  have CS := Lib.hid cs
  have CK := Lib.hid ck
  have HV := Lib.hid hv
  have HK := Lib.hid hk
  clear ci cs ck hv hk
  go_wp2_with fail
  refine (CI.out _ (by (repeat' (first | (with_reducible exact GA_1) | with_reducible refine Gaps.alloc ?_ ?_ _ | with_reducible refine Gaps.setCell ?_ ?_ _ | with_reducible refine Gaps.drew ?_ | with_reducible refine Gaps.drewN ?_ _ | omega | (simp; done) | (simp; omega)))) (by first | omega | (simp; done) | (simp; omega))).mono ?_
  rintro e w2 ⟨rfl, h2⟩
  have S_2 : Blk w2 (w1.heap.size) 28 #[.int .i64 cum, .slice A n c] := Blk.below (by (repeat' (first | (with_reducible refine Blk.drewN ?_ _) | (with_reducible refine Blk.drew ?_) | (with_reducible refine Blk.new1 ?hb; case hb => (first | omega | (simp; done) | (simp; omega))) | (with_reducible refine Blk.alloc ?_ _) | (with_reducible refine' Blk.set2_0 ?_ ?hb; case hb => (first | omega | (simp; done) | (simp; omega))) | (with_reducible refine' Blk.set2_1 ?_ ?hb; case hb => (first | omega | (simp; done) | (simp; omega))) | (with_reducible refine' Blk.set3_0 ?_ ?hb; case hb => (first | omega | (simp; done) | (simp; omega))) | (with_reducible refine' Blk.set3_1 ?_ ?hb; case hb => (first | omega | (simp; done) | (simp; omega))) | (with_reducible refine' Blk.set3_2 ?_ ?hb; case hb => (first | omega | (simp; done) | (simp; omega))) | (with_reducible refine' Blk.set4_0 ?_ ?hb; case hb => (first | omega | (simp; done) | (simp; omega))) | (with_reducible refine' Blk.set4_1 ?_ ?hb; case hb => (first | omega | (simp; done) | (simp; omega))) | (with_reducible refine' Blk.set4_2 ?_ ?hb; case hb => (first | omega | (simp; done) | (simp; omega))) | (with_reducible refine' Blk.set4_3 ?_ ?hb; case hb => (first | omega | (simp; done) | (simp; omega))) | (with_reducible refine' Blk.set7_0 ?_ ?hb; case hb => (first | omega | (simp; done) | (simp; omega))) | (with_reducible refine' Blk.set7_1 ?_ ?hb; case hb => (first | omega | (simp; done) | (simp; omega))) | (with_reducible refine' Blk.set7_2 ?_ ?hb; case hb => (first | omega | (simp; done) | (simp; omega))) | (with_reducible refine' Blk.set7_3 ?_ ?hb; case hb => (first | omega | (simp; done) | (simp; omega))) | (with_reducible refine' Blk.set7_4 ?_ ?hb; case hb => (first | omega | (simp; done) | (simp; omega))) | (with_reducible refine' Blk.set7_5 ?_ ?hb; case hb => (first | omega | (simp; done) | (simp; omega))) | (with_reducible refine' Blk.set7_6 ?_ ?hb; case hb => (first | omega | (simp; done) | (simp; omega))) | (with_reducible refine Blk.far ?_ ?hb _; case hb => (first | omega | (simp; done) | (simp; omega))) | fail))) h2 (by (first | omega | (simp; done) | (simp; omega)))
  have GA_2 : Gaps w2 w1.heap.size A n xs := Gaps.below (by (repeat' (first | (with_reducible exact GA_1) | with_reducible refine Gaps.alloc ?_ ?_ _ | with_reducible refine Gaps.setCell ?_ ?_ _ | with_reducible refine Gaps.drew ?_ | with_reducible refine Gaps.drewN ?_ _ | omega | (simp; done) | (simp; omega)))) h2 (by (first | omega | (simp; done) | (simp; omega)))
  have GA_z2 : w1.heap.size ≤ w2.heap.size := by have := h2.size; first | omega | (simp at this; omega)
  have B2 := Lib.hid (below_step (B := w.heap.size) (w0 := w) (by (repeat' (first | with_reducible exact B1.out | with_reducible exact Below.refl _ _ | with_reducible refine below_drew1 ?_ | with_reducible refine below_drewN ?_ _ | with_reducible refine Below.alloc ?_ ?_ _ | with_reducible refine Below.setCell ?_ ?_ _ | omega | (simp; done) | (simp; omega)))) (by have := B1.out.size; (first | omega | (simp; done) | (simp; omega))) h2)
  have z2 : w.heap.size ≤ w2.heap.size := B2.out.size
  have y2 : w1.heap.size ≤ w2.heap.size := by have := h2.size; first | omega | (simp at this; omega)
  clear h2 B1 z1 GA_1 GA_z1
  obtain ⟨⟨S_0_, S_1_⟩, S_f0_, S_f1_⟩ := S_2.get2n
  have S_l := S_2.lt
  have S_l1_ : w1.heap.size < w2.heap.size + 1 := by omega
  have S_l2_ : w1.heap.size < w2.heap.size + 2 := by omega
  have S_l3_ : w1.heap.size < w2.heap.size + 3 := by omega
  have S_l4_ : w1.heap.size < w2.heap.size + 4 := by omega
  go_wp2_with fail
  refine (CS.out _ (by (repeat' (first | (with_reducible exact GA_2) | with_reducible refine Gaps.alloc ?_ ?_ _ | with_reducible refine Gaps.setCell ?_ ?_ _ | with_reducible refine Gaps.drew ?_ | with_reducible refine Gaps.drewN ?_ _ | omega | (simp; done) | (simp; omega)))) (by first | omega | (simp; done) | (simp; omega))).mono ?_
  rintro e w3 ⟨rfl, h3⟩
  have S_3 : Blk w3 (w1.heap.size) 28 #[.int .i64 cum, .slice A n c] := Blk.below (by (repeat' (first | (with_reducible exact S_2) | (with_reducible refine Blk.drewN ?_ _) | (with_reducible refine Blk.drew ?_) | (with_reducible refine Blk.new1 ?hb; case hb => (first | omega | (simp; done) | (simp; omega))) | (with_reducible refine Blk.alloc ?_ _) | (with_reducible refine' Blk.set2_0 ?_ ?hb; case hb => (first | omega | (simp; done) | (simp; omega))) | (with_reducible refine' Blk.set2_1 ?_ ?hb; case hb => (first | omega | (simp; done) | (simp; omega))) | (with_reducible refine' Blk.set3_0 ?_ ?hb; case hb => (first | omega | (simp; done) | (simp; omega))) | (with_reducible refine' Blk.set3_1 ?_ ?hb; case hb => (first | omega | (simp; done) | (simp; omega))) | (with_reducible refine' Blk.set3_2 ?_ ?hb; case hb => (first | omega | (simp; done) | (simp; omega))) | (with_reducible refine' Blk.set4_0 ?_ ?hb; case hb => (first | omega | (simp; done) | (simp; omega))) | (with_reducible refine' Blk.set4_1 ?_ ?hb; case hb => (first | omega | (simp; done) | (simp; omega))) | (with_reducible refine' Blk.set4_2 ?_ ?hb; case hb => (first | omega | (simp; done) | (simp; omega))) | (with_reducible refine' Blk.set4_3 ?_ ?hb; case hb => (first | omega | (simp; done) | (simp; omega))) | (with_reducible refine' Blk.set7_0 ?_ ?hb; case hb => (first | omega | (simp; done) | (simp; omega))) | (with_reducible refine' Blk.set7_1 ?_ ?hb; case hb => (first | omega | (simp; done) | (simp; omega))) | (with_reducible refine' Blk.set7_2 ?_ ?hb; case hb => (first | omega | (simp; done) | (simp; omega))) | (with_reducible refine' Blk.set7_3 ?_ ?hb; case hb => (first | omega | (simp; done) | (simp; omega))) | (with_reducible refine' Blk.set7_4 ?_ ?hb; case hb => (first | omega | (simp; done) | (simp; omega))) | (with_reducible refine' Blk.set7_5 ?_ ?hb; case hb => (first | omega | (simp; done) | (simp; omega))) | (with_reducible refine' Blk.set7_6 ?_ ?hb; case hb => (first | omega | (simp; done) | (simp; omega))) | (with_reducible refine Blk.far ?_ ?hb _; case hb => (first | omega | (simp; done) | (simp; omega))) | fail))) h3 (by (first | omega | (simp; done) | (simp; omega)))
  have GA_3 : Gaps w3 w1.heap.size A n xs := Gaps.below (by (repeat' (first | (with_reducible exact GA_2) | with_reducible refine Gaps.alloc ?_ ?_ _ | with_reducible refine Gaps.setCell ?_ ?_ _ | with_reducible refine Gaps.drew ?_ | with_reducible refine Gaps.drewN ?_ _ | omega | (simp; done) | (simp; omega)))) h3 (by (first | omega | (simp; done) | (simp; omega)))
  have GA_z3 : w1.heap.size ≤ w3.heap.size := by have := h3.size; first | omega | (simp at this; omega)
  have B3 := Lib.hid (below_step (B := w.heap.size) (w0 := w) (by (repeat' (first | with_reducible exact B2.out | with_reducible exact Below.refl _ _ | with_reducible refine below_drew1 ?_ | with_reducible refine below_drewN ?_ _ | with_reducible refine Below.alloc ?_ ?_ _ | with_reducible refine Below.setCell ?_ ?_ _ | omega | (simp; done) | (simp; omega)))) (by have := B2.out.size; (first | omega | (simp; done) | (simp; omega))) h3)
  have z3 : w.heap.size ≤ w3.heap.size := B3.out.size
  have y3 : w2.heap.size ≤ w3.heap.size := by have := h3.size; first | omega | (simp at this; omega)
  clear h3 B2 z2 S_2 GA_2 GA_z2 y2
  try clear S_l S_0_ S_1_ S_l1_ S_l2_ S_l3_ S_l4_
  obtain ⟨⟨S_0_, S_1_⟩, S_f0_, S_f1_⟩ := S_3.get2n
  have S_l := S_3.lt
  have S_l1_ : w1.heap.size < w3.heap.size + 1 := by omega
  have S_l2_ : w1.heap.size < w3.heap.size + 2 := by omega
  have S_l3_ : w1.heap.size < w3.heap.size + 3 := by omega
  have S_l4_ : w1.heap.size < w3.heap.size + 4 := by omega
  go_wp2_with fail
  refine (CK.out _ (by (repeat' (first | (with_reducible exact GA_3) | with_reducible refine Gaps.alloc ?_ ?_ _ | with_reducible refine Gaps.setCell ?_ ?_ _ | with_reducible refine Gaps.drew ?_ | with_reducible refine Gaps.drewN ?_ _ | omega | (simp; done) | (simp; omega)))) (by first | omega | (simp; done) | (simp; omega))).mono ?_
  rintro e w4 ⟨rfl, h4⟩
  have S_4 : Blk w4 (w1.heap.size) 28 #[.int .i64 cum, .slice A n c] := Blk.below (by (repeat' (first | (with_reducible exact S_3) | (with_reducible refine Blk.drewN ?_ _) | (with_reducible refine Blk.drew ?_) | (with_reducible refine Blk.new1 ?hb; case hb => (first | omega | (simp; done) | (simp; omega))) | (with_reducible refine Blk.alloc ?_ _) | (with_reducible refine' Blk.set2_0 ?_ ?hb; case hb => (first | omega | (simp; done) | (simp; omega))) | (with_reducible refine' Blk.set2_1 ?_ ?hb; case hb => (first | omega | (simp; done) | (simp; omega))) | (with_reducible refine' Blk.set3_0 ?_ ?hb; case hb => (first | omega | (simp; done) | (simp; omega))) | (with_reducible refine' Blk.set3_1 ?_ ?hb; case hb => (first | omega | (simp; done) | (simp; omega))) | (with_reducible refine' Blk.set3_2 ?_ ?hb; case hb => (first | omega | (simp; done) | (simp; omega))) | (with_reducible refine' Blk.set4_0 ?_ ?hb; case hb => (first | omega | (simp; done) | (simp; omega))) | (with_reducible refine' Blk.set4_1 ?_ ?hb; case hb => (first | omega | (simp; done) | (simp; omega))) | (with_reducible refine' Blk.set4_2 ?_ ?hb; case hb => (first | omega | (simp; done) | (simp; omega))) | (with_reducible refine' Blk.set4_3 ?_ ?hb; case hb => (first | omega | (simp; done) | (simp; omega))) | (with_reducible refine' Blk.set7_0 ?_ ?hb; case hb => (first | omega | (simp; done) | (simp; omega))) | (with_reducible refine' Blk.set7_1 ?_ ?hb; case hb => (first | omega | (simp; done) | (simp; omega))) | (with_reducible refine' Blk.set7_2 ?_ ?hb; case hb => (first | omega | (simp; done) | (simp; omega))) | (with_reducible refine' Blk.set7_3 ?_ ?hb; case hb => (first | omega | (simp; done) | (simp; omega))) | (with_reducible refine' Blk.set7_4 ?_ ?hb; case hb => (first | omega | (simp; done) | (simp; omega))) | (with_reducible refine' Blk.set7_5 ?_ ?hb; case hb => (first | omega | (simp; done) | (simp; omega))) | (with_reducible refine' Blk.set7_6 ?_ ?hb; case hb => (first | omega | (simp; done) | (simp; omega))) | (with_reducible refine Blk.far ?_ ?hb _; case hb => (first | omega | (simp; done) | (simp; omega))) | fail))) h4 (by (first | omega | (simp; done) | (simp; omega)))
  have GA_4 : Gaps w4 w1.heap.size A n xs := Gaps.below (by (repeat' (first | (with_reducible exact GA_3) | with_reducible refine Gaps.alloc ?_ ?_ _ | with_reducible refine Gaps.setCell ?_ ?_ _ | with_reducible refine Gaps.drew ?_ | with_reducible refine Gaps.drewN ?_ _ | omega | (simp; done) | (simp; omega)))) h4 (by (first | omega | (simp; done) | (simp; omega)))
  have GA_z4 : w1.heap.size ≤ w4.heap.size := by have := h4.size; first | omega | (simp at this; omega)
  have B4 := Lib.hid (below_step (B := w.heap.size) (w0 := w) (by (repeat' (first | with_reducible exact B3.out | with_reducible exact Below.refl _ _ | with_reducible refine below_drew1 ?_ | with_reducible refine below_drewN ?_ _ | with_reducible refine Below.alloc ?_ ?_ _ | with_reducible refine Below.setCell ?_ ?_ _ | omega | (simp; done) | (simp; omega)))) (by have := B3.out.size; (first | omega | (simp; done) | (simp; omega))) h4)
  have z4 : w.heap.size ≤ w4.heap.size := B4.out.size
  have y4 : w3.heap.size ≤ w4.heap.size := by have := h4.size; first | omega | (simp at this; omega)
  clear h4 B3 z3 S_3 GA_3 GA_z3 y3
  try clear S_l S_0_ S_1_ S_l1_ S_l2_ S_l3_ S_l4_
  obtain ⟨⟨S_0_, S_1_⟩, S_f0_, S_f1_⟩ := S_4.get2n
  have S_l := S_4.lt
  have S_l1_ : w1.heap.size < w4.heap.size + 1 := by omega
  have S_l2_ : w1.heap.size < w4.heap.size + 2 := by omega
  have S_l3_ : w1.heap.size < w4.heap.size + 3 := by omega
  have S_l4_ : w1.heap.size < w4.heap.size + 4 := by omega
  cases k with
  | false =>
    go_wp2
    go_ret
    exact ⟨rfl, by (repeat' (first | with_reducible exact B4.out | with_reducible exact Below.refl _ _ | with_reducible refine below_drew1 ?_ | with_reducible refine below_drewN ?_ _ | with_reducible refine Below.alloc ?_ ?_ _ | with_reducible refine Below.setCell ?_ ?_ _ | omega | (simp; done) | (simp; omega)))⟩
  | true =>
    have hok : sackOkV cum xs = true ∧ serOk cum = true := by
      have h := HK.out
      unfold sackHasV at h
      rw [Bool.and_eq_true, Bool.and_eq_true] at h
      exact h.1
    obtain ⟨ha, ha1⟩ := serOk_yes hok.2
    go_wp2_with fail
    refine (c_SerialIn_self tsn _).mono ?_
    rintro e w5 ⟨rfl, rfl⟩
    cases hst : serOk tsn with
    | false =>
      go_wp2
      go_ret
      exact ⟨rfl, by (repeat' (first | with_reducible exact B4.out | with_reducible exact Below.refl _ _ | with_reducible refine below_drew1 ?_ | with_reducible refine below_drewN ?_ _ | with_reducible refine Below.alloc ?_ ?_ _ | with_reducible refine Below.setCell ?_ ?_ _ | omega | (simp; done) | (simp; omega)))⟩
    | true =>
      obtain ⟨hb, hb1⟩ := serOk_yes hst
      go_wp2_with fail
      refine (c_SerialDiff cum tsn _ ha ha1 hb hb1).mono ?_
      rintro e w5 ⟨rfl, rfl⟩
      have hV2 : v = (decide (serDiff cum tsn ≤ 0) || inG (serDiff cum tsn) (xs.drop 0)) := by
        have h := HV.out
        unfold sackHasV at h
        rw [hok.1, hst] at h
        exact h.symm
      have HV2 := Lib.hid hV2
      generalize serDiff cum tsn = d at *
      clear hV2 hok CI CS CK HV HK
      have HG := Lib.hid GA_4
      have HS := Lib.hid S_4
      clear GA_4 S_4
      go_wp2
      go_loopw [8, 9] (fun h i wr => ∃ (j : Nat) (b : Bool), j ≤ n ∧ h = .bool b ∧ i = .int .i64 j ∧ v = (b || inG d (xs.drop j)) ∧ Below w4.heap.size w4 wr) (fun _ i _ => n - (intOf i).toNat)
      case atStart => exact ⟨0, _, Nat.zero_le _, rfl, rfl, HV2.out, Below.refl _ _⟩
      case round =>
        obtain ⟨j, b, hj, rfl, rfl, hvb, hB⟩ := hrel
        have B1 := Lib.hid hB
        have VB := Lib.hid hvb
        have s0 : wr.cell? ⟨w1.heap.size, 1, none⟩ = some (.slice A n c) := (hB.cell (p := ⟨w1.heap.size, 1, none⟩) S_l).trans S_1_
        have z14 := GA_z4
        clear hB hvb
        by_cases hlt : j < n
        · obtain ⟨bb, o, rfl, hb, hcc⟩ := HG.out.2 (by omega)
          obtain ⟨c0, c1⟩ := hcc j hlt
          have hbl : bb < w4.heap.size := by omega
          have d0 := (B1.out.cell (p := ⟨bb, o + j * 2, none⟩) hbl).trans c0
          have d1 := (B1.out.cell (p := ⟨bb, o + j * 2 + 1, none⟩) hbl).trans c1
          have hst := Lib.hid (inG_step (d := d) (xs := xs) (j := j) (by rw [HL.out]; exact hlt))
          generalize hgx : xs.getD j (0, 0) = y at *
          obtain ⟨f, t⟩ := y
          clear hgx c0 c1 hcc
          simp only at d0 d1
          have hjn : (j : Int) < (n : Int) := by omega
          have hj0 : (0 : Int) ≤ (j : Int) := by omega
          cases b with
          | true =>
            have hr := Lib.hid (show v = (true || inG d (xs.drop (j + 1))) by rw [VB.out]; rfl)
            go_wp2
            go_roundw
            case rel => exact ⟨j + 1, true, by omega, rfl, by go_num, hr.out, B1.out⟩
            case measure => simp [intOf]; omega
          | false =>
            by_cases h1 : f ≤ d
            · by_cases h2 : d ≤ t
              · have hr := Lib.hid (show v = (true || inG d (xs.drop (j + 1))) by rw [VB.out, hst.out]; simp [h1, h2])
                go_wp2
                go_roundw
                case rel => exact ⟨j + 1, true, by omega, rfl, by go_num, hr.out, B1.out⟩
                case measure => simp [intOf]; omega
              · have hr := Lib.hid (show v = (false || inG d (xs.drop (j + 1))) by rw [VB.out, hst.out]; simp [h1, h2])
                go_wp2
                go_roundw
                case rel => exact ⟨j + 1, false, by omega, rfl, by go_num, hr.out, B1.out⟩
                case measure => simp [intOf]; omega
            · have hr := Lib.hid (show v = (false || inG d (xs.drop (j + 1))) by rw [VB.out, hst.out]; simp [h1])
              go_wp2
              go_roundw
              case rel => exact ⟨j + 1, false, by omega, rfl, by go_num, hr.out, B1.out⟩
              case measure => simp [intOf]; omega
        · have hje : j = n := by omega
          subst hje
          have hr : v = b := by rw [VB.out, List.drop_eq_nil_of_le (Nat.le_of_eq HL.out)]; simp [inG]
          subst hr
          have BF := Lib.hid (B4.out.trans (B1.out.mono B4.out.size))
          go_wp2
          go_ret
          exact ⟨rfl, BF.out⟩

/-! ### The row's step -/
theorem own : ownKnob Try.prog.godebug = none := by kernel_rfl
theorem laidOut : laidOutB Try.prog = true := by kernel_rfl
set_option maxRecDepth 100000 in
theorem lifted (os : Os) (started : os.Started) (H : Type) (enc : TypeId × Value → H) :
    ReturnsInHanded {} Try.checked os 9 .any (Rows.fnSackHasSpec.pre6 enc Try.prog Try.f9 Rows.fnSackHasRow.domain false) (Rows.fnSackHasSpec.post enc Try.prog Try.f9 false true false false) := by
  refine returnsInHanded_of_change (C := Try.checked) own started (by kernel_rfl) Try.func9
    (ChangeSpec.witness6 (enc := enc) (C := Try.checked) false ⟨#[], #[.slice none 0 0], []⟩ 8 (by kernel_rfl) (by kernel_rfl) (by kernel_rfl) (by kernel_rfl)) ?_
  intro W base args ds gs before hval0 hW hcnd _
  have hval : ∀ (j : Nat) t v, Try.f9.params[j]? = some t → args[j]? = some v → Value.okWide Try.prog W .any base t v := hval0
  have hW' := hW
  obtain ⟨p, q, hA0, hV, rfl, hfz, hnd⟩ := hW
  have hA : DataW.TrodAll enc Try.prog W 0 (fun _ => true) true Try.f9.params.toList args.toList ds p := hA0
  rw [Try.params9] at hA hval
  obtain ⟨v0, vs0, d0, ds0, p0, q0, hargs, rfl, rfl, h0, r0⟩ := trodAll_cons hA
  obtain ⟨rfl, rfl, rfl⟩ := trodAll_nil r0
  obtain rfl : args = #[v0] := by cases args; simp_all
  obtain ⟨rfl, rfl⟩ := trodVars_none hV
  have k0 := h0
  have lt0 : ∀ x ∈ p0, x.block < W.heap.size := by obtain ⟨m, hm⟩ := k0; exact DataW.trod_lt m _ _ _ hm
  obtain ⟨a0, n0, c0, rfl⟩ := okWide_slice Try.underlying22 (hval 0 22 v0 rfl rfl)
  have w0 : Code W a0 n0 c0 := by obtain ⟨fuel, hf⟩ := h0; exact code_of Try.underlying22 Try.underlying5 (by kernel_rfl) hf
  clear hA0 hval0
  refine (walk a0 n0 c0 W w0).mono fun e W' ⟨he, bel⟩ => ?_
  subst he
  exact ⟨_, rfl, _, _, _, [], _, [], hW', trodAll_mk1 (shut_bool Try.underlying4 _), (trodAll_cons_mk (Below.trod laidOut (by kernel_rfl) (of_decide_eq_true (by kernel_rfl)) k0 bel lt0) trodAll_mk0), rfl, bel.frame _, fun h => by cases h⟩

theorem over : Rows.fnSackHasRow.holds Try.pinned (OpenSpec.ofChange Rows.fnSackHasSpec) :=
  OpenClaim.holds_of_wide 9 Try.f9 rfl rfl rfl rfl rfl rfl rfl ⟨rfl, rfl, rfl, rfl, rfl⟩ rfl rfl rfl rfl rfl (by kernel_rfl) Try.func9 (by kernel_rfl)
    (of_decide_eq_true (by kernel_rfl)) (by unfold Func.isWrapper; first | (rw [if_pos (by decide +kernel)]; kernel_rfl) | (rw [if_neg (by decide +kernel)]; exact ⟨rfl, rfl⟩))
    (fun os started H enc _ => lifted os started H enc)

/-- The statement. -/
theorem proved : Rows.FnSackHasSaid := over
#print axioms proved
end Go.Proofs.Ytokjdnfohbabgaa.fnSackHas
