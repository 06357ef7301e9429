/-
  A packet has twelve bytes and its chunks: for every code. No condition.
-/
import Derived.Test.YtfkajcljcbdjiaaDrawPackL
import Derived.Test.YtfkajcljcbdjiaaSPkPut
import Derived.Test.YtfkajcljcbdjiaaOpen
namespace Go.Proofs.Ytfkajcljcbdjiaa.fnPacketSize
open Go.ChangeShapes Go.WideShapes Go.ChangeAt Go.RowKit
open Go.ChangeMaps (open_string shut_string)
set_option linter.unusedVariables false
set_option linter.unusedSimpArgs false
set_option maxRecDepth 100000 in
set_option maxHeartbeats 8000000 in
theorem walk (a0 : Option Addr) (n0 c0 : Nat) (w : World) (w0 : Code w a0 n0 c0) :
    Calls Try.prog 12 #[.slice a0 n0 c0] w fun e w' => e = .returned (.bool true) ∧ Below w.heap.size w w' := by
  have hc := w0.2.1
  unfold maxLen at hc
  have hn := w0.1
  by_cases hbig : 1048576 < n0
  · go_enter Try.func12, Try.ntmps12
    go_wp2
    go_ret
    exact ⟨rfl, Below.refl _ _⟩
  have hq : ∀ b : Bool, (b != b) = false := fun b => by simp
  have hq2 : ∀ b : Bool, (b == b) = true := fun b => by simp
  have hq3 : ∀ b : Int, (b != b) = false := fun b => by simp
  have hq4 : ∀ b : Int, (b == b) = true := fun b => by simp
  have hq5 : ∀ b : ByteArray, (b.toList == b.toList) = true := fun b => by simp
  have hq6 : ∀ b : ByteArray, (b.toList != b.toList) = false := fun b => by simp
  have B0 := Lib.hid (Below.refl w.heap.size w)
  go_enter Try.func12, Try.ntmps12
  go_wp2_with fail
  refine (c_DrawPacketPut a0 n0 c0 _ w0).mono ?_
  rintro e w1 ⟨f, t, g, A, n, c, xs, rfl, hf0, hf1, ht0, ht1, hg0, hg1, hn9, hnc, hcm, hgood, hG, h1⟩
  have B1 := Lib.hid (below_step (B := w.heap.size) (w0 := w) (by (repeat' (first | with_reducible exact B0.out | with_reducible exact Below.refl _ _ | with_reducible refine below_drew1 ?_ | with_reducible refine below_drewN ?_ _ | with_reducible refine Below.alloc ?_ ?_ _ | with_reducible refine Below.setCell ?_ ?_ _ | omega | (simp; done) | (simp; omega)))) (by have := B0.out.size; (first | omega | (simp; done) | (simp; omega))) h1)
  have z1 : w.heap.size ≤ w1.heap.size := B1.out.size
  clear h1 B0
  have GA_1 : Gaps w1 w1.heap.size A n xs := hG
  have GA_z1 : w1.heap.size ≤ w1.heap.size := by omega
  have HL := Lib.hid hG.1
  have HGD := Lib.hid hgood
  have hnm : n ≤ maxLen := by unfold maxLen; omega
  have HS := Lib.hid (show ∀ i, i < n → (xs.getD i ch0).2.2.size ≤ maxLen from fun i hi => by have := HGD.out.get i (by rw [HL.out]; exact hi); unfold maxLen; omega)
  clear hG hn hc hgood
  have ci := fun W h1 h2 => c_PacketPut f t g A n c xs w1.heap.size W h1 h2 hnm HS.out
  have cs := fun W h1 h2 => c_sPacketPut f t g A n c xs w1.heap.size W h1 h2 hnm HS.out
  cases hok : pkOkV f t g xs with
  | false =>
    rw [pkPutV_no hok] at ci cs
    have CI := Lib.hid ci
    have CS := Lib.hid cs
    clear ci cs hok
    go_wp2_with fail
    refine (CI.out _ (by (repeat' (first | (with_reducible exact GA_1) | with_reducible refine Gaps.alloc ?_ ?_ _ | with_reducible refine Gaps.setCell ?_ ?_ _ | with_reducible refine Gaps.drew ?_ | with_reducible refine Gaps.drewN ?_ _ | omega | (simp; done) | (simp; omega)))) (by first | omega | (simp; done) | (simp; omega))).mono ?_
    rintro e w2 ⟨rfl, h2⟩
    have P_2 : Blk w2 (w1.heap.size) 25 #[.int .i64 f, .int .i64 t, .int .i64 g, .slice A n c] := Blk.below (by (repeat' (first | (with_reducible refine Blk.drewN ?_ _) | (with_reducible refine Blk.drew ?_) | (with_reducible refine Blk.new1 ?hb; case hb => (first | omega | (simp; done) | (simp; omega))) | (with_reducible refine Blk.alloc ?_ _) | (with_reducible refine' Blk.set2_0 ?_ ?hb; case hb => (first | omega | (simp; done) | (simp; omega))) | (with_reducible refine' Blk.set2_1 ?_ ?hb; case hb => (first | omega | (simp; done) | (simp; omega))) | (with_reducible refine' Blk.set3_0 ?_ ?hb; case hb => (first | omega | (simp; done) | (simp; omega))) | (with_reducible refine' Blk.set3_1 ?_ ?hb; case hb => (first | omega | (simp; done) | (simp; omega))) | (with_reducible refine' Blk.set3_2 ?_ ?hb; case hb => (first | omega | (simp; done) | (simp; omega))) | (with_reducible refine' Blk.set4_0 ?_ ?hb; case hb => (first | omega | (simp; done) | (simp; omega))) | (with_reducible refine' Blk.set4_1 ?_ ?hb; case hb => (first | omega | (simp; done) | (simp; omega))) | (with_reducible refine' Blk.set4_2 ?_ ?hb; case hb => (first | omega | (simp; done) | (simp; omega))) | (with_reducible refine' Blk.set4_3 ?_ ?hb; case hb => (first | omega | (simp; done) | (simp; omega))) | (with_reducible refine' Blk.set7_0 ?_ ?hb; case hb => (first | omega | (simp; done) | (simp; omega))) | (with_reducible refine' Blk.set7_1 ?_ ?hb; case hb => (first | omega | (simp; done) | (simp; omega))) | (with_reducible refine' Blk.set7_2 ?_ ?hb; case hb => (first | omega | (simp; done) | (simp; omega))) | (with_reducible refine' Blk.set7_3 ?_ ?hb; case hb => (first | omega | (simp; done) | (simp; omega))) | (with_reducible refine' Blk.set7_4 ?_ ?hb; case hb => (first | omega | (simp; done) | (simp; omega))) | (with_reducible refine' Blk.set7_5 ?_ ?hb; case hb => (first | omega | (simp; done) | (simp; omega))) | (with_reducible refine' Blk.set7_6 ?_ ?hb; case hb => (first | omega | (simp; done) | (simp; omega))) | (with_reducible refine Blk.far ?_ ?hb _; case hb => (first | omega | (simp; done) | (simp; omega))) | fail))) h2 (by (first | omega | (simp; done) | (simp; omega)))
    have GA_2 : Gaps w2 w1.heap.size A n xs := Gaps.below (by (repeat' (first | (with_reducible exact GA_1) | with_reducible refine Gaps.alloc ?_ ?_ _ | with_reducible refine Gaps.setCell ?_ ?_ _ | with_reducible refine Gaps.drew ?_ | with_reducible refine Gaps.drewN ?_ _ | omega | (simp; done) | (simp; omega)))) h2 (by (first | omega | (simp; done) | (simp; omega)))
    have GA_z2 : w1.heap.size ≤ w2.heap.size := by have := h2.size; first | omega | (simp at this; omega)
    have B2 := Lib.hid (below_step (B := w.heap.size) (w0 := w) (by (repeat' (first | with_reducible exact B1.out | with_reducible exact Below.refl _ _ | with_reducible refine below_drew1 ?_ | with_reducible refine below_drewN ?_ _ | with_reducible refine Below.alloc ?_ ?_ _ | with_reducible refine Below.setCell ?_ ?_ _ | omega | (simp; done) | (simp; omega)))) (by have := B1.out.size; (first | omega | (simp; done) | (simp; omega))) h2)
    have z2 : w.heap.size ≤ w2.heap.size := B2.out.size
    have y2 : w1.heap.size ≤ w2.heap.size := by have := h2.size; first | omega | (simp at this; omega)
    clear h2 B1 z1 GA_1 GA_z1
    obtain ⟨⟨P_0_, P_1_, P_2_, P_3_⟩, P_f0_, P_f1_, P_f2_, P_f3_⟩ := P_2.get4
    have P_l := P_2.lt
    have P_l1_ : w1.heap.size < w2.heap.size + 1 := by omega
    have P_l2_ : w1.heap.size < w2.heap.size + 2 := by omega
    have P_l3_ : w1.heap.size < w2.heap.size + 3 := by omega
    have P_l4_ : w1.heap.size < w2.heap.size + 4 := by omega
    go_wp2_with fail
    refine (CS.out _ (by (repeat' (first | (with_reducible exact GA_2) | with_reducible refine Gaps.alloc ?_ ?_ _ | with_reducible refine Gaps.setCell ?_ ?_ _ | with_reducible refine Gaps.drew ?_ | with_reducible refine Gaps.drewN ?_ _ | omega | (simp; done) | (simp; omega)))) (by first | omega | (simp; done) | (simp; omega))).mono ?_
    rintro e w3 ⟨rfl, h3⟩
    have P_3 : Blk w3 (w1.heap.size) 25 #[.int .i64 f, .int .i64 t, .int .i64 g, .slice A n c] := Blk.below (by (repeat' (first | (with_reducible exact P_2) | (with_reducible refine Blk.drewN ?_ _) | (with_reducible refine Blk.drew ?_) | (with_reducible refine Blk.new1 ?hb; case hb => (first | omega | (simp; done) | (simp; omega))) | (with_reducible refine Blk.alloc ?_ _) | (with_reducible refine' Blk.set2_0 ?_ ?hb; case hb => (first | omega | (simp; done) | (simp; omega))) | (with_reducible refine' Blk.set2_1 ?_ ?hb; case hb => (first | omega | (simp; done) | (simp; omega))) | (with_reducible refine' Blk.set3_0 ?_ ?hb; case hb => (first | omega | (simp; done) | (simp; omega))) | (with_reducible refine' Blk.set3_1 ?_ ?hb; case hb => (first | omega | (simp; done) | (simp; omega))) | (with_reducible refine' Blk.set3_2 ?_ ?hb; case hb => (first | omega | (simp; done) | (simp; omega))) | (with_reducible refine' Blk.set4_0 ?_ ?hb; case hb => (first | omega | (simp; done) | (simp; omega))) | (with_reducible refine' Blk.set4_1 ?_ ?hb; case hb => (first | omega | (simp; done) | (simp; omega))) | (with_reducible refine' Blk.set4_2 ?_ ?hb; case hb => (first | omega | (simp; done) | (simp; omega))) | (with_reducible refine' Blk.set4_3 ?_ ?hb; case hb => (first | omega | (simp; done) | (simp; omega))) | (with_reducible refine' Blk.set7_0 ?_ ?hb; case hb => (first | omega | (simp; done) | (simp; omega))) | (with_reducible refine' Blk.set7_1 ?_ ?hb; case hb => (first | omega | (simp; done) | (simp; omega))) | (with_reducible refine' Blk.set7_2 ?_ ?hb; case hb => (first | omega | (simp; done) | (simp; omega))) | (with_reducible refine' Blk.set7_3 ?_ ?hb; case hb => (first | omega | (simp; done) | (simp; omega))) | (with_reducible refine' Blk.set7_4 ?_ ?hb; case hb => (first | omega | (simp; done) | (simp; omega))) | (with_reducible refine' Blk.set7_5 ?_ ?hb; case hb => (first | omega | (simp; done) | (simp; omega))) | (with_reducible refine' Blk.set7_6 ?_ ?hb; case hb => (first | omega | (simp; done) | (simp; omega))) | (with_reducible refine Blk.far ?_ ?hb _; case hb => (first | omega | (simp; done) | (simp; omega))) | fail))) h3 (by (first | omega | (simp; done) | (simp; omega)))
    have GA_3 : Gaps w3 w1.heap.size A n xs := Gaps.below (by (repeat' (first | (with_reducible exact GA_2) | with_reducible refine Gaps.alloc ?_ ?_ _ | with_reducible refine Gaps.setCell ?_ ?_ _ | with_reducible refine Gaps.drew ?_ | with_reducible refine Gaps.drewN ?_ _ | omega | (simp; done) | (simp; omega)))) h3 (by (first | omega | (simp; done) | (simp; omega)))
    have GA_z3 : w1.heap.size ≤ w3.heap.size := by have := h3.size; first | omega | (simp at this; omega)
    have B3 := Lib.hid (below_step (B := w.heap.size) (w0 := w) (by (repeat' (first | with_reducible exact B2.out | with_reducible exact Below.refl _ _ | with_reducible refine below_drew1 ?_ | with_reducible refine below_drewN ?_ _ | with_reducible refine Below.alloc ?_ ?_ _ | with_reducible refine Below.setCell ?_ ?_ _ | omega | (simp; done) | (simp; omega)))) (by have := B2.out.size; (first | omega | (simp; done) | (simp; omega))) h3)
    have z3 : w.heap.size ≤ w3.heap.size := B3.out.size
    have y3 : w2.heap.size ≤ w3.heap.size := by have := h3.size; first | omega | (simp at this; omega)
    clear h3 B2 z2 P_2 GA_2 GA_z2 y2
    try clear P_l P_0_ P_1_ P_2_ P_3_ P_l1_ P_l2_ P_l3_ P_l4_
    obtain ⟨⟨P_0_, P_1_, P_2_, P_3_⟩, P_f0_, P_f1_, P_f2_, P_f3_⟩ := P_3.get4
    have P_l := P_3.lt
    have P_l1_ : w1.heap.size < w3.heap.size + 1 := by omega
    have P_l2_ : w1.heap.size < w3.heap.size + 2 := by omega
    have P_l3_ : w1.heap.size < w3.heap.size + 3 := by omega
    have P_l4_ : w1.heap.size < w3.heap.size + 4 := by omega
    go_wp2
    go_ret
    exact ⟨rfl, by (repeat' (first | with_reducible exact B3.out | with_reducible exact Below.refl _ _ | with_reducible refine below_drew1 ?_ | with_reducible refine below_drewN ?_ _ | with_reducible refine Below.alloc ?_ ?_ _ | with_reducible refine Below.setCell ?_ ?_ _ | omega | (simp; done) | (simp; omega)))⟩
  | true =>
    have HOK := Lib.hid hok
    have he := pkPutV_empty f t g xs
    rw [hok] at he
    have he2 : (pkPutV f t g xs).toList.isEmpty = false := he
    obtain ⟨x8, x12, xsz⟩ := pkPutV_cut hok
    obtain ⟨hn1, hn4⟩ := pkOkV_len hok
    rw [HL.out] at hn1 hn4
    clear he x8
    generalize pkPutV f t g xs = s at *
    have hle := chsB_le xs
    rw [HL.out] at hle
    have i12 : (12 : Int) ≤ (s.size : Int) := by omega
    have X12 := Lib.hid x12
    clear x12 xsz
    have CI := Lib.hid ci
    have CS := Lib.hid cs
    clear ci cs hok
    go_wp2_with fail
    refine (CI.out _ (by (repeat' (first | (with_reducible exact GA_1) | with_reducible refine Gaps.alloc ?_ ?_ _ | with_reducible refine Gaps.setCell ?_ ?_ _ | with_reducible refine Gaps.drew ?_ | with_reducible refine Gaps.drewN ?_ _ | omega | (simp; done) | (simp; omega)))) (by first | omega | (simp; done) | (simp; omega))).mono ?_
    rintro e w2 ⟨rfl, h2⟩
    have P_2 : Blk w2 (w1.heap.size) 25 #[.int .i64 f, .int .i64 t, .int .i64 g, .slice A n c] := Blk.below (by (repeat' (first | (with_reducible refine Blk.drewN ?_ _) | (with_reducible refine Blk.drew ?_) | (with_reducible refine Blk.new1 ?hb; case hb => (first | omega | (simp; done) | (simp; omega))) | (with_reducible refine Blk.alloc ?_ _) | (with_reducible refine' Blk.set2_0 ?_ ?hb; case hb => (first | omega | (simp; done) | (simp; omega))) | (with_reducible refine' Blk.set2_1 ?_ ?hb; case hb => (first | omega | (simp; done) | (simp; omega))) | (with_reducible refine' Blk.set3_0 ?_ ?hb; case hb => (first | omega | (simp; done) | (simp; omega))) | (with_reducible refine' Blk.set3_1 ?_ ?hb; case hb => (first | omega | (simp; done) | (simp; omega))) | (with_reducible refine' Blk.set3_2 ?_ ?hb; case hb => (first | omega | (simp; done) | (simp; omega))) | (with_reducible refine' Blk.set4_0 ?_ ?hb; case hb => (first | omega | (simp; done) | (simp; omega))) | (with_reducible refine' Blk.set4_1 ?_ ?hb; case hb => (first | omega | (simp; done) | (simp; omega))) | (with_reducible refine' Blk.set4_2 ?_ ?hb; case hb => (first | omega | (simp; done) | (simp; omega))) | (with_reducible refine' Blk.set4_3 ?_ ?hb; case hb => (first | omega | (simp; done) | (simp; omega))) | (with_reducible refine' Blk.set7_0 ?_ ?hb; case hb => (first | omega | (simp; done) | (simp; omega))) | (with_reducible refine' Blk.set7_1 ?_ ?hb; case hb => (first | omega | (simp; done) | (simp; omega))) | (with_reducible refine' Blk.set7_2 ?_ ?hb; case hb => (first | omega | (simp; done) | (simp; omega))) | (with_reducible refine' Blk.set7_3 ?_ ?hb; case hb => (first | omega | (simp; done) | (simp; omega))) | (with_reducible refine' Blk.set7_4 ?_ ?hb; case hb => (first | omega | (simp; done) | (simp; omega))) | (with_reducible refine' Blk.set7_5 ?_ ?hb; case hb => (first | omega | (simp; done) | (simp; omega))) | (with_reducible refine' Blk.set7_6 ?_ ?hb; case hb => (first | omega | (simp; done) | (simp; omega))) | (with_reducible refine Blk.far ?_ ?hb _; case hb => (first | omega | (simp; done) | (simp; omega))) | fail))) h2 (by (first | omega | (simp; done) | (simp; omega)))
    have GA_2 : Gaps w2 w1.heap.size A n xs := Gaps.below (by (repeat' (first | (with_reducible exact GA_1) | with_reducible refine Gaps.alloc ?_ ?_ _ | with_reducible refine Gaps.setCell ?_ ?_ _ | with_reducible refine Gaps.drew ?_ | with_reducible refine Gaps.drewN ?_ _ | omega | (simp; done) | (simp; omega)))) h2 (by (first | omega | (simp; done) | (simp; omega)))
    have GA_z2 : w1.heap.size ≤ w2.heap.size := by have := h2.size; first | omega | (simp at this; omega)
    have B2 := Lib.hid (below_step (B := w.heap.size) (w0 := w) (by (repeat' (first | with_reducible exact B1.out | with_reducible exact Below.refl _ _ | with_reducible refine below_drew1 ?_ | with_reducible refine below_drewN ?_ _ | with_reducible refine Below.alloc ?_ ?_ _ | with_reducible refine Below.setCell ?_ ?_ _ | omega | (simp; done) | (simp; omega)))) (by have := B1.out.size; (first | omega | (simp; done) | (simp; omega))) h2)
    have z2 : w.heap.size ≤ w2.heap.size := B2.out.size
    have y2 : w1.heap.size ≤ w2.heap.size := by have := h2.size; first | omega | (simp at this; omega)
    clear h2 B1 z1 GA_1 GA_z1
    obtain ⟨⟨P_0_, P_1_, P_2_, P_3_⟩, P_f0_, P_f1_, P_f2_, P_f3_⟩ := P_2.get4
    have P_l := P_2.lt
    have P_l1_ : w1.heap.size < w2.heap.size + 1 := by omega
    have P_l2_ : w1.heap.size < w2.heap.size + 2 := by omega
    have P_l3_ : w1.heap.size < w2.heap.size + 3 := by omega
    have P_l4_ : w1.heap.size < w2.heap.size + 4 := by omega
    go_wp2_with fail
    refine (CS.out _ (by (repeat' (first | (with_reducible exact GA_2) | with_reducible refine Gaps.alloc ?_ ?_ _ | with_reducible refine Gaps.setCell ?_ ?_ _ | with_reducible refine Gaps.drew ?_ | with_reducible refine Gaps.drewN ?_ _ | omega | (simp; done) | (simp; omega)))) (by first | omega | (simp; done) | (simp; omega))).mono ?_
    rintro e w3 ⟨rfl, h3⟩
    have P_3 : Blk w3 (w1.heap.size) 25 #[.int .i64 f, .int .i64 t, .int .i64 g, .slice A n c] := Blk.below (by (repeat' (first | (with_reducible exact P_2) | (with_reducible refine Blk.drewN ?_ _) | (with_reducible refine Blk.drew ?_) | (with_reducible refine Blk.new1 ?hb; case hb => (first | omega | (simp; done) | (simp; omega))) | (with_reducible refine Blk.alloc ?_ _) | (with_reducible refine' Blk.set2_0 ?_ ?hb; case hb => (first | omega | (simp; done) | (simp; omega))) | (with_reducible refine' Blk.set2_1 ?_ ?hb; case hb => (first | omega | (simp; done) | (simp; omega))) | (with_reducible refine' Blk.set3_0 ?_ ?hb; case hb => (first | omega | (simp; done) | (simp; omega))) | (with_reducible refine' Blk.set3_1 ?_ ?hb; case hb => (first | omega | (simp; done) | (simp; omega))) | (with_reducible refine' Blk.set3_2 ?_ ?hb; case hb => (first | omega | (simp; done) | (simp; omega))) | (with_reducible refine' Blk.set4_0 ?_ ?hb; case hb => (first | omega | (simp; done) | (simp; omega))) | (with_reducible refine' Blk.set4_1 ?_ ?hb; case hb => (first | omega | (simp; done) | (simp; omega))) | (with_reducible refine' Blk.set4_2 ?_ ?hb; case hb => (first | omega | (simp; done) | (simp; omega))) | (with_reducible refine' Blk.set4_3 ?_ ?hb; case hb => (first | omega | (simp; done) | (simp; omega))) | (with_reducible refine' Blk.set7_0 ?_ ?hb; case hb => (first | omega | (simp; done) | (simp; omega))) | (with_reducible refine' Blk.set7_1 ?_ ?hb; case hb => (first | omega | (simp; done) | (simp; omega))) | (with_reducible refine' Blk.set7_2 ?_ ?hb; case hb => (first | omega | (simp; done) | (simp; omega))) | (with_reducible refine' Blk.set7_3 ?_ ?hb; case hb => (first | omega | (simp; done) | (simp; omega))) | (with_reducible refine' Blk.set7_4 ?_ ?hb; case hb => (first | omega | (simp; done) | (simp; omega))) | (with_reducible refine' Blk.set7_5 ?_ ?hb; case hb => (first | omega | (simp; done) | (simp; omega))) | (with_reducible refine' Blk.set7_6 ?_ ?hb; case hb => (first | omega | (simp; done) | (simp; omega))) | (with_reducible refine Blk.far ?_ ?hb _; case hb => (first | omega | (simp; done) | (simp; omega))) | fail))) h3 (by (first | omega | (simp; done) | (simp; omega)))
    have GA_3 : Gaps w3 w1.heap.size A n xs := Gaps.below (by (repeat' (first | (with_reducible exact GA_2) | with_reducible refine Gaps.alloc ?_ ?_ _ | with_reducible refine Gaps.setCell ?_ ?_ _ | with_reducible refine Gaps.drew ?_ | with_reducible refine Gaps.drewN ?_ _ | omega | (simp; done) | (simp; omega)))) h3 (by (first | omega | (simp; done) | (simp; omega)))
    have GA_z3 : w1.heap.size ≤ w3.heap.size := by have := h3.size; first | omega | (simp at this; omega)
    have B3 := Lib.hid (below_step (B := w.heap.size) (w0 := w) (by (repeat' (first | with_reducible exact B2.out | with_reducible exact Below.refl _ _ | with_reducible refine below_drew1 ?_ | with_reducible refine below_drewN ?_ _ | with_reducible refine Below.alloc ?_ ?_ _ | with_reducible refine Below.setCell ?_ ?_ _ | omega | (simp; done) | (simp; omega)))) (by have := B2.out.size; (first | omega | (simp; done) | (simp; omega))) h3)
    have z3 : w.heap.size ≤ w3.heap.size := B3.out.size
    have y3 : w2.heap.size ≤ w3.heap.size := by have := h3.size; first | omega | (simp at this; omega)
    clear h3 B2 z2 P_2 GA_2 GA_z2 y2
    try clear P_l P_0_ P_1_ P_2_ P_3_ P_l1_ P_l2_ P_l3_ P_l4_
    obtain ⟨⟨P_0_, P_1_, P_2_, P_3_⟩, P_f0_, P_f1_, P_f2_, P_f3_⟩ := P_3.get4
    have P_l := P_3.lt
    have P_l1_ : w1.heap.size < w3.heap.size + 1 := by omega
    have P_l2_ : w1.heap.size < w3.heap.size + 2 := by omega
    have P_l3_ : w1.heap.size < w3.heap.size + 3 := by omega
    have P_l4_ : w1.heap.size < w3.heap.size + 4 := by omega
    have G3 := GA_3
    have P3 := Lib.hid P_3
    have hwp : w1.heap.size < w3.heap.size := P_l
    clear CI CS GA_3
    go_wp2
    go_loopw [6, 7] (fun text i wr => ∃ j : Nat, j ≤ n ∧ i = .int .i64 j ∧ text = .string (chsB (xs.take j)) ∧ Below w3.heap.size w3 wr) (fun _ i _ => n - (intOf i).toNat)
    case atStart => exact ⟨0, Nat.zero_le _, rfl, rfl, Below.refl _ _⟩
    case round =>
      obtain ⟨j, hj, rfl, rfl, hB⟩ := hrel
      have BR := Lib.hid hB
      have zr := hB.size
      obtain ⟨⟨p0, p1, p2, p3⟩, q0, q1, q2, q3⟩ := (P3.out.below hB P3.out.lt).get4
      have plw := (P3.out.below hB P3.out.lt).lt
      clear hB P_0_ P_1_ P_2_ P_3_ P_f0_ P_f1_ P_f2_ P_f3_ P_3
      by_cases hlt : j < n
      · obtain ⟨b, o, rfl, hb, hc⟩ := G3.2 (by omega)
        obtain ⟨c0, c1, c2⟩ := hc j hlt
        have hb2 : b < w3.heap.size := by omega
        have d0 := (BR.out.cell (p := ⟨b, o + j * 3, none⟩) hb2).trans c0
        have d1 := (BR.out.cell (p := ⟨b, o + j * 3 + 1, none⟩) hb2).trans c1
        have d2 := (BR.out.cell (p := ⟨b, o + j * 3 + 2, none⟩) hb2).trans c2
        have hst := Lib.hid (chsB_take xs j (by rw [HL.out]; exact hlt))
        have hsz := HS.out j hlt
        have hle := chsB_take_le xs j 4 (by omega)
        generalize hgx : xs.getD j ch0 = y at *
        obtain ⟨a, e, u⟩ := y
        clear hgx hc c0 c1 c2
        simp only at d0 d1 d2 hsz
        have hjn : (j : Int) < (n : Int) := by omega
        have hj0 : (0 : Int) ≤ (j : Int) := by omega
        have cv := fun W => c_ChunkPut a e u W hsz
        have hq := chunkPutV_le a e u
        obtain ⟨q, hqe⟩ : ∃ q, chunkPutV a e u = q := ⟨_, rfl⟩
        rw [hqe] at cv hq
        have hst2 := Lib.hid (show chsB (xs.take (j + 1)) = chsB (xs.take j) ++ q by rw [hst.out, hqe])
        have CV := Lib.hid cv
        obtain ⟨r, hre⟩ : ∃ r, chsB (xs.take j) = r := ⟨_, rfl⟩
        have hst3 := Lib.hid (show chsB (xs.take (j + 1)) = r ++ q by rw [hst2.out, hre])
        rw [hre] at hle ⊢
        clear cv hsz hst hst2 hqe hre
        go_wp2_with fail
        refine (CV.out _).mono ?_
        rintro e2 w5 ⟨rfl, h2⟩
        have B5 := Lib.hid (below_step (B := w3.heap.size) (w0 := w3) (by (repeat' (first | with_reducible exact BR.out | with_reducible exact Below.refl _ _ | with_reducible refine below_drew1 ?_ | with_reducible refine below_drewN ?_ _ | with_reducible refine Below.alloc ?_ ?_ _ | with_reducible refine Below.setCell ?_ ?_ _ | omega | (simp; done) | (simp; omega)))) (by (first | omega | (simp; done) | (simp; omega))) h2)
        clear h2
        go_wp2
        go_roundw
        case rel => exact ⟨j + 1, by omega, by go_num, by rw [hst3.out], B5.out⟩
        case measure => simp [intOf]; omega
      · have hje : j = n := by omega
        subst hje
        rw [List.take_of_length_le (Nat.le_of_eq HL.out), ← X12.out]
        go_wp2
        go_ret
        exact ⟨rfl, below_step (B := w.heap.size) (w0 := w) B3.out B3.out.size BR.out⟩

/-! ### The row's step -/
theorem own : ownKnob Try.prog.godebug = none := by kernel_rfl
theorem laidOut : laidOutB Try.prog = true := by kernel_rfl
set_option maxRecDepth 100000 in
theorem lifted (os : Os) (started : os.Started) (H : Type) (enc : TypeId × Value → H) :
    ReturnsInHanded {} Try.checked os 12 .any (Rows.fnPacketSizeSpec.pre6 enc Try.prog Try.f12 Rows.fnPacketSizeRow.domain false) (Rows.fnPacketSizeSpec.post enc Try.prog Try.f12 false true false false) := by
  refine returnsInHanded_of_change (C := Try.checked) own started (by kernel_rfl) Try.func12
    (ChangeSpec.witness6 (enc := enc) (C := Try.checked) false ⟨#[], #[.slice none 0 0], []⟩ 8 (by kernel_rfl) (by kernel_rfl) (by kernel_rfl) (by kernel_rfl)) ?_
  intro W base args ds gs before hval0 hW hcnd _
  have hval : ∀ (j : Nat) t v, Try.f12.params[j]? = some t → args[j]? = some v → Value.okWide Try.prog W .any base t v := hval0
  have hW' := hW
  obtain ⟨p, q, hA0, hV, rfl, hfz, hnd⟩ := hW
  have hA : DataW.TrodAll enc Try.prog W 0 (fun _ => true) true Try.f12.params.toList args.toList ds p := hA0
  rw [Try.params12] at hA hval
  obtain ⟨v0, vs0, d0, ds0, p0, q0, hargs, rfl, rfl, h0, r0⟩ := trodAll_cons hA
  obtain ⟨rfl, rfl, rfl⟩ := trodAll_nil r0
  obtain rfl : args = #[v0] := by cases args; simp_all
  obtain ⟨rfl, rfl⟩ := trodVars_none hV
  have k0 := h0
  have lt0 : ∀ x ∈ p0, x.block < W.heap.size := by obtain ⟨m, hm⟩ := k0; exact DataW.trod_lt m _ _ _ hm
  obtain ⟨a0, n0, c0, rfl⟩ := okWide_slice Try.underlying22 (hval 0 22 v0 rfl rfl)
  have w0 : Code W a0 n0 c0 := by obtain ⟨fuel, hf⟩ := h0; exact code_of Try.underlying22 Try.underlying5 (by kernel_rfl) hf
  clear hA0 hval0
  refine (walk a0 n0 c0 W w0).mono fun e W' ⟨he, bel⟩ => ?_
  subst he
  exact ⟨_, rfl, _, _, _, [], _, [], hW', trodAll_mk1 (shut_bool Try.underlying4 _), (trodAll_cons_mk (Below.trod laidOut (by kernel_rfl) (of_decide_eq_true (by kernel_rfl)) k0 bel lt0) trodAll_mk0), rfl, bel.frame _, fun h => by cases h⟩

theorem over : Rows.fnPacketSizeRow.holds Try.pinned (OpenSpec.ofChange Rows.fnPacketSizeSpec) :=
  OpenClaim.holds_of_wide 12 Try.f12 rfl rfl rfl rfl rfl rfl rfl ⟨rfl, rfl, rfl, rfl, rfl⟩ rfl rfl rfl rfl rfl (by kernel_rfl) Try.func12 (by kernel_rfl)
    (of_decide_eq_true (by kernel_rfl)) (by unfold Func.isWrapper; first | (rw [if_pos (by decide +kernel)]; kernel_rfl) | (rw [if_neg (by decide +kernel)]; exact ⟨rfl, rfl⟩))
    (fun os started H enc _ => lifted os started H enc)

/-- The statement. -/
theorem proved : Rows.FnPacketSizeSaid := over
#print axioms proved
end Go.Proofs.Ytfkajcljcbdjiaa.fnPacketSize
