/-
  The program's PacketPut returns what the reference's returns, for every packet. No condition.
-/
import Derived.Test.YtfkajcljcbdjiaaChsLaw
import Derived.Test.YtfkajcljcbdjiaaOpenChs
import Derived.Test.YtfkajcljcbdjiaaSPkPut
import Derived.Test.YtfkajcljcbdjiaaOpen
namespace Go.Proofs.Ytfkajcljcbdjiaa.fnExactPacketPut
open Go.ChangeShapes Go.WideShapes Go.ChangeAt Go.RowKit
open Go.ChangeMaps (open_string shut_string)
set_option linter.unusedVariables false
set_option linter.unusedSimpArgs false
set_option maxHeartbeats 4000000 in
theorem walk (x0_0 : Int) (x0_1 : Int) (x0_2 : Int) (a0_3 : Option Addr) (n0_3 c0_3 : Nat) (w : World) (w0_0 : (Lit.int .i64 x0_0).wf = true) (w0_1 : (Lit.int .i64 x0_1).wf = true) (w0_2 : (Lit.int .i64 x0_2).wf = true) (w0_3 : ChunksIn w a0_3 n0_3 c0_3) :
    Calls Try.prog 10 #[.agg #[.int .i64 x0_0, .int .i64 x0_1, .int .i64 x0_2, .slice a0_3 n0_3 c0_3]] w fun e w' => e = .returned (.bool true) ∧ Below w.heap.size w w' := by
  clear w0_0 w0_1 w0_2
  obtain ⟨hnc, hcm, xs, hG, hsz⟩ := w0_3
  have hnm : n0_3 ≤ maxLen := Nat.le_trans hnc hcm
  have HL := Lib.hid hG.1
  have hq : ∀ b : Bool, (b != b) = false := fun b => by simp
  have CZ := Lib.hid (fun W h1 h2 => c_szPacket x0_0 x0_1 x0_2 a0_3 n0_3 c0_3 xs w.heap.size W h1 h2 hnm hsz)
  have HM := Lib.hid hnm
  clear hcm hnm hsz
  have B0 := Lib.hid (Below.refl w.heap.size w)
  go_enter Try.func10, Try.ntmps10
  go_wp2_with fail
  refine (CZ.out _ (by (repeat' (first | (with_reducible exact hG) | with_reducible refine Gaps.alloc ?_ ?_ _ | with_reducible refine Gaps.setCell ?_ ?_ _ | with_reducible refine Gaps.drew ?_ | with_reducible refine Gaps.drewN ?_ _ | omega | (simp; done) | (simp; omega)))) (by first | omega | (simp; done) | (simp; omega))).mono ?_
  rintro e w1 ⟨r, rfl, hr0, hr1, hr2, h1⟩
  have P_1 : Blk w1 (w.heap.size) 34 #[.int .i64 x0_0, .int .i64 x0_1, .int .i64 x0_2, .slice a0_3 n0_3 c0_3] := Blk.below (by (repeat' (first | (with_reducible refine Blk.drewN ?_ _) | (with_reducible refine Blk.drew ?_) | (with_reducible refine Blk.new1 ?hb; case hb => (first | omega | (simp; done) | (simp; omega))) | (with_reducible refine Blk.alloc ?_ _) | (with_reducible refine' Blk.set2_0 ?_ ?hb; case hb => (first | omega | (simp; done) | (simp; omega))) | (with_reducible refine' Blk.set2_1 ?_ ?hb; case hb => (first | omega | (simp; done) | (simp; omega))) | (with_reducible refine' Blk.set3_0 ?_ ?hb; case hb => (first | omega | (simp; done) | (simp; omega))) | (with_reducible refine' Blk.set3_1 ?_ ?hb; case hb => (first | omega | (simp; done) | (simp; omega))) | (with_reducible refine' Blk.set3_2 ?_ ?hb; case hb => (first | omega | (simp; done) | (simp; omega))) | (with_reducible refine' Blk.set4_0 ?_ ?hb; case hb => (first | omega | (simp; done) | (simp; omega))) | (with_reducible refine' Blk.set4_1 ?_ ?hb; case hb => (first | omega | (simp; done) | (simp; omega))) | (with_reducible refine' Blk.set4_2 ?_ ?hb; case hb => (first | omega | (simp; done) | (simp; omega))) | (with_reducible refine' Blk.set4_3 ?_ ?hb; case hb => (first | omega | (simp; done) | (simp; omega))) | (with_reducible refine' Blk.set7_0 ?_ ?hb; case hb => (first | omega | (simp; done) | (simp; omega))) | (with_reducible refine' Blk.set7_1 ?_ ?hb; case hb => (first | omega | (simp; done) | (simp; omega))) | (with_reducible refine' Blk.set7_2 ?_ ?hb; case hb => (first | omega | (simp; done) | (simp; omega))) | (with_reducible refine' Blk.set7_3 ?_ ?hb; case hb => (first | omega | (simp; done) | (simp; omega))) | (with_reducible refine' Blk.set7_4 ?_ ?hb; case hb => (first | omega | (simp; done) | (simp; omega))) | (with_reducible refine' Blk.set7_5 ?_ ?hb; case hb => (first | omega | (simp; done) | (simp; omega))) | (with_reducible refine' Blk.set7_6 ?_ ?hb; case hb => (first | omega | (simp; done) | (simp; omega))) | (with_reducible refine Blk.far ?_ ?hb _; case hb => (first | omega | (simp; done) | (simp; omega))) | fail))) h1 (by (first | omega | (simp; done) | (simp; omega)))
  have B1 := Lib.hid (below_step (B := w.heap.size) (w0 := w) (by (repeat' (first | with_reducible exact B0.out | with_reducible exact Below.refl _ _ | with_reducible refine below_drew1 ?_ | with_reducible refine below_drewN ?_ _ | with_reducible refine Below.alloc ?_ ?_ _ | with_reducible refine Below.setCell ?_ ?_ _ | omega | (simp; done) | (simp; omega)))) (by have := B0.out.size; (first | omega | (simp; done) | (simp; omega))) h1)
  have z1 : w.heap.size ≤ w1.heap.size := B1.out.size
  clear h1 B0
  obtain ⟨⟨P_0_, P_1_, P_2_, P_3_⟩, P_f0_, P_f1_, P_f2_, P_f3_⟩ := P_1.get4
  have P_l := P_1.lt
  have P_l1_ : w.heap.size < w1.heap.size + 1 := by omega
  have P_l2_ : w.heap.size < w1.heap.size + 2 := by omega
  have P_l3_ : w.heap.size < w1.heap.size + 3 := by omega
  have P_l4_ : w.heap.size < w1.heap.size + 4 := by omega
  by_cases hr : r < 0
  · have := hr0 hr
    subst this
    clear hr0 hr1 hr2
    go_wp2
    go_ret
    exact ⟨rfl, by (repeat' (first | with_reducible exact B1.out | with_reducible exact Below.refl _ _ | with_reducible refine below_drew1 ?_ | with_reducible refine below_drewN ?_ _ | with_reducible refine Below.alloc ?_ ?_ _ | with_reducible refine Below.setCell ?_ ?_ _ | omega | (simp; done) | (simp; omega)))⟩
  · obtain ⟨hn, hs⟩ := hr2 (by omega)
    have HS := Lib.hid (show ∀ i, i < n0_3 → (xs.getD i ch0).2.2.size ≤ maxLen from fun i hi => by have := hs i hi; unfold maxLen; omega)
    have hrr : ¬ r < 0 := hr
    clear hr0 hr2 hs
    have cs := fun A B W h1 h2 => c_sPacketPut x0_0 x0_1 x0_2 A n0_3 n0_3 xs B W h1 h2 HM.out HS.out
    have ci := fun A B W h1 h2 => c_PacketPut x0_0 x0_1 x0_2 A n0_3 n0_3 xs B W h1 h2 HM.out HS.out
    generalize pkPutV x0_0 x0_1 x0_2 xs = ok at *
    have CS := Lib.hid cs
    have CI := Lib.hid ci
    clear cs ci
    have hs : (ok.toList != ok.toList) = false := by simp
    have hs2 : (ok.toList == ok.toList) = true := by simp
    have G1 := hG.below B1.out (Nat.le_refl _)
    go_wp2_with fail
    refine (c_toPacket x0_0 x0_1 x0_2 a0_3 n0_3 c0_3 xs w.heap.size _ G1 z1 hn).mono ?_
    rintro e w2 ⟨g1, rfl, hg1, hR1, h2⟩
    have P_2 : Blk w2 (w.heap.size) 34 #[.int .i64 x0_0, .int .i64 x0_1, .int .i64 x0_2, .slice a0_3 n0_3 c0_3] := Blk.below (by (repeat' (first | (with_reducible exact P_1) | (with_reducible refine Blk.drewN ?_ _) | (with_reducible refine Blk.drew ?_) | (with_reducible refine Blk.new1 ?hb; case hb => (first | omega | (simp; done) | (simp; omega))) | (with_reducible refine Blk.alloc ?_ _) | (with_reducible refine' Blk.set2_0 ?_ ?hb; case hb => (first | omega | (simp; done) | (simp; omega))) | (with_reducible refine' Blk.set2_1 ?_ ?hb; case hb => (first | omega | (simp; done) | (simp; omega))) | (with_reducible refine' Blk.set3_0 ?_ ?hb; case hb => (first | omega | (simp; done) | (simp; omega))) | (with_reducible refine' Blk.set3_1 ?_ ?hb; case hb => (first | omega | (simp; done) | (simp; omega))) | (with_reducible refine' Blk.set3_2 ?_ ?hb; case hb => (first | omega | (simp; done) | (simp; omega))) | (with_reducible refine' Blk.set4_0 ?_ ?hb; case hb => (first | omega | (simp; done) | (simp; omega))) | (with_reducible refine' Blk.set4_1 ?_ ?hb; case hb => (first | omega | (simp; done) | (simp; omega))) | (with_reducible refine' Blk.set4_2 ?_ ?hb; case hb => (first | omega | (simp; done) | (simp; omega))) | (with_reducible refine' Blk.set4_3 ?_ ?hb; case hb => (first | omega | (simp; done) | (simp; omega))) | (with_reducible refine' Blk.set7_0 ?_ ?hb; case hb => (first | omega | (simp; done) | (simp; omega))) | (with_reducible refine' Blk.set7_1 ?_ ?hb; case hb => (first | omega | (simp; done) | (simp; omega))) | (with_reducible refine' Blk.set7_2 ?_ ?hb; case hb => (first | omega | (simp; done) | (simp; omega))) | (with_reducible refine' Blk.set7_3 ?_ ?hb; case hb => (first | omega | (simp; done) | (simp; omega))) | (with_reducible refine' Blk.set7_4 ?_ ?hb; case hb => (first | omega | (simp; done) | (simp; omega))) | (with_reducible refine' Blk.set7_5 ?_ ?hb; case hb => (first | omega | (simp; done) | (simp; omega))) | (with_reducible refine' Blk.set7_6 ?_ ?hb; case hb => (first | omega | (simp; done) | (simp; omega))) | (with_reducible refine Blk.far ?_ ?hb _; case hb => (first | omega | (simp; done) | (simp; omega))) | fail))) h2 (by (first | omega | (simp; done) | (simp; omega)))
    have B2 := Lib.hid (below_step (B := w.heap.size) (w0 := w) (by (repeat' (first | with_reducible exact B1.out | with_reducible exact Below.refl _ _ | with_reducible refine below_drew1 ?_ | with_reducible refine below_drewN ?_ _ | with_reducible refine Below.alloc ?_ ?_ _ | with_reducible refine Below.setCell ?_ ?_ _ | omega | (simp; done) | (simp; omega)))) (by have := B1.out.size; (first | omega | (simp; done) | (simp; omega))) h2)
    have z2 : w.heap.size ≤ w2.heap.size := B2.out.size
    clear h2 B1 z1 P_1
    try clear P_l P_0_ P_1_ P_2_ P_3_ P_l1_ P_l2_ P_l3_ P_l4_
    obtain ⟨⟨P_0_, P_1_, P_2_, P_3_⟩, P_f0_, P_f1_, P_f2_, P_f3_⟩ := P_2.get4
    have P_l := P_2.lt
    have P_l1_ : w.heap.size < w2.heap.size + 1 := by omega
    have P_l2_ : w.heap.size < w2.heap.size + 2 := by omega
    have P_l3_ : w.heap.size < w2.heap.size + 3 := by omega
    have P_l4_ : w.heap.size < w2.heap.size + 4 := by omega
    go_wp2_with fail
    refine (CS.out (some ⟨g1, 0, none⟩) w2.heap.size _ (hR1.gaps HL.out) (Nat.le_refl _)).mono ?_
    rintro e w3 ⟨rfl, h3⟩
    have P_3 : Blk w3 (w.heap.size) 34 #[.int .i64 x0_0, .int .i64 x0_1, .int .i64 x0_2, .slice a0_3 n0_3 c0_3] := Blk.below (by (repeat' (first | (with_reducible exact P_2) | (with_reducible refine Blk.drewN ?_ _) | (with_reducible refine Blk.drew ?_) | (with_reducible refine Blk.new1 ?hb; case hb => (first | omega | (simp; done) | (simp; omega))) | (with_reducible refine Blk.alloc ?_ _) | (with_reducible refine' Blk.set2_0 ?_ ?hb; case hb => (first | omega | (simp; done) | (simp; omega))) | (with_reducible refine' Blk.set2_1 ?_ ?hb; case hb => (first | omega | (simp; done) | (simp; omega))) | (with_reducible refine' Blk.set3_0 ?_ ?hb; case hb => (first | omega | (simp; done) | (simp; omega))) | (with_reducible refine' Blk.set3_1 ?_ ?hb; case hb => (first | omega | (simp; done) | (simp; omega))) | (with_reducible refine' Blk.set3_2 ?_ ?hb; case hb => (first | omega | (simp; done) | (simp; omega))) | (with_reducible refine' Blk.set4_0 ?_ ?hb; case hb => (first | omega | (simp; done) | (simp; omega))) | (with_reducible refine' Blk.set4_1 ?_ ?hb; case hb => (first | omega | (simp; done) | (simp; omega))) | (with_reducible refine' Blk.set4_2 ?_ ?hb; case hb => (first | omega | (simp; done) | (simp; omega))) | (with_reducible refine' Blk.set4_3 ?_ ?hb; case hb => (first | omega | (simp; done) | (simp; omega))) | (with_reducible refine' Blk.set7_0 ?_ ?hb; case hb => (first | omega | (simp; done) | (simp; omega))) | (with_reducible refine' Blk.set7_1 ?_ ?hb; case hb => (first | omega | (simp; done) | (simp; omega))) | (with_reducible refine' Blk.set7_2 ?_ ?hb; case hb => (first | omega | (simp; done) | (simp; omega))) | (with_reducible refine' Blk.set7_3 ?_ ?hb; case hb => (first | omega | (simp; done) | (simp; omega))) | (with_reducible refine' Blk.set7_4 ?_ ?hb; case hb => (first | omega | (simp; done) | (simp; omega))) | (with_reducible refine' Blk.set7_5 ?_ ?hb; case hb => (first | omega | (simp; done) | (simp; omega))) | (with_reducible refine' Blk.set7_6 ?_ ?hb; case hb => (first | omega | (simp; done) | (simp; omega))) | (with_reducible refine Blk.far ?_ ?hb _; case hb => (first | omega | (simp; done) | (simp; omega))) | fail))) h3 (by (first | omega | (simp; done) | (simp; omega)))
    have B3 := Lib.hid (below_step (B := w.heap.size) (w0 := w) (by (repeat' (first | with_reducible exact B2.out | with_reducible exact Below.refl _ _ | with_reducible refine below_drew1 ?_ | with_reducible refine below_drewN ?_ _ | with_reducible refine Below.alloc ?_ ?_ _ | with_reducible refine Below.setCell ?_ ?_ _ | omega | (simp; done) | (simp; omega)))) (by have := B2.out.size; (first | omega | (simp; done) | (simp; omega))) h3)
    have z3 : w.heap.size ≤ w3.heap.size := B3.out.size
    clear h3 B2 z2 P_2
    try clear P_l P_0_ P_1_ P_2_ P_3_ P_l1_ P_l2_ P_l3_ P_l4_
    obtain ⟨⟨P_0_, P_1_, P_2_, P_3_⟩, P_f0_, P_f1_, P_f2_, P_f3_⟩ := P_3.get4
    have P_l := P_3.lt
    have P_l1_ : w.heap.size < w3.heap.size + 1 := by omega
    have P_l2_ : w.heap.size < w3.heap.size + 2 := by omega
    have P_l3_ : w.heap.size < w3.heap.size + 3 := by omega
    have P_l4_ : w.heap.size < w3.heap.size + 4 := by omega
    have G3 := hG.below B3.out (Nat.le_refl _)
    go_wp2_with fail
    refine (c_toPacket x0_0 x0_1 x0_2 a0_3 n0_3 c0_3 xs w.heap.size _ (by (repeat' (first | (with_reducible exact G3) | with_reducible refine Gaps.alloc ?_ ?_ _ | with_reducible refine Gaps.setCell ?_ ?_ _ | with_reducible refine Gaps.drew ?_ | with_reducible refine Gaps.drewN ?_ _ | omega | (simp; done) | (simp; omega)))) (by first | omega | (simp; done) | (simp; omega)) hn).mono ?_
    rintro e w4 ⟨g2, rfl, hg2, hR2, h4⟩
    have P_4 : Blk w4 (w.heap.size) 34 #[.int .i64 x0_0, .int .i64 x0_1, .int .i64 x0_2, .slice a0_3 n0_3 c0_3] := Blk.below (by (repeat' (first | (with_reducible exact P_3) | (with_reducible refine Blk.drewN ?_ _) | (with_reducible refine Blk.drew ?_) | (with_reducible refine Blk.new1 ?hb; case hb => (first | omega | (simp; done) | (simp; omega))) | (with_reducible refine Blk.alloc ?_ _) | (with_reducible refine' Blk.set2_0 ?_ ?hb; case hb => (first | omega | (simp; done) | (simp; omega))) | (with_reducible refine' Blk.set2_1 ?_ ?hb; case hb => (first | omega | (simp; done) | (simp; omega))) | (with_reducible refine' Blk.set3_0 ?_ ?hb; case hb => (first | omega | (simp; done) | (simp; omega))) | (with_reducible refine' Blk.set3_1 ?_ ?hb; case hb => (first | omega | (simp; done) | (simp; omega))) | (with_reducible refine' Blk.set3_2 ?_ ?hb; case hb => (first | omega | (simp; done) | (simp; omega))) | (with_reducible refine' Blk.set4_0 ?_ ?hb; case hb => (first | omega | (simp; done) | (simp; omega))) | (with_reducible refine' Blk.set4_1 ?_ ?hb; case hb => (first | omega | (simp; done) | (simp; omega))) | (with_reducible refine' Blk.set4_2 ?_ ?hb; case hb => (first | omega | (simp; done) | (simp; omega))) | (with_reducible refine' Blk.set4_3 ?_ ?hb; case hb => (first | omega | (simp; done) | (simp; omega))) | (with_reducible refine' Blk.set7_0 ?_ ?hb; case hb => (first | omega | (simp; done) | (simp; omega))) | (with_reducible refine' Blk.set7_1 ?_ ?hb; case hb => (first | omega | (simp; done) | (simp; omega))) | (with_reducible refine' Blk.set7_2 ?_ ?hb; case hb => (first | omega | (simp; done) | (simp; omega))) | (with_reducible refine' Blk.set7_3 ?_ ?hb; case hb => (first | omega | (simp; done) | (simp; omega))) | (with_reducible refine' Blk.set7_4 ?_ ?hb; case hb => (first | omega | (simp; done) | (simp; omega))) | (with_reducible refine' Blk.set7_5 ?_ ?hb; case hb => (first | omega | (simp; done) | (simp; omega))) | (with_reducible refine' Blk.set7_6 ?_ ?hb; case hb => (first | omega | (simp; done) | (simp; omega))) | (with_reducible refine Blk.far ?_ ?hb _; case hb => (first | omega | (simp; done) | (simp; omega))) | fail))) h4 (by (first | omega | (simp; done) | (simp; omega)))
    have B4 := Lib.hid (below_step (B := w.heap.size) (w0 := w) (by (repeat' (first | with_reducible exact B3.out | with_reducible exact Below.refl _ _ | with_reducible refine below_drew1 ?_ | with_reducible refine below_drewN ?_ _ | with_reducible refine Below.alloc ?_ ?_ _ | with_reducible refine Below.setCell ?_ ?_ _ | omega | (simp; done) | (simp; omega)))) (by have := B3.out.size; (first | omega | (simp; done) | (simp; omega))) h4)
    have z4 : w.heap.size ≤ w4.heap.size := B4.out.size
    clear h4 B3 z3 P_3
    try clear P_l P_0_ P_1_ P_2_ P_3_ P_l1_ P_l2_ P_l3_ P_l4_
    obtain ⟨⟨P_0_, P_1_, P_2_, P_3_⟩, P_f0_, P_f1_, P_f2_, P_f3_⟩ := P_4.get4
    have P_l := P_4.lt
    have P_l1_ : w.heap.size < w4.heap.size + 1 := by omega
    have P_l2_ : w.heap.size < w4.heap.size + 2 := by omega
    have P_l3_ : w.heap.size < w4.heap.size + 3 := by omega
    have P_l4_ : w.heap.size < w4.heap.size + 4 := by omega
    have R_4 : GRow w4 g2 n0_3 n0_3 xs := hR2
    go_wp2_with fail
    refine (CI.out (some ⟨g2, 0, none⟩) w4.heap.size _ (by (repeat' (first | (with_reducible exact hR2.gaps HL.out) | with_reducible refine Gaps.alloc ?_ ?_ _ | with_reducible refine Gaps.setCell ?_ ?_ _ | with_reducible refine Gaps.drew ?_ | with_reducible refine Gaps.drewN ?_ _ | omega | (simp; done) | (simp; omega)))) (by first | omega | (simp; done) | (simp; omega))).mono ?_
    rintro e w5 ⟨rfl, h5⟩
    have P_5 : Blk w5 (w.heap.size) 34 #[.int .i64 x0_0, .int .i64 x0_1, .int .i64 x0_2, .slice a0_3 n0_3 c0_3] := Blk.below (by (repeat' (first | (with_reducible exact P_4) | (with_reducible refine Blk.drewN ?_ _) | (with_reducible refine Blk.drew ?_) | (with_reducible refine Blk.new1 ?hb; case hb => (first | omega | (simp; done) | (simp; omega))) | (with_reducible refine Blk.alloc ?_ _) | (with_reducible refine' Blk.set2_0 ?_ ?hb; case hb => (first | omega | (simp; done) | (simp; omega))) | (with_reducible refine' Blk.set2_1 ?_ ?hb; case hb => (first | omega | (simp; done) | (simp; omega))) | (with_reducible refine' Blk.set3_0 ?_ ?hb; case hb => (first | omega | (simp; done) | (simp; omega))) | (with_reducible refine' Blk.set3_1 ?_ ?hb; case hb => (first | omega | (simp; done) | (simp; omega))) | (with_reducible refine' Blk.set3_2 ?_ ?hb; case hb => (first | omega | (simp; done) | (simp; omega))) | (with_reducible refine' Blk.set4_0 ?_ ?hb; case hb => (first | omega | (simp; done) | (simp; omega))) | (with_reducible refine' Blk.set4_1 ?_ ?hb; case hb => (first | omega | (simp; done) | (simp; omega))) | (with_reducible refine' Blk.set4_2 ?_ ?hb; case hb => (first | omega | (simp; done) | (simp; omega))) | (with_reducible refine' Blk.set4_3 ?_ ?hb; case hb => (first | omega | (simp; done) | (simp; omega))) | (with_reducible refine' Blk.set7_0 ?_ ?hb; case hb => (first | omega | (simp; done) | (simp; omega))) | (with_reducible refine' Blk.set7_1 ?_ ?hb; case hb => (first | omega | (simp; done) | (simp; omega))) | (with_reducible refine' Blk.set7_2 ?_ ?hb; case hb => (first | omega | (simp; done) | (simp; omega))) | (with_reducible refine' Blk.set7_3 ?_ ?hb; case hb => (first | omega | (simp; done) | (simp; omega))) | (with_reducible refine' Blk.set7_4 ?_ ?hb; case hb => (first | omega | (simp; done) | (simp; omega))) | (with_reducible refine' Blk.set7_5 ?_ ?hb; case hb => (first | omega | (simp; done) | (simp; omega))) | (with_reducible refine' Blk.set7_6 ?_ ?hb; case hb => (first | omega | (simp; done) | (simp; omega))) | (with_reducible refine Blk.far ?_ ?hb _; case hb => (first | omega | (simp; done) | (simp; omega))) | fail))) h5 (by (first | omega | (simp; done) | (simp; omega)))
    have X_5 : Blk w5 (w4.heap.size) 25 #[.int .i64 x0_0, .int .i64 x0_1, .int .i64 x0_2, .slice (some ⟨g2, 0, none⟩) n0_3 n0_3] := Blk.below (by (repeat' (first | (with_reducible refine Blk.drewN ?_ _) | (with_reducible refine Blk.drew ?_) | (with_reducible refine Blk.new1 ?hb; case hb => (first | omega | (simp; done) | (simp; omega))) | (with_reducible refine Blk.alloc ?_ _) | (with_reducible refine' Blk.set2_0 ?_ ?hb; case hb => (first | omega | (simp; done) | (simp; omega))) | (with_reducible refine' Blk.set2_1 ?_ ?hb; case hb => (first | omega | (simp; done) | (simp; omega))) | (with_reducible refine' Blk.set3_0 ?_ ?hb; case hb => (first | omega | (simp; done) | (simp; omega))) | (with_reducible refine' Blk.set3_1 ?_ ?hb; case hb => (first | omega | (simp; done) | (simp; omega))) | (with_reducible refine' Blk.set3_2 ?_ ?hb; case hb => (first | omega | (simp; done) | (simp; omega))) | (with_reducible refine' Blk.set4_0 ?_ ?hb; case hb => (first | omega | (simp; done) | (simp; omega))) | (with_reducible refine' Blk.set4_1 ?_ ?hb; case hb => (first | omega | (simp; done) | (simp; omega))) | (with_reducible refine' Blk.set4_2 ?_ ?hb; case hb => (first | omega | (simp; done) | (simp; omega))) | (with_reducible refine' Blk.set4_3 ?_ ?hb; case hb => (first | omega | (simp; done) | (simp; omega))) | (with_reducible refine' Blk.set7_0 ?_ ?hb; case hb => (first | omega | (simp; done) | (simp; omega))) | (with_reducible refine' Blk.set7_1 ?_ ?hb; case hb => (first | omega | (simp; done) | (simp; omega))) | (with_reducible refine' Blk.set7_2 ?_ ?hb; case hb => (first | omega | (simp; done) | (simp; omega))) | (with_reducible refine' Blk.set7_3 ?_ ?hb; case hb => (first | omega | (simp; done) | (simp; omega))) | (with_reducible refine' Blk.set7_4 ?_ ?hb; case hb => (first | omega | (simp; done) | (simp; omega))) | (with_reducible refine' Blk.set7_5 ?_ ?hb; case hb => (first | omega | (simp; done) | (simp; omega))) | (with_reducible refine' Blk.set7_6 ?_ ?hb; case hb => (first | omega | (simp; done) | (simp; omega))) | (with_reducible refine Blk.far ?_ ?hb _; case hb => (first | omega | (simp; done) | (simp; omega))) | fail))) h5 (by (first | omega | (simp; done) | (simp; omega)))
    have R_5 : GRow w5 g2 n0_3 n0_3 xs := GRow.below (by (repeat' (first | (with_reducible exact R_4) | with_reducible refine GRow.drewN ?_ _ | with_reducible refine GRow.drew ?_ | with_reducible refine GRow.alloc ?_ _ | omega | (simp; done) | (simp; omega)))) h5 (by have := R_4.lt; (first | omega | (simp; done) | (simp; omega)))
    have B5 := Lib.hid (below_step (B := w.heap.size) (w0 := w) (by (repeat' (first | with_reducible exact B4.out | with_reducible exact Below.refl _ _ | with_reducible refine below_drew1 ?_ | with_reducible refine below_drewN ?_ _ | with_reducible refine Below.alloc ?_ ?_ _ | with_reducible refine Below.setCell ?_ ?_ _ | omega | (simp; done) | (simp; omega)))) (by have := B4.out.size; (first | omega | (simp; done) | (simp; omega))) h5)
    have z5 : w.heap.size ≤ w5.heap.size := B5.out.size
    clear h5 B4 z4 P_4 R_4
    try clear P_l P_0_ P_1_ P_2_ P_3_ P_l1_ P_l2_ P_l3_ P_l4_
    obtain ⟨⟨P_0_, P_1_, P_2_, P_3_⟩, P_f0_, P_f1_, P_f2_, P_f3_⟩ := P_5.get4
    have P_l := P_5.lt
    have P_l1_ : w.heap.size < w5.heap.size + 1 := by omega
    have P_l2_ : w.heap.size < w5.heap.size + 2 := by omega
    have P_l3_ : w.heap.size < w5.heap.size + 3 := by omega
    have P_l4_ : w.heap.size < w5.heap.size + 4 := by omega
    obtain ⟨⟨X_0_, X_1_, X_2_, X_3_⟩, X_f0_, X_f1_, X_f2_, X_f3_⟩ := X_5.get4
    have X_l := X_5.lt
    have X_l1_ : w4.heap.size < w5.heap.size + 1 := by omega
    have X_l2_ : w4.heap.size < w5.heap.size + 2 := by omega
    have X_l3_ : w4.heap.size < w5.heap.size + 3 := by omega
    have X_l4_ : w4.heap.size < w5.heap.size + 4 := by omega
    have G5 := hG.below B5.out (Nat.le_refl _)
    have u0 := fun (W' : World) (hW : Below w5.heap.size w5 W') => show W'.cell? ⟨w4.heap.size, 0, none⟩ = some (.int .i64 x0_0) from (X_5.below hW X_5.lt).cell 0
    have u1 := fun (W' : World) (hW : Below w5.heap.size w5 W') => show W'.cell? ⟨w4.heap.size, 1, none⟩ = some (.int .i64 x0_1) from (X_5.below hW X_5.lt).cell 1
    have u2 := fun (W' : World) (hW : Below w5.heap.size w5 W') => show W'.cell? ⟨w4.heap.size, 2, none⟩ = some (.int .i64 x0_2) from (X_5.below hW X_5.lt).cell 2
    have u3 := fun (W' : World) (hW : Below w5.heap.size w5 W') => show W'.cell? ⟨w4.heap.size, 3, none⟩ = some (.slice (some ⟨g2, 0, none⟩) n0_3 n0_3) from (X_5.below hW X_5.lt).cell 3
    have v0 := fun (W' : World) (hW : Below w5.heap.size w5 W') => show W'.cell? ⟨w.heap.size, 0, none⟩ = some (.int .i64 x0_0) from (P_5.below hW P_5.lt).cell 0
    have v1 := fun (W' : World) (hW : Below w5.heap.size w5 W') => show W'.cell? ⟨w.heap.size, 1, none⟩ = some (.int .i64 x0_1) from (P_5.below hW P_5.lt).cell 1
    have v2 := fun (W' : World) (hW : Below w5.heap.size w5 W') => show W'.cell? ⟨w.heap.size, 2, none⟩ = some (.int .i64 x0_2) from (P_5.below hW P_5.lt).cell 2
    have v3 := fun (W' : World) (hW : Below w5.heap.size w5 W') => show W'.cell? ⟨w.heap.size, 3, none⟩ = some (.slice a0_3 n0_3 c0_3) from (P_5.below hW P_5.lt).cell 3
    go_wp2_with fail
    go_region_held3 (fun w' => Below w5.heap.size w5 w')
      ((repeat' (first | (with_reducible assumption) | with_reducible exact Below.refl _ _ | with_reducible refine below_drew1 ?_ | with_reducible refine below_drewN ?_ _ | with_reducible refine Below.alloc ?_ ?_ _ | with_reducible refine Below.setCell ?_ ?_ _ | omega | (simp; done) | (simp; omega))))
      (first | (go_at_call 21; refine (c_toPacket x0_0 x0_1 x0_2 a0_3 n0_3 c0_3 xs w.heap.size _ (by (repeat' (first | (with_reducible exact G5) | with_reducible refine Gaps.alloc ?_ ?_ _ | with_reducible refine Gaps.setCell ?_ ?_ _ | with_reducible refine Gaps.drew ?_ | with_reducible refine Gaps.drewN ?_ _ | omega | (simp; done) | (simp; omega)))) (by first | omega | (simp; done) | (simp; omega)) hn).mono ?_; rintro e w7 ⟨g3, rfl, hg3, hR3, h7⟩; have HS7 : Below w5.heap.size w5 w7 := below_step (B := w5.heap.size) (by (repeat' (first | (with_reducible assumption) | with_reducible exact Below.refl _ _ | with_reducible refine below_drew1 ?_ | with_reducible refine below_drewN ?_ _ | with_reducible refine Below.alloc ?_ ?_ _ | with_reducible refine Below.setCell ?_ ?_ _ | omega | (simp; done) | (simp; omega)))) (by first | omega | (simp; done) | (simp; omega)) h7; have z7 := HS7.size; have R7 : GRow w7 g2 n0_3 n0_3 xs := GRow.below (by (repeat' (first | (with_reducible exact R_5) | with_reducible refine GRow.drewN ?_ _ | with_reducible refine GRow.drew ?_ | with_reducible refine GRow.alloc ?_ _ | omega | (simp; done) | (simp; omega)))) h7 (by have := R_5.lt; (first | omega | (simp; done) | (simp; omega))); clear h7) | (go_at_call 23; refine (c_eqPacket x0_0 x0_1 x0_2 (some ⟨g2, 0, none⟩) (some ⟨g3, 0, none⟩) n0_3 n0_3 n0_3 xs w7.heap.size _ (by (repeat' (first | (with_reducible exact R7.gaps HL.out) | with_reducible refine Gaps.alloc ?_ ?_ _ | with_reducible refine Gaps.setCell ?_ ?_ _ | with_reducible refine Gaps.drew ?_ | with_reducible refine Gaps.drewN ?_ _ | omega | (simp; done) | (simp; omega)))) (by (repeat' (first | (with_reducible exact hR3.gaps HL.out) | with_reducible refine Gaps.alloc ?_ ?_ _ | with_reducible refine Gaps.setCell ?_ ?_ _ | with_reducible refine Gaps.drew ?_ | with_reducible refine Gaps.drewN ?_ _ | omega | (simp; done) | (simp; omega)))) (by first | omega | (simp; done) | (simp; omega)) HM.out).mono ?_; rintro e w8 ⟨rfl, h8⟩; have HS8 : Below w5.heap.size w5 w8 := below_step (B := w5.heap.size) (by (repeat' (first | (with_reducible assumption) | with_reducible exact Below.refl _ _ | with_reducible refine below_drew1 ?_ | with_reducible refine below_drewN ?_ _ | with_reducible refine Below.alloc ?_ ?_ _ | with_reducible refine Below.setCell ?_ ?_ _ | omega | (simp; done) | (simp; omega)))) (by first | omega | (simp; done) | (simp; omega)) h8; have B8 := Lib.hid (below_step B5.out B5.out.size HS8); clear h8))
    clear u0 u1 u2 u3 v0 v1 v2 v3
    go_wp2
    go_ret
    exact ⟨rfl, by (repeat' (first | with_reducible exact B8.out | with_reducible exact Below.refl _ _ | with_reducible refine below_drew1 ?_ | with_reducible refine below_drewN ?_ _ | with_reducible refine Below.alloc ?_ ?_ _ | with_reducible refine Below.setCell ?_ ?_ _ | omega | (simp; done) | (simp; omega)))⟩

/-! ### The row's step -/
theorem own : ownKnob Try.prog.godebug = none := by kernel_rfl
theorem laidOut : laidOutB Try.prog = true := by kernel_rfl
set_option maxRecDepth 100000 in
theorem lifted (os : Os) (started : os.Started) (H : Type) (enc : TypeId × Value → H) :
    ReturnsInHanded {} Try.checked os 10 .any (Rows.fnExactPacketPutSpec.pre6 enc Try.prog Try.f10 Rows.fnExactPacketPutRow.domain false) (Rows.fnExactPacketPutSpec.post enc Try.prog Try.f10 false true false false) := by
  refine returnsInHanded_of_change (C := Try.checked) own started (by kernel_rfl) Try.func10
    (ChangeSpec.witness6 (enc := enc) (C := Try.checked) false ⟨#[], #[.agg #[.int .i64 0, .int .i64 0, .int .i64 0, .slice none 0 0]], []⟩ 8 (by kernel_rfl) (by kernel_rfl) (by kernel_rfl) (by kernel_rfl)) ?_
  intro W base args ds gs before hval0 hW hcnd _
  have hval : ∀ (j : Nat) t v, Try.f10.params[j]? = some t → args[j]? = some v → Value.okWide Try.prog W .any base t v := hval0
  have hW' := hW
  obtain ⟨p, q, hA0, hV, rfl, hfz, hnd⟩ := hW
  have hA : DataW.TrodAll enc Try.prog W 0 (fun _ => true) true Try.f10.params.toList args.toList ds p := hA0
  rw [Try.params10] at hA hval
  obtain ⟨v0, vs0, d0, ds0, p0, q0, hargs, rfl, rfl, h0, r0⟩ := trodAll_cons hA
  obtain ⟨rfl, rfl, rfl⟩ := trodAll_nil r0
  obtain rfl : args = #[v0] := by cases args; simp_all
  obtain ⟨rfl, rfl⟩ := trodVars_none hV
  have k0 := h0
  have lt0 : ∀ x ∈ p0, x.block < W.heap.size := by obtain ⟨m, hm⟩ := k0; exact DataW.trod_lt m _ _ _ hm
  obtain ⟨cs0, m0, u0, hz0, hf0⟩ := open_fields Try.underlying34 (by kernel_rfl) (by kernel_rfl) (hval 0 34 v0 rfl rfl) h0
  subst u0
  obtain ⟨u0_0, y0_0, g0_0, t0_0, z0_0⟩ := hf0 0 _ rfl
  obtain ⟨x0_0, rfl, w0_0⟩ := int_field Try.underlying3 t0_0
  obtain ⟨u0_1, y0_1, g0_1, t0_1, z0_1⟩ := hf0 1 _ rfl
  obtain ⟨x0_1, rfl, w0_1⟩ := int_field Try.underlying3 t0_1
  obtain ⟨u0_2, y0_2, g0_2, t0_2, z0_2⟩ := hf0 2 _ rfl
  obtain ⟨x0_2, rfl, w0_2⟩ := int_field Try.underlying3 t0_2
  obtain ⟨u0_3, y0_3, g0_3, t0_3, z0_3⟩ := hf0 3 _ rfl
  obtain ⟨a0_3, n0_3, c0_3, rfl, w0_3⟩ := chunks_field t0_3
  obtain rfl := arr4 hz0 g0_0 g0_1 g0_2 g0_3
  clear hA0 hval0
  refine (walk x0_0 x0_1 x0_2 a0_3 n0_3 c0_3 W w0_0 w0_1 w0_2 w0_3).mono fun e W' ⟨he, bel⟩ => ?_
  subst he
  exact ⟨_, rfl, _, _, _, [], _, [], hW', trodAll_mk1 (shut_bool Try.underlying4 _), (trodAll_cons_mk (Below.trod laidOut (by kernel_rfl) (of_decide_eq_true (by kernel_rfl)) k0 bel lt0) trodAll_mk0), rfl, bel.frame _, fun h => by cases h⟩

theorem over : Rows.fnExactPacketPutRow.holds Try.pinned (OpenSpec.ofChange Rows.fnExactPacketPutSpec) :=
  OpenClaim.holds_of_wide 10 Try.f10 rfl rfl rfl rfl rfl rfl rfl ⟨rfl, rfl, rfl, rfl, rfl⟩ rfl rfl rfl rfl rfl (by kernel_rfl) Try.func10 (by kernel_rfl)
    (of_decide_eq_true (by kernel_rfl)) (by unfold Func.isWrapper; first | (rw [if_pos (by decide +kernel)]; kernel_rfl) | (rw [if_neg (by decide +kernel)]; exact ⟨rfl, rfl⟩))
    (fun os started H enc _ => lifted os started H enc)

/-- The statement. -/
theorem proved : Rows.FnExactPacketPutSaid := over
#print axioms proved
end Go.Proofs.Ytfkajcljcbdjiaa.fnExactPacketPut
