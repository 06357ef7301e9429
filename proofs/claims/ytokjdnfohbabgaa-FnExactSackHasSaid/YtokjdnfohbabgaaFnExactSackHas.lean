/-
  The program's SackHas returns what the reference's returns, for every receipt and every number. No condition.
-/
import Derived.Test.YtokjdnfohbabgaaSSackHas
import Derived.Test.YtokjdnfohbabgaaGapsLaw
import Derived.Test.YtokjdnfohbabgaaSackV
import Derived.Test.YtokjdnfohbabgaaOpenGaps
import Derived.Test.YtokjdnfohbabgaaChunkFacts
import Derived.Test.YtokjdnfohbabgaaConv2
namespace Go.Proofs.Ytokjdnfohbabgaa.fnExactSackHas
open Go.ChangeShapes Go.WideShapes Go.ChangeAt Go.RowKit
open Go.ChangeMaps (open_string shut_string)
set_option linter.unusedVariables false
set_option linter.unusedSimpArgs false
set_option maxHeartbeats 4000000 in
theorem walk (x0_0 : Int) (a0_1 : Option Addr) (n0_1 c0_1 : Nat) (x1 : Int) (w : World) (w0_0 : (Lit.int .i64 x0_0).wf = true) (w0_1 : GapsIn w a0_1 n0_1 c0_1) (w1 : (Lit.int .i64 x1).wf = true) :
    Calls Try.prog 6 #[.agg #[.int .i64 x0_0, .slice a0_1 n0_1 c0_1], .int .i64 x1] w fun e w' => e = .returned (.bool true) ∧ Below w.heap.size w w' := by
  clear w0_0
  obtain ⟨hnc, hcm, xs, hG⟩ := w0_1
  have hnm : n0_1 ≤ maxLen := Nat.le_trans hnc hcm
  have hl := hG.1
  have hq : ∀ b : Bool, (b != b) = false := fun b => by simp
  have B0 := Lib.hid (Below.refl w.heap.size w)
  by_cases hb : (1048576 : Int) < n0_1
  · have csz := fun W => c_szSack x0_0 a0_1 n0_1 c0_1 1048576 W hnm (by omega) (by omega)
    simp only [if_pos hb] at csz
    have CZ := Lib.hid csz
    clear csz hcm hnm hl
    go_enter Try.func6, Try.ntmps6
    go_wp2_with fail
    refine (CZ.out _).mono ?_
    rintro e w1 ⟨rfl, h1⟩
    have B1 := Lib.hid (below_step (B := w.heap.size) (w0 := w) (by (repeat' (first | with_reducible exact B0.out | with_reducible exact Below.refl _ _ | with_reducible refine below_drew1 ?_ | with_reducible refine below_drewN ?_ _ | with_reducible refine Below.alloc ?_ ?_ _ | with_reducible refine Below.setCell ?_ ?_ _ | omega | (simp; done) | (simp; omega)))) (by have := B0.out.size; (first | omega | (simp; done) | (simp; omega))) h1)
    have z1 : w.heap.size ≤ w1.heap.size := B1.out.size
    clear h1 B0
    go_wp2
    go_ret
    exact ⟨rfl, by (repeat' (first | with_reducible exact B1.out | with_reducible exact Below.refl _ _ | with_reducible refine below_drew1 ?_ | with_reducible refine below_drewN ?_ _ | with_reducible refine Below.alloc ?_ ?_ _ | with_reducible refine Below.setCell ?_ ?_ _ | omega | (simp; done) | (simp; omega)))⟩
  · have csz := fun W => c_szSack x0_0 a0_1 n0_1 c0_1 1048576 W hnm (by omega) (by omega)
    simp only [if_neg hb] at csz
    have CZ := Lib.hid csz
    have HM := Lib.hid hnm
    have HL := Lib.hid hl
    have hn : n0_1 ≤ 1048576 := by omega
    clear csz hcm hnm hl
    have cs := fun A B W h1 h2 => c_sSackHas x0_0 x1 A n0_1 n0_1 xs B W h1 h2 (by omega)
    have ci := fun A B W h1 h2 => c_SackHas x0_0 x1 A n0_1 n0_1 xs B W h1 h2 (by omega)
    generalize sackHasV x0_0 xs x1 = ok at *
    have CS := Lib.hid cs
    have CI := Lib.hid ci
    clear cs ci
    have B0 := Lib.hid (Below.refl w.heap.size w)
    go_enter Try.func6, Try.ntmps6
    go_wp2_with fail
    refine (CZ.out _).mono ?_
    rintro e w1 ⟨rfl, h1⟩
    have P_1 : Blk w1 (w.heap.size) 41 #[.int .i64 x0_0, .slice a0_1 n0_1 c0_1] := Blk.below (by (repeat' (first | (with_reducible refine Blk.drewN ?_ _) | (with_reducible refine Blk.drew ?_) | (with_reducible refine Blk.new1 ?hb; case hb => (first | omega | (simp; done) | (simp; omega))) | (with_reducible refine Blk.alloc ?_ _) | (with_reducible refine' Blk.set3_0 ?_ ?hb; case hb => (first | omega | (simp; done) | (simp; omega))) | (with_reducible refine' Blk.set3_1 ?_ ?hb; case hb => (first | omega | (simp; done) | (simp; omega))) | (with_reducible refine' Blk.set3_2 ?_ ?hb; case hb => (first | omega | (simp; done) | (simp; omega))) | (with_reducible refine' Blk.set4_0 ?_ ?hb; case hb => (first | omega | (simp; done) | (simp; omega))) | (with_reducible refine' Blk.set4_1 ?_ ?hb; case hb => (first | omega | (simp; done) | (simp; omega))) | (with_reducible refine' Blk.set4_2 ?_ ?hb; case hb => (first | omega | (simp; done) | (simp; omega))) | (with_reducible refine' Blk.set4_3 ?_ ?hb; case hb => (first | omega | (simp; done) | (simp; omega))) | (with_reducible refine' Blk.set7_0 ?_ ?hb; case hb => (first | omega | (simp; done) | (simp; omega))) | (with_reducible refine' Blk.set7_1 ?_ ?hb; case hb => (first | omega | (simp; done) | (simp; omega))) | (with_reducible refine' Blk.set7_2 ?_ ?hb; case hb => (first | omega | (simp; done) | (simp; omega))) | (with_reducible refine' Blk.set7_3 ?_ ?hb; case hb => (first | omega | (simp; done) | (simp; omega))) | (with_reducible refine' Blk.set7_4 ?_ ?hb; case hb => (first | omega | (simp; done) | (simp; omega))) | (with_reducible refine' Blk.set7_5 ?_ ?hb; case hb => (first | omega | (simp; done) | (simp; omega))) | (with_reducible refine' Blk.set7_6 ?_ ?hb; case hb => (first | omega | (simp; done) | (simp; omega))) | (with_reducible refine Blk.far ?_ ?hb _; case hb => (first | omega | (simp; done) | (simp; omega))) | fail))) h1 (by (first | omega | (simp; done) | (simp; omega)))
    have B1 := Lib.hid (below_step (B := w.heap.size) (w0 := w) (by (repeat' (first | with_reducible exact B0.out | with_reducible exact Below.refl _ _ | with_reducible refine below_drew1 ?_ | with_reducible refine below_drewN ?_ _ | with_reducible refine Below.alloc ?_ ?_ _ | with_reducible refine Below.setCell ?_ ?_ _ | omega | (simp; done) | (simp; omega)))) (by have := B0.out.size; (first | omega | (simp; done) | (simp; omega))) h1)
    have z1 : w.heap.size ≤ w1.heap.size := B1.out.size
    clear h1 B0
    obtain ⟨⟨P_0_, P_1_⟩, P_f0_, P_f1_⟩ := P_1.get2n
    have P_l := P_1.lt
    have P_l1_ : w.heap.size < w1.heap.size + 1 := by omega
    have P_l2_ : w.heap.size < w1.heap.size + 2 := by omega
    have P_l3_ : w.heap.size < w1.heap.size + 3 := by omega
    have P_l4_ : w.heap.size < w1.heap.size + 4 := by omega
    have G1 := hG.below B1.out (Nat.le_refl _)
    go_wp2_with fail
    refine (c_toSack x0_0 a0_1 n0_1 c0_1 xs w.heap.size _ G1 z1 hn).mono ?_
    rintro e w2 ⟨g1, rfl, hg1, hR1, h2⟩
    have P_2 : Blk w2 (w.heap.size) 41 #[.int .i64 x0_0, .slice a0_1 n0_1 c0_1] := Blk.below (by (repeat' (first | (with_reducible exact P_1) | (with_reducible refine Blk.drewN ?_ _) | (with_reducible refine Blk.drew ?_) | (with_reducible refine Blk.new1 ?hb; case hb => (first | omega | (simp; done) | (simp; omega))) | (with_reducible refine Blk.alloc ?_ _) | (with_reducible refine' Blk.set3_0 ?_ ?hb; case hb => (first | omega | (simp; done) | (simp; omega))) | (with_reducible refine' Blk.set3_1 ?_ ?hb; case hb => (first | omega | (simp; done) | (simp; omega))) | (with_reducible refine' Blk.set3_2 ?_ ?hb; case hb => (first | omega | (simp; done) | (simp; omega))) | (with_reducible refine' Blk.set4_0 ?_ ?hb; case hb => (first | omega | (simp; done) | (simp; omega))) | (with_reducible refine' Blk.set4_1 ?_ ?hb; case hb => (first | omega | (simp; done) | (simp; omega))) | (with_reducible refine' Blk.set4_2 ?_ ?hb; case hb => (first | omega | (simp; done) | (simp; omega))) | (with_reducible refine' Blk.set4_3 ?_ ?hb; case hb => (first | omega | (simp; done) | (simp; omega))) | (with_reducible refine' Blk.set7_0 ?_ ?hb; case hb => (first | omega | (simp; done) | (simp; omega))) | (with_reducible refine' Blk.set7_1 ?_ ?hb; case hb => (first | omega | (simp; done) | (simp; omega))) | (with_reducible refine' Blk.set7_2 ?_ ?hb; case hb => (first | omega | (simp; done) | (simp; omega))) | (with_reducible refine' Blk.set7_3 ?_ ?hb; case hb => (first | omega | (simp; done) | (simp; omega))) | (with_reducible refine' Blk.set7_4 ?_ ?hb; case hb => (first | omega | (simp; done) | (simp; omega))) | (with_reducible refine' Blk.set7_5 ?_ ?hb; case hb => (first | omega | (simp; done) | (simp; omega))) | (with_reducible refine' Blk.set7_6 ?_ ?hb; case hb => (first | omega | (simp; done) | (simp; omega))) | (with_reducible refine Blk.far ?_ ?hb _; case hb => (first | omega | (simp; done) | (simp; omega))) | fail))) h2 (by (first | omega | (simp; done) | (simp; omega)))
    have B2 := Lib.hid (below_step (B := w.heap.size) (w0 := w) (by (repeat' (first | with_reducible exact B1.out | with_reducible exact Below.refl _ _ | with_reducible refine below_drew1 ?_ | with_reducible refine below_drewN ?_ _ | with_reducible refine Below.alloc ?_ ?_ _ | with_reducible refine Below.setCell ?_ ?_ _ | omega | (simp; done) | (simp; omega)))) (by have := B1.out.size; (first | omega | (simp; done) | (simp; omega))) h2)
    have z2 : w.heap.size ≤ w2.heap.size := B2.out.size
    clear h2 B1 z1 P_1
    try clear P_l P_0_ P_1_ P_l1_ P_l2_ P_l3_ P_l4_
    obtain ⟨⟨P_0_, P_1_⟩, P_f0_, P_f1_⟩ := P_2.get2n
    have P_l := P_2.lt
    have P_l1_ : w.heap.size < w2.heap.size + 1 := by omega
    have P_l2_ : w.heap.size < w2.heap.size + 2 := by omega
    have P_l3_ : w.heap.size < w2.heap.size + 3 := by omega
    have P_l4_ : w.heap.size < w2.heap.size + 4 := by omega
    go_wp2_with fail
    refine (CS.out (some ⟨g1, 0, none⟩) w2.heap.size _ (hR1.gaps HL.out) (Nat.le_refl _)).mono ?_
    rintro e w3 ⟨rfl, h3⟩
    have P_3 : Blk w3 (w.heap.size) 41 #[.int .i64 x0_0, .slice a0_1 n0_1 c0_1] := Blk.below (by (repeat' (first | (with_reducible exact P_2) | (with_reducible refine Blk.drewN ?_ _) | (with_reducible refine Blk.drew ?_) | (with_reducible refine Blk.new1 ?hb; case hb => (first | omega | (simp; done) | (simp; omega))) | (with_reducible refine Blk.alloc ?_ _) | (with_reducible refine' Blk.set3_0 ?_ ?hb; case hb => (first | omega | (simp; done) | (simp; omega))) | (with_reducible refine' Blk.set3_1 ?_ ?hb; case hb => (first | omega | (simp; done) | (simp; omega))) | (with_reducible refine' Blk.set3_2 ?_ ?hb; case hb => (first | omega | (simp; done) | (simp; omega))) | (with_reducible refine' Blk.set4_0 ?_ ?hb; case hb => (first | omega | (simp; done) | (simp; omega))) | (with_reducible refine' Blk.set4_1 ?_ ?hb; case hb => (first | omega | (simp; done) | (simp; omega))) | (with_reducible refine' Blk.set4_2 ?_ ?hb; case hb => (first | omega | (simp; done) | (simp; omega))) | (with_reducible refine' Blk.set4_3 ?_ ?hb; case hb => (first | omega | (simp; done) | (simp; omega))) | (with_reducible refine' Blk.set7_0 ?_ ?hb; case hb => (first | omega | (simp; done) | (simp; omega))) | (with_reducible refine' Blk.set7_1 ?_ ?hb; case hb => (first | omega | (simp; done) | (simp; omega))) | (with_reducible refine' Blk.set7_2 ?_ ?hb; case hb => (first | omega | (simp; done) | (simp; omega))) | (with_reducible refine' Blk.set7_3 ?_ ?hb; case hb => (first | omega | (simp; done) | (simp; omega))) | (with_reducible refine' Blk.set7_4 ?_ ?hb; case hb => (first | omega | (simp; done) | (simp; omega))) | (with_reducible refine' Blk.set7_5 ?_ ?hb; case hb => (first | omega | (simp; done) | (simp; omega))) | (with_reducible refine' Blk.set7_6 ?_ ?hb; case hb => (first | omega | (simp; done) | (simp; omega))) | (with_reducible refine Blk.far ?_ ?hb _; case hb => (first | omega | (simp; done) | (simp; omega))) | fail))) h3 (by (first | omega | (simp; done) | (simp; omega)))
    have B3 := Lib.hid (below_step (B := w.heap.size) (w0 := w) (by (repeat' (first | with_reducible exact B2.out | with_reducible exact Below.refl _ _ | with_reducible refine below_drew1 ?_ | with_reducible refine below_drewN ?_ _ | with_reducible refine Below.alloc ?_ ?_ _ | with_reducible refine Below.setCell ?_ ?_ _ | omega | (simp; done) | (simp; omega)))) (by have := B2.out.size; (first | omega | (simp; done) | (simp; omega))) h3)
    have z3 : w.heap.size ≤ w3.heap.size := B3.out.size
    clear h3 B2 z2 P_2
    try clear P_l P_0_ P_1_ P_l1_ P_l2_ P_l3_ P_l4_
    obtain ⟨⟨P_0_, P_1_⟩, P_f0_, P_f1_⟩ := P_3.get2n
    have P_l := P_3.lt
    have P_l1_ : w.heap.size < w3.heap.size + 1 := by omega
    have P_l2_ : w.heap.size < w3.heap.size + 2 := by omega
    have P_l3_ : w.heap.size < w3.heap.size + 3 := by omega
    have P_l4_ : w.heap.size < w3.heap.size + 4 := by omega
    have G3 := hG.below B3.out (Nat.le_refl _)
    go_wp2_with fail
    refine (c_toSack x0_0 a0_1 n0_1 c0_1 xs w.heap.size _ (by (repeat' (first | (with_reducible exact G3) | with_reducible refine Gaps.alloc ?_ ?_ _ | with_reducible refine Gaps.setCell ?_ ?_ _ | with_reducible refine Gaps.drew ?_ | with_reducible refine Gaps.drewN ?_ _ | omega | (simp; done) | (simp; omega)))) (by first | omega | (simp; done) | (simp; omega)) hn).mono ?_
    rintro e w4 ⟨g2, rfl, hg2, hR2, h4⟩
    have P_4 : Blk w4 (w.heap.size) 41 #[.int .i64 x0_0, .slice a0_1 n0_1 c0_1] := Blk.below (by (repeat' (first | (with_reducible exact P_3) | (with_reducible refine Blk.drewN ?_ _) | (with_reducible refine Blk.drew ?_) | (with_reducible refine Blk.new1 ?hb; case hb => (first | omega | (simp; done) | (simp; omega))) | (with_reducible refine Blk.alloc ?_ _) | (with_reducible refine' Blk.set3_0 ?_ ?hb; case hb => (first | omega | (simp; done) | (simp; omega))) | (with_reducible refine' Blk.set3_1 ?_ ?hb; case hb => (first | omega | (simp; done) | (simp; omega))) | (with_reducible refine' Blk.set3_2 ?_ ?hb; case hb => (first | omega | (simp; done) | (simp; omega))) | (with_reducible refine' Blk.set4_0 ?_ ?hb; case hb => (first | omega | (simp; done) | (simp; omega))) | (with_reducible refine' Blk.set4_1 ?_ ?hb; case hb => (first | omega | (simp; done) | (simp; omega))) | (with_reducible refine' Blk.set4_2 ?_ ?hb; case hb => (first | omega | (simp; done) | (simp; omega))) | (with_reducible refine' Blk.set4_3 ?_ ?hb; case hb => (first | omega | (simp; done) | (simp; omega))) | (with_reducible refine' Blk.set7_0 ?_ ?hb; case hb => (first | omega | (simp; done) | (simp; omega))) | (with_reducible refine' Blk.set7_1 ?_ ?hb; case hb => (first | omega | (simp; done) | (simp; omega))) | (with_reducible refine' Blk.set7_2 ?_ ?hb; case hb => (first | omega | (simp; done) | (simp; omega))) | (with_reducible refine' Blk.set7_3 ?_ ?hb; case hb => (first | omega | (simp; done) | (simp; omega))) | (with_reducible refine' Blk.set7_4 ?_ ?hb; case hb => (first | omega | (simp; done) | (simp; omega))) | (with_reducible refine' Blk.set7_5 ?_ ?hb; case hb => (first | omega | (simp; done) | (simp; omega))) | (with_reducible refine' Blk.set7_6 ?_ ?hb; case hb => (first | omega | (simp; done) | (simp; omega))) | (with_reducible refine Blk.far ?_ ?hb _; case hb => (first | omega | (simp; done) | (simp; omega))) | fail))) h4 (by (first | omega | (simp; done) | (simp; omega)))
    have B4 := Lib.hid (below_step (B := w.heap.size) (w0 := w) (by (repeat' (first | with_reducible exact B3.out | with_reducible exact Below.refl _ _ | with_reducible refine below_drew1 ?_ | with_reducible refine below_drewN ?_ _ | with_reducible refine Below.alloc ?_ ?_ _ | with_reducible refine Below.setCell ?_ ?_ _ | omega | (simp; done) | (simp; omega)))) (by have := B3.out.size; (first | omega | (simp; done) | (simp; omega))) h4)
    have z4 : w.heap.size ≤ w4.heap.size := B4.out.size
    clear h4 B3 z3 P_3
    try clear P_l P_0_ P_1_ P_l1_ P_l2_ P_l3_ P_l4_
    obtain ⟨⟨P_0_, P_1_⟩, P_f0_, P_f1_⟩ := P_4.get2n
    have P_l := P_4.lt
    have P_l1_ : w.heap.size < w4.heap.size + 1 := by omega
    have P_l2_ : w.heap.size < w4.heap.size + 2 := by omega
    have P_l3_ : w.heap.size < w4.heap.size + 3 := by omega
    have P_l4_ : w.heap.size < w4.heap.size + 4 := by omega
    have R_4 : GRow w4 g2 n0_1 n0_1 xs := hR2
    go_wp2_with fail
    refine (CI.out (some ⟨g2, 0, none⟩) w4.heap.size _ (by (repeat' (first | (with_reducible exact hR2.gaps HL.out) | with_reducible refine Gaps.alloc ?_ ?_ _ | with_reducible refine Gaps.setCell ?_ ?_ _ | with_reducible refine Gaps.drew ?_ | with_reducible refine Gaps.drewN ?_ _ | omega | (simp; done) | (simp; omega)))) (by first | omega | (simp; done) | (simp; omega))).mono ?_
    rintro e w5 ⟨rfl, h5⟩
    have P_5 : Blk w5 (w.heap.size) 41 #[.int .i64 x0_0, .slice a0_1 n0_1 c0_1] := Blk.below (by (repeat' (first | (with_reducible exact P_4) | (with_reducible refine Blk.drewN ?_ _) | (with_reducible refine Blk.drew ?_) | (with_reducible refine Blk.new1 ?hb; case hb => (first | omega | (simp; done) | (simp; omega))) | (with_reducible refine Blk.alloc ?_ _) | (with_reducible refine' Blk.set3_0 ?_ ?hb; case hb => (first | omega | (simp; done) | (simp; omega))) | (with_reducible refine' Blk.set3_1 ?_ ?hb; case hb => (first | omega | (simp; done) | (simp; omega))) | (with_reducible refine' Blk.set3_2 ?_ ?hb; case hb => (first | omega | (simp; done) | (simp; omega))) | (with_reducible refine' Blk.set4_0 ?_ ?hb; case hb => (first | omega | (simp; done) | (simp; omega))) | (with_reducible refine' Blk.set4_1 ?_ ?hb; case hb => (first | omega | (simp; done) | (simp; omega))) | (with_reducible refine' Blk.set4_2 ?_ ?hb; case hb => (first | omega | (simp; done) | (simp; omega))) | (with_reducible refine' Blk.set4_3 ?_ ?hb; case hb => (first | omega | (simp; done) | (simp; omega))) | (with_reducible refine' Blk.set7_0 ?_ ?hb; case hb => (first | omega | (simp; done) | (simp; omega))) | (with_reducible refine' Blk.set7_1 ?_ ?hb; case hb => (first | omega | (simp; done) | (simp; omega))) | (with_reducible refine' Blk.set7_2 ?_ ?hb; case hb => (first | omega | (simp; done) | (simp; omega))) | (with_reducible refine' Blk.set7_3 ?_ ?hb; case hb => (first | omega | (simp; done) | (simp; omega))) | (with_reducible refine' Blk.set7_4 ?_ ?hb; case hb => (first | omega | (simp; done) | (simp; omega))) | (with_reducible refine' Blk.set7_5 ?_ ?hb; case hb => (first | omega | (simp; done) | (simp; omega))) | (with_reducible refine' Blk.set7_6 ?_ ?hb; case hb => (first | omega | (simp; done) | (simp; omega))) | (with_reducible refine Blk.far ?_ ?hb _; case hb => (first | omega | (simp; done) | (simp; omega))) | fail))) h5 (by (first | omega | (simp; done) | (simp; omega)))
    have X_5 : Blk w5 (w4.heap.size) 28 #[.int .i64 x0_0, .slice (some ⟨g2, 0, none⟩) n0_1 n0_1] := Blk.below (by (repeat' (first | (with_reducible refine Blk.drewN ?_ _) | (with_reducible refine Blk.drew ?_) | (with_reducible refine Blk.new1 ?hb; case hb => (first | omega | (simp; done) | (simp; omega))) | (with_reducible refine Blk.alloc ?_ _) | (with_reducible refine' Blk.set3_0 ?_ ?hb; case hb => (first | omega | (simp; done) | (simp; omega))) | (with_reducible refine' Blk.set3_1 ?_ ?hb; case hb => (first | omega | (simp; done) | (simp; omega))) | (with_reducible refine' Blk.set3_2 ?_ ?hb; case hb => (first | omega | (simp; done) | (simp; omega))) | (with_reducible refine' Blk.set4_0 ?_ ?hb; case hb => (first | omega | (simp; done) | (simp; omega))) | (with_reducible refine' Blk.set4_1 ?_ ?hb; case hb => (first | omega | (simp; done) | (simp; omega))) | (with_reducible refine' Blk.set4_2 ?_ ?hb; case hb => (first | omega | (simp; done) | (simp; omega))) | (with_reducible refine' Blk.set4_3 ?_ ?hb; case hb => (first | omega | (simp; done) | (simp; omega))) | (with_reducible refine' Blk.set7_0 ?_ ?hb; case hb => (first | omega | (simp; done) | (simp; omega))) | (with_reducible refine' Blk.set7_1 ?_ ?hb; case hb => (first | omega | (simp; done) | (simp; omega))) | (with_reducible refine' Blk.set7_2 ?_ ?hb; case hb => (first | omega | (simp; done) | (simp; omega))) | (with_reducible refine' Blk.set7_3 ?_ ?hb; case hb => (first | omega | (simp; done) | (simp; omega))) | (with_reducible refine' Blk.set7_4 ?_ ?hb; case hb => (first | omega | (simp; done) | (simp; omega))) | (with_reducible refine' Blk.set7_5 ?_ ?hb; case hb => (first | omega | (simp; done) | (simp; omega))) | (with_reducible refine' Blk.set7_6 ?_ ?hb; case hb => (first | omega | (simp; done) | (simp; omega))) | (with_reducible refine Blk.far ?_ ?hb _; case hb => (first | omega | (simp; done) | (simp; omega))) | fail))) h5 (by (first | omega | (simp; done) | (simp; omega)))
    have R_5 : GRow w5 g2 n0_1 n0_1 xs := GRow.below (by (repeat' (first | (with_reducible exact R_4) | with_reducible refine GRow.drewN ?_ _ | with_reducible refine GRow.drew ?_ | with_reducible refine GRow.alloc ?_ _ | omega | (simp; done) | (simp; omega)))) h5 (by have := R_4.lt; (first | omega | (simp; done) | (simp; omega)))
    have B5 := Lib.hid (below_step (B := w.heap.size) (w0 := w) (by (repeat' (first | with_reducible exact B4.out | with_reducible exact Below.refl _ _ | with_reducible refine below_drew1 ?_ | with_reducible refine below_drewN ?_ _ | with_reducible refine Below.alloc ?_ ?_ _ | with_reducible refine Below.setCell ?_ ?_ _ | omega | (simp; done) | (simp; omega)))) (by have := B4.out.size; (first | omega | (simp; done) | (simp; omega))) h5)
    have z5 : w.heap.size ≤ w5.heap.size := B5.out.size
    clear h5 B4 z4 P_4 R_4
    try clear P_l P_0_ P_1_ P_l1_ P_l2_ P_l3_ P_l4_
    obtain ⟨⟨P_0_, P_1_⟩, P_f0_, P_f1_⟩ := P_5.get2n
    have P_l := P_5.lt
    have P_l1_ : w.heap.size < w5.heap.size + 1 := by omega
    have P_l2_ : w.heap.size < w5.heap.size + 2 := by omega
    have P_l3_ : w.heap.size < w5.heap.size + 3 := by omega
    have P_l4_ : w.heap.size < w5.heap.size + 4 := by omega
    obtain ⟨⟨X_0_, X_1_⟩, X_f0_, X_f1_⟩ := X_5.get2n
    have X_l := X_5.lt
    have X_l1_ : w4.heap.size < w5.heap.size + 1 := by omega
    have X_l2_ : w4.heap.size < w5.heap.size + 2 := by omega
    have X_l3_ : w4.heap.size < w5.heap.size + 3 := by omega
    have X_l4_ : w4.heap.size < w5.heap.size + 4 := by omega
    have G5 := hG.below B5.out (Nat.le_refl _)
    have u0 := fun (W' : World) (hW : Below w5.heap.size w5 W') => show W'.cell? ⟨w4.heap.size, 0, none⟩ = some (.int .i64 x0_0) from (X_5.below hW X_5.lt).cell 0
    have u1 := fun (W' : World) (hW : Below w5.heap.size w5 W') => show W'.cell? ⟨w4.heap.size, 1, none⟩ = some (.slice (some ⟨g2, 0, none⟩) n0_1 n0_1) from (X_5.below hW X_5.lt).cell 1
    have u2 := fun (W' : World) (hW : Below w5.heap.size w5 W') => show W'.cell? ⟨w.heap.size, 0, none⟩ = some (.int .i64 x0_0) from (P_5.below hW P_5.lt).cell 0
    have u3 := fun (W' : World) (hW : Below w5.heap.size w5 W') => show W'.cell? ⟨w.heap.size, 1, none⟩ = some (.slice a0_1 n0_1 c0_1) from (P_5.below hW P_5.lt).cell 1
    go_wp2_with fail
    go_region_held3 (fun w' => Below w5.heap.size w5 w')
      ((repeat' (first | (with_reducible assumption) | with_reducible exact Below.refl _ _ | with_reducible refine below_drew1 ?_ | with_reducible refine below_drewN ?_ _ | with_reducible refine Below.alloc ?_ ?_ _ | with_reducible refine Below.setCell ?_ ?_ _ | omega | (simp; done) | (simp; omega))))
      (first | (go_at_call 22; refine (c_toSack x0_0 a0_1 n0_1 c0_1 xs w.heap.size _ (by (repeat' (first | (with_reducible exact G5) | with_reducible refine Gaps.alloc ?_ ?_ _ | with_reducible refine Gaps.setCell ?_ ?_ _ | with_reducible refine Gaps.drew ?_ | with_reducible refine Gaps.drewN ?_ _ | omega | (simp; done) | (simp; omega)))) (by first | omega | (simp; done) | (simp; omega)) hn).mono ?_; rintro e w7 ⟨g3, rfl, hg3, hR3, h7⟩; have HS7 : Below w5.heap.size w5 w7 := below_step (B := w5.heap.size) (by (repeat' (first | (with_reducible assumption) | with_reducible exact Below.refl _ _ | with_reducible refine below_drew1 ?_ | with_reducible refine below_drewN ?_ _ | with_reducible refine Below.alloc ?_ ?_ _ | with_reducible refine Below.setCell ?_ ?_ _ | omega | (simp; done) | (simp; omega)))) (by first | omega | (simp; done) | (simp; omega)) h7; have z7 := HS7.size; have R7 : GRow w7 g2 n0_1 n0_1 xs := GRow.below (by (repeat' (first | (with_reducible exact R_5) | with_reducible refine GRow.drewN ?_ _ | with_reducible refine GRow.drew ?_ | with_reducible refine GRow.alloc ?_ _ | omega | (simp; done) | (simp; omega)))) h7 (by have := R_5.lt; (first | omega | (simp; done) | (simp; omega))); clear h7) | (go_at_call 24; refine (c_eqSack x0_0 (some ⟨g2, 0, none⟩) (some ⟨g3, 0, none⟩) n0_1 n0_1 n0_1 xs w7.heap.size _ (by (repeat' (first | (with_reducible exact R7.gaps HL.out) | with_reducible refine Gaps.alloc ?_ ?_ _ | with_reducible refine Gaps.setCell ?_ ?_ _ | with_reducible refine Gaps.drew ?_ | with_reducible refine Gaps.drewN ?_ _ | omega | (simp; done) | (simp; omega)))) (by (repeat' (first | (with_reducible exact hR3.gaps HL.out) | with_reducible refine Gaps.alloc ?_ ?_ _ | with_reducible refine Gaps.setCell ?_ ?_ _ | with_reducible refine Gaps.drew ?_ | with_reducible refine Gaps.drewN ?_ _ | omega | (simp; done) | (simp; omega)))) (by first | omega | (simp; done) | (simp; omega)) HM.out).mono ?_; rintro e w8 ⟨rfl, h8⟩; have HS8 : Below w5.heap.size w5 w8 := below_step (B := w5.heap.size) (by (repeat' (first | (with_reducible assumption) | with_reducible exact Below.refl _ _ | with_reducible refine below_drew1 ?_ | with_reducible refine below_drewN ?_ _ | with_reducible refine Below.alloc ?_ ?_ _ | with_reducible refine Below.setCell ?_ ?_ _ | omega | (simp; done) | (simp; omega)))) (by first | omega | (simp; done) | (simp; omega)) h8; have B8 := Lib.hid (below_step B5.out B5.out.size HS8); clear h8))
    clear u0 u1 u2 u3
    go_wp2
    go_ret
    exact ⟨rfl, by (repeat' (first | with_reducible exact B8.out | with_reducible exact Below.refl _ _ | with_reducible refine below_drew1 ?_ | with_reducible refine below_drewN ?_ _ | with_reducible refine Below.alloc ?_ ?_ _ | with_reducible refine Below.setCell ?_ ?_ _ | omega | (simp; done) | (simp; omega)))⟩

/-! ### The row's step -/
theorem own : ownKnob Try.prog.godebug = none := by kernel_rfl
theorem laidOut : laidOutB Try.prog = true := by kernel_rfl
set_option maxRecDepth 100000 in
theorem lifted (os : Os) (started : os.Started) (H : Type) (enc : TypeId × Value → H) :
    ReturnsInHanded {} Try.checked os 6 .any (Rows.fnExactSackHasSpec.pre6 enc Try.prog Try.f6 Rows.fnExactSackHasRow.domain false) (Rows.fnExactSackHasSpec.post enc Try.prog Try.f6 false true false false) := by
  refine returnsInHanded_of_change (C := Try.checked) own started (by kernel_rfl) Try.func6
    (ChangeSpec.witness6 (enc := enc) (C := Try.checked) false ⟨#[], #[.agg #[.int .i64 0, .slice none 0 0], .int .i64 0], []⟩ 8 (by kernel_rfl) (by kernel_rfl) (by kernel_rfl) (by kernel_rfl)) ?_
  intro W base args ds gs before hval0 hW hcnd _
  have hval : ∀ (j : Nat) t v, Try.f6.params[j]? = some t → args[j]? = some v → Value.okWide Try.prog W .any base t v := hval0
  have hW' := hW
  obtain ⟨p, q, hA0, hV, rfl, hfz, hnd⟩ := hW
  have hA : DataW.TrodAll enc Try.prog W 0 (fun _ => true) true Try.f6.params.toList args.toList ds p := hA0
  rw [Try.params6] at hA hval
  obtain ⟨v0, vs0, d0, ds0, p0, q0, hargs, rfl, rfl, h0, r0⟩ := trodAll_cons hA
  obtain ⟨v1, vs1, d1, ds1, p1, q1, rfl, rfl, rfl, h1, r1⟩ := trodAll_cons r0
  obtain ⟨rfl, rfl, rfl⟩ := trodAll_nil r1
  obtain rfl : args = #[v0, v1] := by cases args; simp_all
  obtain ⟨rfl, rfl⟩ := trodVars_none hV
  have k0 := h0
  have lt0 : ∀ x ∈ p0, x.block < W.heap.size := by obtain ⟨m, hm⟩ := k0; exact DataW.trod_lt m _ _ _ hm
  obtain ⟨cs0, m0, u0, hz0, hf0⟩ := open_fields Try.underlying41 (by kernel_rfl) (by kernel_rfl) (hval 0 41 v0 rfl rfl) h0
  subst u0
  obtain ⟨u0_0, y0_0, g0_0, t0_0, z0_0⟩ := hf0 0 _ rfl
  obtain ⟨x0_0, rfl, w0_0⟩ := int_field Try.underlying3 t0_0
  obtain ⟨u0_1, y0_1, g0_1, t0_1, z0_1⟩ := hf0 1 _ rfl
  obtain ⟨a0_1, n0_1, c0_1, rfl, w0_1⟩ := gaps_field t0_1
  obtain rfl := arr2 hz0 g0_0 g0_1
  have k1 := h1
  have lt1 : ∀ x ∈ p1, x.block < W.heap.size := by obtain ⟨m, hm⟩ := k1; exact DataW.trod_lt m _ _ _ hm
  obtain ⟨x1, u1, w1⟩ : ∃ x : Int, v1 = .int .i64 x ∧ (Lit.int .i64 x).wf = true := by
    obtain ⟨x, e, _, _, hw⟩ := open_int Try.underlying3 (hval 1 3 v1 rfl rfl) h1; exact ⟨x, e, hw⟩
  subst u1
  clear hA0 hval0
  refine (walk x0_0 a0_1 n0_1 c0_1 x1 W w0_0 w0_1 w1).mono fun e W' ⟨he, bel⟩ => ?_
  subst he
  exact ⟨_, rfl, _, _, _, [], _, [], hW', trodAll_mk1 (shut_bool Try.underlying4 _), (trodAll_cons_mk (Below.trod laidOut (by kernel_rfl) (of_decide_eq_true (by kernel_rfl)) k0 bel lt0) (trodAll_cons_mk (Below.trod laidOut (by kernel_rfl) (of_decide_eq_true (by kernel_rfl)) k1 bel lt1) trodAll_mk0)), rfl, bel.frame _, fun h => by cases h⟩

theorem over : Rows.fnExactSackHasRow.holds Try.pinned (OpenSpec.ofChange Rows.fnExactSackHasSpec) :=
  OpenClaim.holds_of_wide 6 Try.f6 rfl rfl rfl rfl rfl rfl rfl ⟨rfl, rfl, rfl, rfl, rfl⟩ rfl rfl rfl rfl rfl (by kernel_rfl) Try.func6 (by kernel_rfl)
    (of_decide_eq_true (by kernel_rfl)) (by unfold Func.isWrapper; first | (rw [if_pos (by decide +kernel)]; kernel_rfl) | (rw [if_neg (by decide +kernel)]; exact ⟨rfl, rfl⟩))
    (fun os started H enc _ => lifted os started H enc)

/-- The statement. -/
theorem proved : Rows.FnExactSackHasSaid := over
#print axioms proved
end Go.Proofs.Ytokjdnfohbabgaa.fnExactSackHas
