/-
  The program's DataGet returns what the reference's returns, for every chunk. No condition.
-/
import Derived.Test.YtegjbhngkhdcfaaSDataGet
import Derived.Test.YtegjbhngkhdcfaaLawIn
import Derived.Test.YtegjbhngkhdcfaaChunkFacts
import Derived.Test.YtegjbhngkhdcfaaConv2
import Derived.Test.YtegjbhngkhdcfaaOpen
namespace Go.Proofs.Ytegjbhngkhdcfaa.fnExactDataGet
open Go.ChangeShapes Go.WideShapes Go.ChangeAt Go.RowKit
open Go.ChangeMaps (open_string shut_string)
set_option linter.unusedVariables false
set_option linter.unusedSimpArgs false
set_option maxRecDepth 100000 in
set_option maxHeartbeats 4000000 in
theorem walk (x0_0 : Int) (x0_1 : Int) (x0_2 : ByteArray) (w : World) (w0_0 : (Lit.int .i64 x0_0).wf = true) (w0_1 : (Lit.int .i64 x0_1).wf = true) (w0_2 : x0_2.size ≤ maxLen) :
    Calls Try.prog 6 #[.agg #[.int .i64 x0_0, .int .i64 x0_1, .string x0_2]] w fun e w' => e = .returned (.bool true) ∧ Below w.heap.size w w' := by
  clear w0_0 w0_1
  have hs := w0_2
  unfold maxLen at hs
  have hq : ∀ b : Bool, (b != b) = false := fun b => by simp
  have B0 := Lib.hid (Below.refl w.heap.size w)
  by_cases hb : (1048576 : Int) < x0_2.size
  · go_enter Try.func6, Try.ntmps6
    go_wp2_with fail
    refine (c_szChunk x0_0 x0_1 x0_2 1048576 _ w0_2 (by omega) (by omega)).mono ?_
    rintro e w1 ⟨rfl, h1⟩
    rw [if_pos hb]
    go_wp2
    go_ret
    exact ⟨rfl, below_step ((Below.refl _ _).alloc (Nat.le_refl _) _) (by simp) h1⟩
  · have csz := fun W => c_szChunk x0_0 x0_1 x0_2 1048576 W w0_2 (by omega) (by omega)
    rw [if_neg (by omega)] at csz
    have CZ := Lib.hid csz
    have cs := fun W => c_sDataGet x0_0 x0_1 x0_2 W (by omega)
    have ci := fun W => c_DataGet x0_0 x0_1 x0_2 W (by omega)
    clear csz
    go_enter Try.func6, Try.ntmps6
    go_wp2_with fail
    refine (CZ.out _).mono ?_
    rintro e w1 ⟨rfl, h1⟩
    have P_1 : Blk w1 (w.heap.size) 37 #[.int .i64 x0_0, .int .i64 x0_1, .string x0_2] := Blk.below (by (repeat' (first | (with_reducible refine Blk.drewN ?_ _) | (with_reducible refine Blk.drew ?_) | (with_reducible refine Blk.new1 ?hb; case hb => (first | omega | (simp; done) | (simp; omega))) | (with_reducible refine Blk.alloc ?_ _) | (with_reducible refine' Blk.set3_0 ?_ ?hb; case hb => (first | omega | (simp; done) | (simp; omega))) | (with_reducible refine' Blk.set3_1 ?_ ?hb; case hb => (first | omega | (simp; done) | (simp; omega))) | (with_reducible refine' Blk.set3_2 ?_ ?hb; case hb => (first | omega | (simp; done) | (simp; omega))) | (with_reducible refine' Blk.set4_0 ?_ ?hb; case hb => (first | omega | (simp; done) | (simp; omega))) | (with_reducible refine' Blk.set4_1 ?_ ?hb; case hb => (first | omega | (simp; done) | (simp; omega))) | (with_reducible refine' Blk.set4_2 ?_ ?hb; case hb => (first | omega | (simp; done) | (simp; omega))) | (with_reducible refine' Blk.set4_3 ?_ ?hb; case hb => (first | omega | (simp; done) | (simp; omega))) | (with_reducible refine' Blk.set7_0 ?_ ?hb; case hb => (first | omega | (simp; done) | (simp; omega))) | (with_reducible refine' Blk.set7_1 ?_ ?hb; case hb => (first | omega | (simp; done) | (simp; omega))) | (with_reducible refine' Blk.set7_2 ?_ ?hb; case hb => (first | omega | (simp; done) | (simp; omega))) | (with_reducible refine' Blk.set7_3 ?_ ?hb; case hb => (first | omega | (simp; done) | (simp; omega))) | (with_reducible refine' Blk.set7_4 ?_ ?hb; case hb => (first | omega | (simp; done) | (simp; omega))) | (with_reducible refine' Blk.set7_5 ?_ ?hb; case hb => (first | omega | (simp; done) | (simp; omega))) | (with_reducible refine' Blk.set7_6 ?_ ?hb; case hb => (first | omega | (simp; done) | (simp; omega))) | (with_reducible refine Blk.far ?_ ?hb _; case hb => (first | omega | (simp; done) | (simp; omega))) | fail))) h1 (by (first | omega | (simp; done) | (simp; omega)))
    have B1 := Lib.hid (below_step (B := w.heap.size) (w0 := w) (by (repeat' (first | with_reducible exact B0.out | with_reducible exact Below.refl _ _ | with_reducible refine below_drew1 ?_ | with_reducible refine below_drewN ?_ _ | with_reducible refine Below.alloc ?_ ?_ _ | with_reducible refine Below.setCell ?_ ?_ _ | omega | (simp; done) | (simp; omega)))) (by have := B0.out.size; (first | omega | (simp; done) | (simp; omega))) h1)
    have z1 : w.heap.size ≤ w1.heap.size := B1.out.size
    clear h1 B0
    obtain ⟨⟨P_0_, P_1_, P_2_⟩, P_f0_, P_f1_, P_f2_⟩ := P_1.get3n
    have P_l := P_1.lt
    have P_l1_ : w.heap.size < w1.heap.size + 1 := by omega
    have P_l2_ : w.heap.size < w1.heap.size + 2 := by omega
    have P_l3_ : w.heap.size < w1.heap.size + 3 := by omega
    have P_l4_ : w.heap.size < w1.heap.size + 4 := by omega
    go_wp2_with fail
    refine (c_toChunk x0_0 x0_1 x0_2 _).mono ?_
    rintro e w2 ⟨rfl, h2⟩
    have P_2 : Blk w2 (w.heap.size) 37 #[.int .i64 x0_0, .int .i64 x0_1, .string x0_2] := Blk.below (by (repeat' (first | (with_reducible exact P_1) | (with_reducible refine Blk.drewN ?_ _) | (with_reducible refine Blk.drew ?_) | (with_reducible refine Blk.new1 ?hb; case hb => (first | omega | (simp; done) | (simp; omega))) | (with_reducible refine Blk.alloc ?_ _) | (with_reducible refine' Blk.set3_0 ?_ ?hb; case hb => (first | omega | (simp; done) | (simp; omega))) | (with_reducible refine' Blk.set3_1 ?_ ?hb; case hb => (first | omega | (simp; done) | (simp; omega))) | (with_reducible refine' Blk.set3_2 ?_ ?hb; case hb => (first | omega | (simp; done) | (simp; omega))) | (with_reducible refine' Blk.set4_0 ?_ ?hb; case hb => (first | omega | (simp; done) | (simp; omega))) | (with_reducible refine' Blk.set4_1 ?_ ?hb; case hb => (first | omega | (simp; done) | (simp; omega))) | (with_reducible refine' Blk.set4_2 ?_ ?hb; case hb => (first | omega | (simp; done) | (simp; omega))) | (with_reducible refine' Blk.set4_3 ?_ ?hb; case hb => (first | omega | (simp; done) | (simp; omega))) | (with_reducible refine' Blk.set7_0 ?_ ?hb; case hb => (first | omega | (simp; done) | (simp; omega))) | (with_reducible refine' Blk.set7_1 ?_ ?hb; case hb => (first | omega | (simp; done) | (simp; omega))) | (with_reducible refine' Blk.set7_2 ?_ ?hb; case hb => (first | omega | (simp; done) | (simp; omega))) | (with_reducible refine' Blk.set7_3 ?_ ?hb; case hb => (first | omega | (simp; done) | (simp; omega))) | (with_reducible refine' Blk.set7_4 ?_ ?hb; case hb => (first | omega | (simp; done) | (simp; omega))) | (with_reducible refine' Blk.set7_5 ?_ ?hb; case hb => (first | omega | (simp; done) | (simp; omega))) | (with_reducible refine' Blk.set7_6 ?_ ?hb; case hb => (first | omega | (simp; done) | (simp; omega))) | (with_reducible refine Blk.far ?_ ?hb _; case hb => (first | omega | (simp; done) | (simp; omega))) | fail))) h2 (by (first | omega | (simp; done) | (simp; omega)))
    have B2 := Lib.hid (below_step (B := w.heap.size) (w0 := w) (by (repeat' (first | with_reducible exact B1.out | with_reducible exact Below.refl _ _ | with_reducible refine below_drew1 ?_ | with_reducible refine below_drewN ?_ _ | with_reducible refine Below.alloc ?_ ?_ _ | with_reducible refine Below.setCell ?_ ?_ _ | omega | (simp; done) | (simp; omega)))) (by have := B1.out.size; (first | omega | (simp; done) | (simp; omega))) h2)
    have z2 : w.heap.size ≤ w2.heap.size := B2.out.size
    clear h2 B1 z1 P_1
    try clear P_l P_0_ P_1_ P_2_ P_l1_ P_l2_ P_l3_ P_l4_
    obtain ⟨⟨P_0_, P_1_, P_2_⟩, P_f0_, P_f1_, P_f2_⟩ := P_2.get3n
    have P_l := P_2.lt
    have P_l1_ : w.heap.size < w2.heap.size + 1 := by omega
    have P_l2_ : w.heap.size < w2.heap.size + 2 := by omega
    have P_l3_ : w.heap.size < w2.heap.size + 3 := by omega
    have P_l4_ : w.heap.size < w2.heap.size + 4 := by omega
    cases hok : dgOk x0_0 x0_1 x0_2 with
    | false =>
      rw [dgV_no hok] at ci cs
      unfold dataNo at ci cs
      have CS := Lib.hid cs
      have CI := Lib.hid ci
      clear ci cs hok
      go_wp2_with fail
      refine (CS.out _).mono ?_
      rintro e w3 ⟨rfl, h3⟩
      have P_3 : Blk w3 (w.heap.size) 37 #[.int .i64 x0_0, .int .i64 x0_1, .string x0_2] := Blk.below (by (repeat' (first | (with_reducible exact P_2) | (with_reducible refine Blk.drewN ?_ _) | (with_reducible refine Blk.drew ?_) | (with_reducible refine Blk.new1 ?hb; case hb => (first | omega | (simp; done) | (simp; omega))) | (with_reducible refine Blk.alloc ?_ _) | (with_reducible refine' Blk.set3_0 ?_ ?hb; case hb => (first | omega | (simp; done) | (simp; omega))) | (with_reducible refine' Blk.set3_1 ?_ ?hb; case hb => (first | omega | (simp; done) | (simp; omega))) | (with_reducible refine' Blk.set3_2 ?_ ?hb; case hb => (first | omega | (simp; done) | (simp; omega))) | (with_reducible refine' Blk.set4_0 ?_ ?hb; case hb => (first | omega | (simp; done) | (simp; omega))) | (with_reducible refine' Blk.set4_1 ?_ ?hb; case hb => (first | omega | (simp; done) | (simp; omega))) | (with_reducible refine' Blk.set4_2 ?_ ?hb; case hb => (first | omega | (simp; done) | (simp; omega))) | (with_reducible refine' Blk.set4_3 ?_ ?hb; case hb => (first | omega | (simp; done) | (simp; omega))) | (with_reducible refine' Blk.set7_0 ?_ ?hb; case hb => (first | omega | (simp; done) | (simp; omega))) | (with_reducible refine' Blk.set7_1 ?_ ?hb; case hb => (first | omega | (simp; done) | (simp; omega))) | (with_reducible refine' Blk.set7_2 ?_ ?hb; case hb => (first | omega | (simp; done) | (simp; omega))) | (with_reducible refine' Blk.set7_3 ?_ ?hb; case hb => (first | omega | (simp; done) | (simp; omega))) | (with_reducible refine' Blk.set7_4 ?_ ?hb; case hb => (first | omega | (simp; done) | (simp; omega))) | (with_reducible refine' Blk.set7_5 ?_ ?hb; case hb => (first | omega | (simp; done) | (simp; omega))) | (with_reducible refine' Blk.set7_6 ?_ ?hb; case hb => (first | omega | (simp; done) | (simp; omega))) | (with_reducible refine Blk.far ?_ ?hb _; case hb => (first | omega | (simp; done) | (simp; omega))) | fail))) h3 (by (first | omega | (simp; done) | (simp; omega)))
      have B3 := Lib.hid (below_step (B := w.heap.size) (w0 := w) (by (repeat' (first | with_reducible exact B2.out | with_reducible exact Below.refl _ _ | with_reducible refine below_drew1 ?_ | with_reducible refine below_drewN ?_ _ | with_reducible refine Below.alloc ?_ ?_ _ | with_reducible refine Below.setCell ?_ ?_ _ | omega | (simp; done) | (simp; omega)))) (by have := B2.out.size; (first | omega | (simp; done) | (simp; omega))) h3)
      have z3 : w.heap.size ≤ w3.heap.size := B3.out.size
      clear h3 B2 z2 P_2
      try clear P_l P_0_ P_1_ P_2_ P_l1_ P_l2_ P_l3_ P_l4_
      obtain ⟨⟨P_0_, P_1_, P_2_⟩, P_f0_, P_f1_, P_f2_⟩ := P_3.get3n
      have P_l := P_3.lt
      have P_l1_ : w.heap.size < w3.heap.size + 1 := by omega
      have P_l2_ : w.heap.size < w3.heap.size + 2 := by omega
      have P_l3_ : w.heap.size < w3.heap.size + 3 := by omega
      have P_l4_ : w.heap.size < w3.heap.size + 4 := by omega
      go_wp2_with fail
      refine (c_toChunk x0_0 x0_1 x0_2 _).mono ?_
      rintro e w4 ⟨rfl, h4⟩
      have P_4 : Blk w4 (w.heap.size) 37 #[.int .i64 x0_0, .int .i64 x0_1, .string x0_2] := Blk.below (by (repeat' (first | (with_reducible exact P_3) | (with_reducible refine Blk.drewN ?_ _) | (with_reducible refine Blk.drew ?_) | (with_reducible refine Blk.new1 ?hb; case hb => (first | omega | (simp; done) | (simp; omega))) | (with_reducible refine Blk.alloc ?_ _) | (with_reducible refine' Blk.set3_0 ?_ ?hb; case hb => (first | omega | (simp; done) | (simp; omega))) | (with_reducible refine' Blk.set3_1 ?_ ?hb; case hb => (first | omega | (simp; done) | (simp; omega))) | (with_reducible refine' Blk.set3_2 ?_ ?hb; case hb => (first | omega | (simp; done) | (simp; omega))) | (with_reducible refine' Blk.set4_0 ?_ ?hb; case hb => (first | omega | (simp; done) | (simp; omega))) | (with_reducible refine' Blk.set4_1 ?_ ?hb; case hb => (first | omega | (simp; done) | (simp; omega))) | (with_reducible refine' Blk.set4_2 ?_ ?hb; case hb => (first | omega | (simp; done) | (simp; omega))) | (with_reducible refine' Blk.set4_3 ?_ ?hb; case hb => (first | omega | (simp; done) | (simp; omega))) | (with_reducible refine' Blk.set7_0 ?_ ?hb; case hb => (first | omega | (simp; done) | (simp; omega))) | (with_reducible refine' Blk.set7_1 ?_ ?hb; case hb => (first | omega | (simp; done) | (simp; omega))) | (with_reducible refine' Blk.set7_2 ?_ ?hb; case hb => (first | omega | (simp; done) | (simp; omega))) | (with_reducible refine' Blk.set7_3 ?_ ?hb; case hb => (first | omega | (simp; done) | (simp; omega))) | (with_reducible refine' Blk.set7_4 ?_ ?hb; case hb => (first | omega | (simp; done) | (simp; omega))) | (with_reducible refine' Blk.set7_5 ?_ ?hb; case hb => (first | omega | (simp; done) | (simp; omega))) | (with_reducible refine' Blk.set7_6 ?_ ?hb; case hb => (first | omega | (simp; done) | (simp; omega))) | (with_reducible refine Blk.far ?_ ?hb _; case hb => (first | omega | (simp; done) | (simp; omega))) | fail))) h4 (by (first | omega | (simp; done) | (simp; omega)))
      have W_4 : Blk w4 (w3.heap.size) 43 #[.int .i64 0, .int .i64 0, .int .i64 0, .bool false, .bool false, .bool false, .string ⟨#[]⟩] := Blk.below (by (repeat' (first | (with_reducible refine Blk.drewN ?_ _) | (with_reducible refine Blk.drew ?_) | (with_reducible refine Blk.new1 ?hb; case hb => (first | omega | (simp; done) | (simp; omega))) | (with_reducible refine Blk.alloc ?_ _) | (with_reducible refine' Blk.set3_0 ?_ ?hb; case hb => (first | omega | (simp; done) | (simp; omega))) | (with_reducible refine' Blk.set3_1 ?_ ?hb; case hb => (first | omega | (simp; done) | (simp; omega))) | (with_reducible refine' Blk.set3_2 ?_ ?hb; case hb => (first | omega | (simp; done) | (simp; omega))) | (with_reducible refine' Blk.set4_0 ?_ ?hb; case hb => (first | omega | (simp; done) | (simp; omega))) | (with_reducible refine' Blk.set4_1 ?_ ?hb; case hb => (first | omega | (simp; done) | (simp; omega))) | (with_reducible refine' Blk.set4_2 ?_ ?hb; case hb => (first | omega | (simp; done) | (simp; omega))) | (with_reducible refine' Blk.set4_3 ?_ ?hb; case hb => (first | omega | (simp; done) | (simp; omega))) | (with_reducible refine' Blk.set7_0 ?_ ?hb; case hb => (first | omega | (simp; done) | (simp; omega))) | (with_reducible refine' Blk.set7_1 ?_ ?hb; case hb => (first | omega | (simp; done) | (simp; omega))) | (with_reducible refine' Blk.set7_2 ?_ ?hb; case hb => (first | omega | (simp; done) | (simp; omega))) | (with_reducible refine' Blk.set7_3 ?_ ?hb; case hb => (first | omega | (simp; done) | (simp; omega))) | (with_reducible refine' Blk.set7_4 ?_ ?hb; case hb => (first | omega | (simp; done) | (simp; omega))) | (with_reducible refine' Blk.set7_5 ?_ ?hb; case hb => (first | omega | (simp; done) | (simp; omega))) | (with_reducible refine' Blk.set7_6 ?_ ?hb; case hb => (first | omega | (simp; done) | (simp; omega))) | (with_reducible refine Blk.far ?_ ?hb _; case hb => (first | omega | (simp; done) | (simp; omega))) | fail))) h4 (by (first | omega | (simp; done) | (simp; omega)))
      have B4 := Lib.hid (below_step (B := w.heap.size) (w0 := w) (by (repeat' (first | with_reducible exact B3.out | with_reducible exact Below.refl _ _ | with_reducible refine below_drew1 ?_ | with_reducible refine below_drewN ?_ _ | with_reducible refine Below.alloc ?_ ?_ _ | with_reducible refine Below.setCell ?_ ?_ _ | omega | (simp; done) | (simp; omega)))) (by have := B3.out.size; (first | omega | (simp; done) | (simp; omega))) h4)
      have z4 : w.heap.size ≤ w4.heap.size := B4.out.size
      clear h4 B3 z3 P_3
      try clear P_l P_0_ P_1_ P_2_ P_l1_ P_l2_ P_l3_ P_l4_
      obtain ⟨⟨P_0_, P_1_, P_2_⟩, P_f0_, P_f1_, P_f2_⟩ := P_4.get3n
      have P_l := P_4.lt
      have P_l1_ : w.heap.size < w4.heap.size + 1 := by omega
      have P_l2_ : w.heap.size < w4.heap.size + 2 := by omega
      have P_l3_ : w.heap.size < w4.heap.size + 3 := by omega
      have P_l4_ : w.heap.size < w4.heap.size + 4 := by omega
      obtain ⟨⟨W_0_, W_1_, W_2_, W_3_, W_4_, W_5_, W_6_⟩, W_f0_, W_f1_, W_f2_, W_f3_, W_f4_, W_f5_, W_f6_⟩ := W_4.get7
      have W_l := W_4.lt
      have W_l1_ : w3.heap.size < w4.heap.size + 1 := by omega
      have W_l2_ : w3.heap.size < w4.heap.size + 2 := by omega
      have W_l3_ : w3.heap.size < w4.heap.size + 3 := by omega
      have W_l4_ : w3.heap.size < w4.heap.size + 4 := by omega
      go_wp2_with fail
      refine (CI.out _).mono ?_
      rintro e w5 ⟨rfl, h5⟩
      have W_5 : Blk w5 (w3.heap.size) 43 #[.int .i64 0, .int .i64 0, .int .i64 0, .bool false, .bool false, .bool false, .string ⟨#[]⟩] := Blk.below (by (repeat' (first | (with_reducible exact W_4) | (with_reducible refine Blk.drewN ?_ _) | (with_reducible refine Blk.drew ?_) | (with_reducible refine Blk.new1 ?hb; case hb => (first | omega | (simp; done) | (simp; omega))) | (with_reducible refine Blk.alloc ?_ _) | (with_reducible refine' Blk.set3_0 ?_ ?hb; case hb => (first | omega | (simp; done) | (simp; omega))) | (with_reducible refine' Blk.set3_1 ?_ ?hb; case hb => (first | omega | (simp; done) | (simp; omega))) | (with_reducible refine' Blk.set3_2 ?_ ?hb; case hb => (first | omega | (simp; done) | (simp; omega))) | (with_reducible refine' Blk.set4_0 ?_ ?hb; case hb => (first | omega | (simp; done) | (simp; omega))) | (with_reducible refine' Blk.set4_1 ?_ ?hb; case hb => (first | omega | (simp; done) | (simp; omega))) | (with_reducible refine' Blk.set4_2 ?_ ?hb; case hb => (first | omega | (simp; done) | (simp; omega))) | (with_reducible refine' Blk.set4_3 ?_ ?hb; case hb => (first | omega | (simp; done) | (simp; omega))) | (with_reducible refine' Blk.set7_0 ?_ ?hb; case hb => (first | omega | (simp; done) | (simp; omega))) | (with_reducible refine' Blk.set7_1 ?_ ?hb; case hb => (first | omega | (simp; done) | (simp; omega))) | (with_reducible refine' Blk.set7_2 ?_ ?hb; case hb => (first | omega | (simp; done) | (simp; omega))) | (with_reducible refine' Blk.set7_3 ?_ ?hb; case hb => (first | omega | (simp; done) | (simp; omega))) | (with_reducible refine' Blk.set7_4 ?_ ?hb; case hb => (first | omega | (simp; done) | (simp; omega))) | (with_reducible refine' Blk.set7_5 ?_ ?hb; case hb => (first | omega | (simp; done) | (simp; omega))) | (with_reducible refine' Blk.set7_6 ?_ ?hb; case hb => (first | omega | (simp; done) | (simp; omega))) | (with_reducible refine Blk.far ?_ ?hb _; case hb => (first | omega | (simp; done) | (simp; omega))) | fail))) h5 (by (first | omega | (simp; done) | (simp; omega)))
      have B5 := Lib.hid (below_step (B := w.heap.size) (w0 := w) (by (repeat' (first | with_reducible exact B4.out | with_reducible exact Below.refl _ _ | with_reducible refine below_drew1 ?_ | with_reducible refine below_drewN ?_ _ | with_reducible refine Below.alloc ?_ ?_ _ | with_reducible refine Below.setCell ?_ ?_ _ | omega | (simp; done) | (simp; omega)))) (by have := B4.out.size; (first | omega | (simp; done) | (simp; omega))) h5)
      have z5 : w.heap.size ≤ w5.heap.size := B5.out.size
      clear h5 B4 z4 W_4
      try clear W_l W_0_ W_1_ W_2_ W_3_ W_4_ W_5_ W_6_ W_l1_ W_l2_ W_l3_ W_l4_
      obtain ⟨⟨W_0_, W_1_, W_2_, W_3_, W_4_, W_5_, W_6_⟩, W_f0_, W_f1_, W_f2_, W_f3_, W_f4_, W_f5_, W_f6_⟩ := W_5.get7
      have W_l := W_5.lt
      have W_l1_ : w3.heap.size < w5.heap.size + 1 := by omega
      have W_l2_ : w3.heap.size < w5.heap.size + 2 := by omega
      have W_l3_ : w3.heap.size < w5.heap.size + 3 := by omega
      have W_l4_ : w3.heap.size < w5.heap.size + 4 := by omega
      go_wp2_with fail
      refine (c_eqData 0 0 0 false false false ⟨#[]⟩ _).mono ?_
      rintro e w6 ⟨rfl, h6⟩
      have W_6 : Blk w6 (w3.heap.size) 43 #[.int .i64 0, .int .i64 0, .int .i64 0, .bool false, .bool false, .bool false, .string ⟨#[]⟩] := Blk.below (by (repeat' (first | (with_reducible exact W_5) | (with_reducible refine Blk.drewN ?_ _) | (with_reducible refine Blk.drew ?_) | (with_reducible refine Blk.new1 ?hb; case hb => (first | omega | (simp; done) | (simp; omega))) | (with_reducible refine Blk.alloc ?_ _) | (with_reducible refine' Blk.set3_0 ?_ ?hb; case hb => (first | omega | (simp; done) | (simp; omega))) | (with_reducible refine' Blk.set3_1 ?_ ?hb; case hb => (first | omega | (simp; done) | (simp; omega))) | (with_reducible refine' Blk.set3_2 ?_ ?hb; case hb => (first | omega | (simp; done) | (simp; omega))) | (with_reducible refine' Blk.set4_0 ?_ ?hb; case hb => (first | omega | (simp; done) | (simp; omega))) | (with_reducible refine' Blk.set4_1 ?_ ?hb; case hb => (first | omega | (simp; done) | (simp; omega))) | (with_reducible refine' Blk.set4_2 ?_ ?hb; case hb => (first | omega | (simp; done) | (simp; omega))) | (with_reducible refine' Blk.set4_3 ?_ ?hb; case hb => (first | omega | (simp; done) | (simp; omega))) | (with_reducible refine' Blk.set7_0 ?_ ?hb; case hb => (first | omega | (simp; done) | (simp; omega))) | (with_reducible refine' Blk.set7_1 ?_ ?hb; case hb => (first | omega | (simp; done) | (simp; omega))) | (with_reducible refine' Blk.set7_2 ?_ ?hb; case hb => (first | omega | (simp; done) | (simp; omega))) | (with_reducible refine' Blk.set7_3 ?_ ?hb; case hb => (first | omega | (simp; done) | (simp; omega))) | (with_reducible refine' Blk.set7_4 ?_ ?hb; case hb => (first | omega | (simp; done) | (simp; omega))) | (with_reducible refine' Blk.set7_5 ?_ ?hb; case hb => (first | omega | (simp; done) | (simp; omega))) | (with_reducible refine' Blk.set7_6 ?_ ?hb; case hb => (first | omega | (simp; done) | (simp; omega))) | (with_reducible refine Blk.far ?_ ?hb _; case hb => (first | omega | (simp; done) | (simp; omega))) | fail))) h6 (by (first | omega | (simp; done) | (simp; omega)))
      have B6 := Lib.hid (below_step (B := w.heap.size) (w0 := w) (by (repeat' (first | with_reducible exact B5.out | with_reducible exact Below.refl _ _ | with_reducible refine below_drew1 ?_ | with_reducible refine below_drewN ?_ _ | with_reducible refine Below.alloc ?_ ?_ _ | with_reducible refine Below.setCell ?_ ?_ _ | omega | (simp; done) | (simp; omega)))) (by have := B5.out.size; (first | omega | (simp; done) | (simp; omega))) h6)
      have z6 : w.heap.size ≤ w6.heap.size := B6.out.size
      clear h6 B5 z5 W_5
      try clear W_l W_0_ W_1_ W_2_ W_3_ W_4_ W_5_ W_6_ W_l1_ W_l2_ W_l3_ W_l4_
      obtain ⟨⟨W_0_, W_1_, W_2_, W_3_, W_4_, W_5_, W_6_⟩, W_f0_, W_f1_, W_f2_, W_f3_, W_f4_, W_f5_, W_f6_⟩ := W_6.get7
      have W_l := W_6.lt
      have W_l1_ : w3.heap.size < w6.heap.size + 1 := by omega
      have W_l2_ : w3.heap.size < w6.heap.size + 2 := by omega
      have W_l3_ : w3.heap.size < w6.heap.size + 3 := by omega
      have W_l4_ : w3.heap.size < w6.heap.size + 4 := by omega
      go_wp2
      go_ret
      exact ⟨rfl, by (repeat' (first | with_reducible exact B6.out | with_reducible exact Below.refl _ _ | with_reducible refine below_drew1 ?_ | with_reducible refine below_drewN ?_ _ | with_reducible refine Below.alloc ?_ ?_ _ | with_reducible refine Below.setCell ?_ ?_ _ | omega | (simp; done) | (simp; omega)))⟩
    | true =>
      rw [dgV_yes hok] at ci cs
      unfold dgYes at ci cs
      clear hok
      generalize x0_2.extract 6 x0_2.size = t at *
      generalize wdAt x0_2 0 = a at *
      generalize wdAt x0_2 2 = b at *
      generalize wdAt x0_2 4 = c at *
      generalize fF x0_1 = F at *
      generalize fL x0_1 = L at *
      generalize fO x0_1 = O at *
      have CS := Lib.hid cs
      have CI := Lib.hid ci
      clear ci cs
      go_wp2_with fail
      refine (CS.out _).mono ?_
      rintro e w3 ⟨rfl, h3⟩
      have P_3 : Blk w3 (w.heap.size) 37 #[.int .i64 x0_0, .int .i64 x0_1, .string x0_2] := Blk.below (by (repeat' (first | (with_reducible exact P_2) | (with_reducible refine Blk.drewN ?_ _) | (with_reducible refine Blk.drew ?_) | (with_reducible refine Blk.new1 ?hb; case hb => (first | omega | (simp; done) | (simp; omega))) | (with_reducible refine Blk.alloc ?_ _) | (with_reducible refine' Blk.set3_0 ?_ ?hb; case hb => (first | omega | (simp; done) | (simp; omega))) | (with_reducible refine' Blk.set3_1 ?_ ?hb; case hb => (first | omega | (simp; done) | (simp; omega))) | (with_reducible refine' Blk.set3_2 ?_ ?hb; case hb => (first | omega | (simp; done) | (simp; omega))) | (with_reducible refine' Blk.set4_0 ?_ ?hb; case hb => (first | omega | (simp; done) | (simp; omega))) | (with_reducible refine' Blk.set4_1 ?_ ?hb; case hb => (first | omega | (simp; done) | (simp; omega))) | (with_reducible refine' Blk.set4_2 ?_ ?hb; case hb => (first | omega | (simp; done) | (simp; omega))) | (with_reducible refine' Blk.set4_3 ?_ ?hb; case hb => (first | omega | (simp; done) | (simp; omega))) | (with_reducible refine' Blk.set7_0 ?_ ?hb; case hb => (first | omega | (simp; done) | (simp; omega))) | (with_reducible refine' Blk.set7_1 ?_ ?hb; case hb => (first | omega | (simp; done) | (simp; omega))) | (with_reducible refine' Blk.set7_2 ?_ ?hb; case hb => (first | omega | (simp; done) | (simp; omega))) | (with_reducible refine' Blk.set7_3 ?_ ?hb; case hb => (first | omega | (simp; done) | (simp; omega))) | (with_reducible refine' Blk.set7_4 ?_ ?hb; case hb => (first | omega | (simp; done) | (simp; omega))) | (with_reducible refine' Blk.set7_5 ?_ ?hb; case hb => (first | omega | (simp; done) | (simp; omega))) | (with_reducible refine' Blk.set7_6 ?_ ?hb; case hb => (first | omega | (simp; done) | (simp; omega))) | (with_reducible refine Blk.far ?_ ?hb _; case hb => (first | omega | (simp; done) | (simp; omega))) | fail))) h3 (by (first | omega | (simp; done) | (simp; omega)))
      have B3 := Lib.hid (below_step (B := w.heap.size) (w0 := w) (by (repeat' (first | with_reducible exact B2.out | with_reducible exact Below.refl _ _ | with_reducible refine below_drew1 ?_ | with_reducible refine below_drewN ?_ _ | with_reducible refine Below.alloc ?_ ?_ _ | with_reducible refine Below.setCell ?_ ?_ _ | omega | (simp; done) | (simp; omega)))) (by have := B2.out.size; (first | omega | (simp; done) | (simp; omega))) h3)
      have z3 : w.heap.size ≤ w3.heap.size := B3.out.size
      clear h3 B2 z2 P_2
      try clear P_l P_0_ P_1_ P_2_ P_l1_ P_l2_ P_l3_ P_l4_
      obtain ⟨⟨P_0_, P_1_, P_2_⟩, P_f0_, P_f1_, P_f2_⟩ := P_3.get3n
      have P_l := P_3.lt
      have P_l1_ : w.heap.size < w3.heap.size + 1 := by omega
      have P_l2_ : w.heap.size < w3.heap.size + 2 := by omega
      have P_l3_ : w.heap.size < w3.heap.size + 3 := by omega
      have P_l4_ : w.heap.size < w3.heap.size + 4 := by omega
      go_wp2_with fail
      refine (c_toChunk x0_0 x0_1 x0_2 _).mono ?_
      rintro e w4 ⟨rfl, h4⟩
      have P_4 : Blk w4 (w.heap.size) 37 #[.int .i64 x0_0, .int .i64 x0_1, .string x0_2] := Blk.below (by (repeat' (first | (with_reducible exact P_3) | (with_reducible refine Blk.drewN ?_ _) | (with_reducible refine Blk.drew ?_) | (with_reducible refine Blk.new1 ?hb; case hb => (first | omega | (simp; done) | (simp; omega))) | (with_reducible refine Blk.alloc ?_ _) | (with_reducible refine' Blk.set3_0 ?_ ?hb; case hb => (first | omega | (simp; done) | (simp; omega))) | (with_reducible refine' Blk.set3_1 ?_ ?hb; case hb => (first | omega | (simp; done) | (simp; omega))) | (with_reducible refine' Blk.set3_2 ?_ ?hb; case hb => (first | omega | (simp; done) | (simp; omega))) | (with_reducible refine' Blk.set4_0 ?_ ?hb; case hb => (first | omega | (simp; done) | (simp; omega))) | (with_reducible refine' Blk.set4_1 ?_ ?hb; case hb => (first | omega | (simp; done) | (simp; omega))) | (with_reducible refine' Blk.set4_2 ?_ ?hb; case hb => (first | omega | (simp; done) | (simp; omega))) | (with_reducible refine' Blk.set4_3 ?_ ?hb; case hb => (first | omega | (simp; done) | (simp; omega))) | (with_reducible refine' Blk.set7_0 ?_ ?hb; case hb => (first | omega | (simp; done) | (simp; omega))) | (with_reducible refine' Blk.set7_1 ?_ ?hb; case hb => (first | omega | (simp; done) | (simp; omega))) | (with_reducible refine' Blk.set7_2 ?_ ?hb; case hb => (first | omega | (simp; done) | (simp; omega))) | (with_reducible refine' Blk.set7_3 ?_ ?hb; case hb => (first | omega | (simp; done) | (simp; omega))) | (with_reducible refine' Blk.set7_4 ?_ ?hb; case hb => (first | omega | (simp; done) | (simp; omega))) | (with_reducible refine' Blk.set7_5 ?_ ?hb; case hb => (first | omega | (simp; done) | (simp; omega))) | (with_reducible refine' Blk.set7_6 ?_ ?hb; case hb => (first | omega | (simp; done) | (simp; omega))) | (with_reducible refine Blk.far ?_ ?hb _; case hb => (first | omega | (simp; done) | (simp; omega))) | fail))) h4 (by (first | omega | (simp; done) | (simp; omega)))
      have W_4 : Blk w4 (w3.heap.size) 43 #[.int .i64 a, .int .i64 b, .int .i64 c, .bool F, .bool L, .bool O, .string t] := Blk.below (by (repeat' (first | (with_reducible refine Blk.drewN ?_ _) | (with_reducible refine Blk.drew ?_) | (with_reducible refine Blk.new1 ?hb; case hb => (first | omega | (simp; done) | (simp; omega))) | (with_reducible refine Blk.alloc ?_ _) | (with_reducible refine' Blk.set3_0 ?_ ?hb; case hb => (first | omega | (simp; done) | (simp; omega))) | (with_reducible refine' Blk.set3_1 ?_ ?hb; case hb => (first | omega | (simp; done) | (simp; omega))) | (with_reducible refine' Blk.set3_2 ?_ ?hb; case hb => (first | omega | (simp; done) | (simp; omega))) | (with_reducible refine' Blk.set4_0 ?_ ?hb; case hb => (first | omega | (simp; done) | (simp; omega))) | (with_reducible refine' Blk.set4_1 ?_ ?hb; case hb => (first | omega | (simp; done) | (simp; omega))) | (with_reducible refine' Blk.set4_2 ?_ ?hb; case hb => (first | omega | (simp; done) | (simp; omega))) | (with_reducible refine' Blk.set4_3 ?_ ?hb; case hb => (first | omega | (simp; done) | (simp; omega))) | (with_reducible refine' Blk.set7_0 ?_ ?hb; case hb => (first | omega | (simp; done) | (simp; omega))) | (with_reducible refine' Blk.set7_1 ?_ ?hb; case hb => (first | omega | (simp; done) | (simp; omega))) | (with_reducible refine' Blk.set7_2 ?_ ?hb; case hb => (first | omega | (simp; done) | (simp; omega))) | (with_reducible refine' Blk.set7_3 ?_ ?hb; case hb => (first | omega | (simp; done) | (simp; omega))) | (with_reducible refine' Blk.set7_4 ?_ ?hb; case hb => (first | omega | (simp; done) | (simp; omega))) | (with_reducible refine' Blk.set7_5 ?_ ?hb; case hb => (first | omega | (simp; done) | (simp; omega))) | (with_reducible refine' Blk.set7_6 ?_ ?hb; case hb => (first | omega | (simp; done) | (simp; omega))) | (with_reducible refine Blk.far ?_ ?hb _; case hb => (first | omega | (simp; done) | (simp; omega))) | fail))) h4 (by (first | omega | (simp; done) | (simp; omega)))
      have B4 := Lib.hid (below_step (B := w.heap.size) (w0 := w) (by (repeat' (first | with_reducible exact B3.out | with_reducible exact Below.refl _ _ | with_reducible refine below_drew1 ?_ | with_reducible refine below_drewN ?_ _ | with_reducible refine Below.alloc ?_ ?_ _ | with_reducible refine Below.setCell ?_ ?_ _ | omega | (simp; done) | (simp; omega)))) (by have := B3.out.size; (first | omega | (simp; done) | (simp; omega))) h4)
      have z4 : w.heap.size ≤ w4.heap.size := B4.out.size
      clear h4 B3 z3 P_3
      try clear P_l P_0_ P_1_ P_2_ P_l1_ P_l2_ P_l3_ P_l4_
      obtain ⟨⟨P_0_, P_1_, P_2_⟩, P_f0_, P_f1_, P_f2_⟩ := P_4.get3n
      have P_l := P_4.lt
      have P_l1_ : w.heap.size < w4.heap.size + 1 := by omega
      have P_l2_ : w.heap.size < w4.heap.size + 2 := by omega
      have P_l3_ : w.heap.size < w4.heap.size + 3 := by omega
      have P_l4_ : w.heap.size < w4.heap.size + 4 := by omega
      obtain ⟨⟨W_0_, W_1_, W_2_, W_3_, W_4_, W_5_, W_6_⟩, W_f0_, W_f1_, W_f2_, W_f3_, W_f4_, W_f5_, W_f6_⟩ := W_4.get7
      have W_l := W_4.lt
      have W_l1_ : w3.heap.size < w4.heap.size + 1 := by omega
      have W_l2_ : w3.heap.size < w4.heap.size + 2 := by omega
      have W_l3_ : w3.heap.size < w4.heap.size + 3 := by omega
      have W_l4_ : w3.heap.size < w4.heap.size + 4 := by omega
      go_wp2_with fail
      refine (CI.out _).mono ?_
      rintro e w5 ⟨rfl, h5⟩
      have W_5 : Blk w5 (w3.heap.size) 43 #[.int .i64 a, .int .i64 b, .int .i64 c, .bool F, .bool L, .bool O, .string t] := Blk.below (by (repeat' (first | (with_reducible exact W_4) | (with_reducible refine Blk.drewN ?_ _) | (with_reducible refine Blk.drew ?_) | (with_reducible refine Blk.new1 ?hb; case hb => (first | omega | (simp; done) | (simp; omega))) | (with_reducible refine Blk.alloc ?_ _) | (with_reducible refine' Blk.set3_0 ?_ ?hb; case hb => (first | omega | (simp; done) | (simp; omega))) | (with_reducible refine' Blk.set3_1 ?_ ?hb; case hb => (first | omega | (simp; done) | (simp; omega))) | (with_reducible refine' Blk.set3_2 ?_ ?hb; case hb => (first | omega | (simp; done) | (simp; omega))) | (with_reducible refine' Blk.set4_0 ?_ ?hb; case hb => (first | omega | (simp; done) | (simp; omega))) | (with_reducible refine' Blk.set4_1 ?_ ?hb; case hb => (first | omega | (simp; done) | (simp; omega))) | (with_reducible refine' Blk.set4_2 ?_ ?hb; case hb => (first | omega | (simp; done) | (simp; omega))) | (with_reducible refine' Blk.set4_3 ?_ ?hb; case hb => (first | omega | (simp; done) | (simp; omega))) | (with_reducible refine' Blk.set7_0 ?_ ?hb; case hb => (first | omega | (simp; done) | (simp; omega))) | (with_reducible refine' Blk.set7_1 ?_ ?hb; case hb => (first | omega | (simp; done) | (simp; omega))) | (with_reducible refine' Blk.set7_2 ?_ ?hb; case hb => (first | omega | (simp; done) | (simp; omega))) | (with_reducible refine' Blk.set7_3 ?_ ?hb; case hb => (first | omega | (simp; done) | (simp; omega))) | (with_reducible refine' Blk.set7_4 ?_ ?hb; case hb => (first | omega | (simp; done) | (simp; omega))) | (with_reducible refine' Blk.set7_5 ?_ ?hb; case hb => (first | omega | (simp; done) | (simp; omega))) | (with_reducible refine' Blk.set7_6 ?_ ?hb; case hb => (first | omega | (simp; done) | (simp; omega))) | (with_reducible refine Blk.far ?_ ?hb _; case hb => (first | omega | (simp; done) | (simp; omega))) | fail))) h5 (by (first | omega | (simp; done) | (simp; omega)))
      have B5 := Lib.hid (below_step (B := w.heap.size) (w0 := w) (by (repeat' (first | with_reducible exact B4.out | with_reducible exact Below.refl _ _ | with_reducible refine below_drew1 ?_ | with_reducible refine below_drewN ?_ _ | with_reducible refine Below.alloc ?_ ?_ _ | with_reducible refine Below.setCell ?_ ?_ _ | omega | (simp; done) | (simp; omega)))) (by have := B4.out.size; (first | omega | (simp; done) | (simp; omega))) h5)
      have z5 : w.heap.size ≤ w5.heap.size := B5.out.size
      clear h5 B4 z4 W_4
      try clear W_l W_0_ W_1_ W_2_ W_3_ W_4_ W_5_ W_6_ W_l1_ W_l2_ W_l3_ W_l4_
      obtain ⟨⟨W_0_, W_1_, W_2_, W_3_, W_4_, W_5_, W_6_⟩, W_f0_, W_f1_, W_f2_, W_f3_, W_f4_, W_f5_, W_f6_⟩ := W_5.get7
      have W_l := W_5.lt
      have W_l1_ : w3.heap.size < w5.heap.size + 1 := by omega
      have W_l2_ : w3.heap.size < w5.heap.size + 2 := by omega
      have W_l3_ : w3.heap.size < w5.heap.size + 3 := by omega
      have W_l4_ : w3.heap.size < w5.heap.size + 4 := by omega
      go_wp2_with fail
      refine (c_eqData a b c F L O t _).mono ?_
      rintro e w6 ⟨rfl, h6⟩
      have W_6 : Blk w6 (w3.heap.size) 43 #[.int .i64 a, .int .i64 b, .int .i64 c, .bool F, .bool L, .bool O, .string t] := Blk.below (by (repeat' (first | (with_reducible exact W_5) | (with_reducible refine Blk.drewN ?_ _) | (with_reducible refine Blk.drew ?_) | (with_reducible refine Blk.new1 ?hb; case hb => (first | omega | (simp; done) | (simp; omega))) | (with_reducible refine Blk.alloc ?_ _) | (with_reducible refine' Blk.set3_0 ?_ ?hb; case hb => (first | omega | (simp; done) | (simp; omega))) | (with_reducible refine' Blk.set3_1 ?_ ?hb; case hb => (first | omega | (simp; done) | (simp; omega))) | (with_reducible refine' Blk.set3_2 ?_ ?hb; case hb => (first | omega | (simp; done) | (simp; omega))) | (with_reducible refine' Blk.set4_0 ?_ ?hb; case hb => (first | omega | (simp; done) | (simp; omega))) | (with_reducible refine' Blk.set4_1 ?_ ?hb; case hb => (first | omega | (simp; done) | (simp; omega))) | (with_reducible refine' Blk.set4_2 ?_ ?hb; case hb => (first | omega | (simp; done) | (simp; omega))) | (with_reducible refine' Blk.set4_3 ?_ ?hb; case hb => (first | omega | (simp; done) | (simp; omega))) | (with_reducible refine' Blk.set7_0 ?_ ?hb; case hb => (first | omega | (simp; done) | (simp; omega))) | (with_reducible refine' Blk.set7_1 ?_ ?hb; case hb => (first | omega | (simp; done) | (simp; omega))) | (with_reducible refine' Blk.set7_2 ?_ ?hb; case hb => (first | omega | (simp; done) | (simp; omega))) | (with_reducible refine' Blk.set7_3 ?_ ?hb; case hb => (first | omega | (simp; done) | (simp; omega))) | (with_reducible refine' Blk.set7_4 ?_ ?hb; case hb => (first | omega | (simp; done) | (simp; omega))) | (with_reducible refine' Blk.set7_5 ?_ ?hb; case hb => (first | omega | (simp; done) | (simp; omega))) | (with_reducible refine' Blk.set7_6 ?_ ?hb; case hb => (first | omega | (simp; done) | (simp; omega))) | (with_reducible refine Blk.far ?_ ?hb _; case hb => (first | omega | (simp; done) | (simp; omega))) | fail))) h6 (by (first | omega | (simp; done) | (simp; omega)))
      have B6 := Lib.hid (below_step (B := w.heap.size) (w0 := w) (by (repeat' (first | with_reducible exact B5.out | with_reducible exact Below.refl _ _ | with_reducible refine below_drew1 ?_ | with_reducible refine below_drewN ?_ _ | with_reducible refine Below.alloc ?_ ?_ _ | with_reducible refine Below.setCell ?_ ?_ _ | omega | (simp; done) | (simp; omega)))) (by have := B5.out.size; (first | omega | (simp; done) | (simp; omega))) h6)
      have z6 : w.heap.size ≤ w6.heap.size := B6.out.size
      clear h6 B5 z5 W_5
      try clear W_l W_0_ W_1_ W_2_ W_3_ W_4_ W_5_ W_6_ W_l1_ W_l2_ W_l3_ W_l4_
      obtain ⟨⟨W_0_, W_1_, W_2_, W_3_, W_4_, W_5_, W_6_⟩, W_f0_, W_f1_, W_f2_, W_f3_, W_f4_, W_f5_, W_f6_⟩ := W_6.get7
      have W_l := W_6.lt
      have W_l1_ : w3.heap.size < w6.heap.size + 1 := by omega
      have W_l2_ : w3.heap.size < w6.heap.size + 2 := by omega
      have W_l3_ : w3.heap.size < w6.heap.size + 3 := by omega
      have W_l4_ : w3.heap.size < w6.heap.size + 4 := by omega
      go_wp2
      go_ret
      exact ⟨rfl, by (repeat' (first | with_reducible exact B6.out | with_reducible exact Below.refl _ _ | with_reducible refine below_drew1 ?_ | with_reducible refine below_drewN ?_ _ | with_reducible refine Below.alloc ?_ ?_ _ | with_reducible refine Below.setCell ?_ ?_ _ | omega | (simp; done) | (simp; omega)))⟩

/-! ### The row's step -/
theorem own : ownKnob Try.prog.godebug = none := by kernel_rfl
theorem laidOut : laidOutB Try.prog = true := by kernel_rfl
set_option maxRecDepth 100000 in
theorem lifted (os : Os) (started : os.Started) (H : Type) (enc : TypeId × Value → H) :
    ReturnsInHanded {} Try.checked os 6 .any (Rows.fnExactDataGetSpec.pre6 enc Try.prog Try.f6 Rows.fnExactDataGetRow.domain false) (Rows.fnExactDataGetSpec.post enc Try.prog Try.f6 false true false false) := by
  refine returnsInHanded_of_change (C := Try.checked) own started (by kernel_rfl) Try.func6
    (ChangeSpec.witness6 (enc := enc) (C := Try.checked) false ⟨#[], #[.agg #[.int .i64 0, .int .i64 0, .string ⟨#[]⟩]], []⟩ 8 (by kernel_rfl) (by kernel_rfl) (by kernel_rfl) (by kernel_rfl)) ?_
  intro W base args ds gs before hval0 hW hcnd _
  have hval : ∀ (j : Nat) t v, Try.f6.params[j]? = some t → args[j]? = some v → Value.okWide Try.prog W .any base t v := hval0
  have hW' := hW
  obtain ⟨p, q, hA0, hV, rfl, hfz, hnd⟩ := hW
  have hA : DataW.TrodAll enc Try.prog W 0 (fun _ => true) true Try.f6.params.toList args.toList ds p := hA0
  rw [Try.params6] at hA hval
  obtain ⟨v0, vs0, d0, ds0, p0, q0, hargs, rfl, rfl, h0, r0⟩ := trodAll_cons hA
  obtain ⟨rfl, rfl, rfl⟩ := trodAll_nil r0
  obtain rfl : args = #[v0] := by cases args; simp_all
  obtain ⟨rfl, rfl⟩ := trodVars_none hV
  have k0 := h0
  have lt0 : ∀ x ∈ p0, x.block < W.heap.size := by obtain ⟨m, hm⟩ := k0; exact DataW.trod_lt m _ _ _ hm
  obtain ⟨cs0, m0, u0, hz0, hf0⟩ := open_fields Try.underlying37 (by kernel_rfl) (by kernel_rfl) (hval 0 37 v0 rfl rfl) h0
  subst u0
  obtain ⟨u0_0, y0_0, g0_0, t0_0, z0_0⟩ := hf0 0 _ rfl
  obtain ⟨x0_0, rfl, w0_0⟩ := int_field Try.underlying3 t0_0
  obtain ⟨u0_1, y0_1, g0_1, t0_1, z0_1⟩ := hf0 1 _ rfl
  obtain ⟨x0_1, rfl, w0_1⟩ := int_field Try.underlying3 t0_1
  obtain ⟨u0_2, y0_2, g0_2, t0_2, z0_2⟩ := hf0 2 _ rfl
  obtain ⟨x0_2, rfl, w0_2⟩ := string_field Try.underlying9 t0_2
  obtain rfl := arr3 hz0 g0_0 g0_1 g0_2
  clear hA0 hval0
  refine (walk x0_0 x0_1 x0_2 W w0_0 w0_1 w0_2).mono fun e W' ⟨he, bel⟩ => ?_
  subst he
  exact ⟨_, rfl, _, _, _, [], _, [], hW', trodAll_mk1 (shut_bool Try.underlying4 _), (trodAll_cons_mk (Below.trod laidOut (by kernel_rfl) (of_decide_eq_true (by kernel_rfl)) k0 bel lt0) trodAll_mk0), rfl, bel.frame _, fun h => by cases h⟩

theorem over : Rows.fnExactDataGetRow.holds Try.pinned (OpenSpec.ofChange Rows.fnExactDataGetSpec) :=
  OpenClaim.holds_of_wide 6 Try.f6 rfl rfl rfl rfl rfl rfl rfl ⟨rfl, rfl, rfl, rfl, rfl⟩ rfl rfl rfl rfl rfl (by kernel_rfl) Try.func6 (by kernel_rfl)
    (of_decide_eq_true (by kernel_rfl)) (by unfold Func.isWrapper; first | (rw [if_pos (by decide +kernel)]; kernel_rfl) | (rw [if_neg (by decide +kernel)]; exact ⟨rfl, rfl⟩))
    (fun os started H enc _ => lifted os started H enc)

/-- The statement. -/
theorem proved : Rows.FnExactDataGetSaid := over
#print axioms proved
end Go.Proofs.Ytegjbhngkhdcfaa.fnExactDataGet
