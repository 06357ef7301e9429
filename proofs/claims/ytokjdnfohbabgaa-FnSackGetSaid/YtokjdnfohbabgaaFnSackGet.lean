/-
  A receipt is read from its chunk, and written back gives that chunk: for every code. No condition.
-/
import Derived.Test.YtokjdnfohbabgaaDrawSackL
import Derived.Test.YtokjdnfohbabgaaSackGet
import Derived.Test.YtokjdnfohbabgaaSSackGet
import Derived.Test.YtokjdnfohbabgaaSackBack
import Derived.Test.YtokjdnfohbabgaaSameSack
import Derived.Test.YtokjdnfohbabgaaOpen
import Derived.Deep.RegionHeld3
namespace Go.Proofs.Ytokjdnfohbabgaa.fnSackGet
open Go.ChangeShapes Go.WideShapes Go.ChangeAt Go.RowKit
open Go.ChangeMaps (open_string shut_string)
set_option linter.unusedVariables false
set_option linter.unusedSimpArgs false
set_option maxRecDepth 100000 in
set_option maxHeartbeats 8000000 in
theorem walk (a0 : Option Addr) (n0 c0 : Nat) (w : World) (w0 : Code w a0 n0 c0) :
    Calls Try.prog 3 #[.slice a0 n0 c0] w fun e w' => e = .returned (.bool true) ∧ Below w.heap.size w w' := by
  have hc := w0.2.1
  unfold maxLen at hc
  have hn := w0.1
  by_cases hbig : 1048576 < n0
  · go_enter Try.func3, Try.ntmps3
    go_wp2
    go_ret
    exact ⟨rfl, Below.refl _ _⟩
  have hq : ∀ b : Bool, (b != b) = false := fun b => by simp
  have hq2 : ∀ b : Bool, (b == b) = true := fun b => by simp
  have hq3 : ∀ b : Int, (b != b) = false := fun b => by simp
  have hq4 : ∀ b : Int, (b == b) = true := fun b => by simp
  have hq5 : ∀ b : ByteArray, (b.toList == b.toList) = true := fun b => by simp
  have hq6 : ∀ b : ByteArray, (b.toList != b.toList) = false := fun b => by simp
  have B0 := Lib.hid (Below.refl w.heap.size w)
  go_enter Try.func3, Try.ntmps3
  go_wp2_with fail
  refine (c_DrawSackGet a0 n0 c0 _ w0).mono ?_
  rintro e w1 ⟨k, f, s, rfl, hk0, hk1, hf0, hf1, hss, h1⟩
  have B1 := Lib.hid (below_step (B := w.heap.size) (w0 := w) (by (repeat' (first | with_reducible exact B0.out | with_reducible exact Below.refl _ _ | with_reducible refine below_drew1 ?_ | with_reducible refine below_drewN ?_ _ | with_reducible refine Below.alloc ?_ ?_ _ | with_reducible refine Below.setCell ?_ ?_ _ | omega | (simp; done) | (simp; omega)))) (by have := B0.out.size; (first | omega | (simp; done) | (simp; omega))) h1)
  have z1 : w.heap.size ≤ w1.heap.size := B1.out.size
  clear h1 B0
  have hs : (s.toList == s.toList) = true := by simp
  have ci := fun W => c_SackGet k f s W (by omega)
  have cs := fun W => c_sSackGet k f s W (by omega)
  have hl : (sgL k f s).length ≤ 16 := by
    unfold sgL
    cases sgOk k f s with
    | false => show 0 ≤ _; omega
    | true => show (sgXs s).length ≤ _; rw [sgXs_length]; omega
  have hok2 : sgOk k f s = true → k = 3 ∧ f = 0 ∧ s.size % 4 = 2 ∧ sackOkV (sgC k f s) (sgL k f s) = true ∧ sackBody (sgC k f s) (sgL k f s) = s := fun h => by
    obtain ⟨h1, h2, h3, h4⟩ := sgOk_yes h
    rw [(sg_yes h).1, (sg_yes h).2]
    exact ⟨h1, h2, h3, h4, sg_forth s h3⟩
  generalize sgC k f s = cum at *
  generalize sgL k f s = xs at *
  obtain ⟨n, hn2⟩ : ∃ n, xs.length = n := ⟨_, rfl⟩
  rw [hn2] at hl
  have HN := Lib.hid hn2
  have HOK := Lib.hid hok2
  clear hn2 hok2 hn hc
  generalize sgOk k f s = ok at *
  have CI := Lib.hid ci
  have CS := Lib.hid cs
  clear ci cs
  go_wp2_with fail
  refine (CI.out _).mono ?_
  rintro e w2 ⟨v, rfl, hO, h2⟩
  have X_2 : Blk w2 (w1.heap.size) 24 #[.int .i64 k, .int .i64 f, .string s] := Blk.below (by (repeat' (first | (with_reducible refine Blk.drewN ?_ _) | (with_reducible refine Blk.drew ?_) | (with_reducible refine Blk.new1 ?hb; case hb => (first | omega | (simp; done) | (simp; omega))) | (with_reducible refine Blk.alloc ?_ _) | (with_reducible refine' Blk.set2_0 ?_ ?hb; case hb => (first | omega | (simp; done) | (simp; omega))) | (with_reducible refine' Blk.set2_1 ?_ ?hb; case hb => (first | omega | (simp; done) | (simp; omega))) | (with_reducible refine' Blk.set3_0 ?_ ?hb; case hb => (first | omega | (simp; done) | (simp; omega))) | (with_reducible refine' Blk.set3_1 ?_ ?hb; case hb => (first | omega | (simp; done) | (simp; omega))) | (with_reducible refine' Blk.set3_2 ?_ ?hb; case hb => (first | omega | (simp; done) | (simp; omega))) | (with_reducible refine' Blk.set4_0 ?_ ?hb; case hb => (first | omega | (simp; done) | (simp; omega))) | (with_reducible refine' Blk.set4_1 ?_ ?hb; case hb => (first | omega | (simp; done) | (simp; omega))) | (with_reducible refine' Blk.set4_2 ?_ ?hb; case hb => (first | omega | (simp; done) | (simp; omega))) | (with_reducible refine' Blk.set4_3 ?_ ?hb; case hb => (first | omega | (simp; done) | (simp; omega))) | (with_reducible refine' Blk.set7_0 ?_ ?hb; case hb => (first | omega | (simp; done) | (simp; omega))) | (with_reducible refine' Blk.set7_1 ?_ ?hb; case hb => (first | omega | (simp; done) | (simp; omega))) | (with_reducible refine' Blk.set7_2 ?_ ?hb; case hb => (first | omega | (simp; done) | (simp; omega))) | (with_reducible refine' Blk.set7_3 ?_ ?hb; case hb => (first | omega | (simp; done) | (simp; omega))) | (with_reducible refine' Blk.set7_4 ?_ ?hb; case hb => (first | omega | (simp; done) | (simp; omega))) | (with_reducible refine' Blk.set7_5 ?_ ?hb; case hb => (first | omega | (simp; done) | (simp; omega))) | (with_reducible refine' Blk.set7_6 ?_ ?hb; case hb => (first | omega | (simp; done) | (simp; omega))) | (with_reducible refine Blk.far ?_ ?hb _; case hb => (first | omega | (simp; done) | (simp; omega))) | fail))) h2 (by (first | omega | (simp; done) | (simp; omega)))
  have B2 := Lib.hid (below_step (B := w.heap.size) (w0 := w) (by (repeat' (first | with_reducible exact B1.out | with_reducible exact Below.refl _ _ | with_reducible refine below_drew1 ?_ | with_reducible refine below_drewN ?_ _ | with_reducible refine Below.alloc ?_ ?_ _ | with_reducible refine Below.setCell ?_ ?_ _ | omega | (simp; done) | (simp; omega)))) (by have := B1.out.size; (first | omega | (simp; done) | (simp; omega))) h2)
  have z2 : w.heap.size ≤ w2.heap.size := B2.out.size
  clear h2 B1 z1
  obtain ⟨⟨X_0_, X_1_, X_2_⟩, X_f0_, X_f1_, X_f2_⟩ := X_2.get3n
  have X_l := X_2.lt
  have X_l1_ : w1.heap.size < w2.heap.size + 1 := by omega
  have X_l2_ : w1.heap.size < w2.heap.size + 2 := by omega
  have X_l3_ : w1.heap.size < w2.heap.size + 3 := by omega
  have X_l4_ : w1.heap.size < w2.heap.size + 4 := by omega
  obtain ⟨AI, cI, rfl, hcI, _, gI⟩ := hO.formN HN.out
  have GI_2 : Gaps w2 w2.heap.size AI n xs := gI
  have GI_z2 : w2.heap.size ≤ w2.heap.size := by omega
  clear hO gI
  go_wp2_with fail
  refine (CS.out _).mono ?_
  rintro e w3 ⟨v, rfl, hO, h3⟩
  have X_3 : Blk w3 (w1.heap.size) 24 #[.int .i64 k, .int .i64 f, .string s] := Blk.below (by (repeat' (first | (with_reducible exact X_2) | (with_reducible refine Blk.drewN ?_ _) | (with_reducible refine Blk.drew ?_) | (with_reducible refine Blk.new1 ?hb; case hb => (first | omega | (simp; done) | (simp; omega))) | (with_reducible refine Blk.alloc ?_ _) | (with_reducible refine' Blk.set2_0 ?_ ?hb; case hb => (first | omega | (simp; done) | (simp; omega))) | (with_reducible refine' Blk.set2_1 ?_ ?hb; case hb => (first | omega | (simp; done) | (simp; omega))) | (with_reducible refine' Blk.set3_0 ?_ ?hb; case hb => (first | omega | (simp; done) | (simp; omega))) | (with_reducible refine' Blk.set3_1 ?_ ?hb; case hb => (first | omega | (simp; done) | (simp; omega))) | (with_reducible refine' Blk.set3_2 ?_ ?hb; case hb => (first | omega | (simp; done) | (simp; omega))) | (with_reducible refine' Blk.set4_0 ?_ ?hb; case hb => (first | omega | (simp; done) | (simp; omega))) | (with_reducible refine' Blk.set4_1 ?_ ?hb; case hb => (first | omega | (simp; done) | (simp; omega))) | (with_reducible refine' Blk.set4_2 ?_ ?hb; case hb => (first | omega | (simp; done) | (simp; omega))) | (with_reducible refine' Blk.set4_3 ?_ ?hb; case hb => (first | omega | (simp; done) | (simp; omega))) | (with_reducible refine' Blk.set7_0 ?_ ?hb; case hb => (first | omega | (simp; done) | (simp; omega))) | (with_reducible refine' Blk.set7_1 ?_ ?hb; case hb => (first | omega | (simp; done) | (simp; omega))) | (with_reducible refine' Blk.set7_2 ?_ ?hb; case hb => (first | omega | (simp; done) | (simp; omega))) | (with_reducible refine' Blk.set7_3 ?_ ?hb; case hb => (first | omega | (simp; done) | (simp; omega))) | (with_reducible refine' Blk.set7_4 ?_ ?hb; case hb => (first | omega | (simp; done) | (simp; omega))) | (with_reducible refine' Blk.set7_5 ?_ ?hb; case hb => (first | omega | (simp; done) | (simp; omega))) | (with_reducible refine' Blk.set7_6 ?_ ?hb; case hb => (first | omega | (simp; done) | (simp; omega))) | (with_reducible refine Blk.far ?_ ?hb _; case hb => (first | omega | (simp; done) | (simp; omega))) | fail))) h3 (by (first | omega | (simp; done) | (simp; omega)))
  have I_3 : Blk w3 (w2.heap.size) 28 #[.int .i64 cum, .slice AI n cI] := Blk.below (by (repeat' (first | (with_reducible refine Blk.drewN ?_ _) | (with_reducible refine Blk.drew ?_) | (with_reducible refine Blk.new1 ?hb; case hb => (first | omega | (simp; done) | (simp; omega))) | (with_reducible refine Blk.alloc ?_ _) | (with_reducible refine' Blk.set2_0 ?_ ?hb; case hb => (first | omega | (simp; done) | (simp; omega))) | (with_reducible refine' Blk.set2_1 ?_ ?hb; case hb => (first | omega | (simp; done) | (simp; omega))) | (with_reducible refine' Blk.set3_0 ?_ ?hb; case hb => (first | omega | (simp; done) | (simp; omega))) | (with_reducible refine' Blk.set3_1 ?_ ?hb; case hb => (first | omega | (simp; done) | (simp; omega))) | (with_reducible refine' Blk.set3_2 ?_ ?hb; case hb => (first | omega | (simp; done) | (simp; omega))) | (with_reducible refine' Blk.set4_0 ?_ ?hb; case hb => (first | omega | (simp; done) | (simp; omega))) | (with_reducible refine' Blk.set4_1 ?_ ?hb; case hb => (first | omega | (simp; done) | (simp; omega))) | (with_reducible refine' Blk.set4_2 ?_ ?hb; case hb => (first | omega | (simp; done) | (simp; omega))) | (with_reducible refine' Blk.set4_3 ?_ ?hb; case hb => (first | omega | (simp; done) | (simp; omega))) | (with_reducible refine' Blk.set7_0 ?_ ?hb; case hb => (first | omega | (simp; done) | (simp; omega))) | (with_reducible refine' Blk.set7_1 ?_ ?hb; case hb => (first | omega | (simp; done) | (simp; omega))) | (with_reducible refine' Blk.set7_2 ?_ ?hb; case hb => (first | omega | (simp; done) | (simp; omega))) | (with_reducible refine' Blk.set7_3 ?_ ?hb; case hb => (first | omega | (simp; done) | (simp; omega))) | (with_reducible refine' Blk.set7_4 ?_ ?hb; case hb => (first | omega | (simp; done) | (simp; omega))) | (with_reducible refine' Blk.set7_5 ?_ ?hb; case hb => (first | omega | (simp; done) | (simp; omega))) | (with_reducible refine' Blk.set7_6 ?_ ?hb; case hb => (first | omega | (simp; done) | (simp; omega))) | (with_reducible refine Blk.far ?_ ?hb _; case hb => (first | omega | (simp; done) | (simp; omega))) | fail))) h3 (by (first | omega | (simp; done) | (simp; omega)))
  have GI_3 : Gaps w3 w2.heap.size AI n xs := Gaps.below (by (repeat' (first | (with_reducible exact GI_2) | with_reducible refine Gaps.alloc ?_ ?_ _ | with_reducible refine Gaps.setCell ?_ ?_ _ | with_reducible refine Gaps.drew ?_ | with_reducible refine Gaps.drewN ?_ _ | omega | (simp; done) | (simp; omega)))) h3 (by (first | omega | (simp; done) | (simp; omega)))
  have GI_z3 : w2.heap.size ≤ w3.heap.size := by have := h3.size; first | omega | (simp at this; omega)
  have B3 := Lib.hid (below_step (B := w.heap.size) (w0 := w) (by (repeat' (first | with_reducible exact B2.out | with_reducible exact Below.refl _ _ | with_reducible refine below_drew1 ?_ | with_reducible refine below_drewN ?_ _ | with_reducible refine Below.alloc ?_ ?_ _ | with_reducible refine Below.setCell ?_ ?_ _ | omega | (simp; done) | (simp; omega)))) (by have := B2.out.size; (first | omega | (simp; done) | (simp; omega))) h3)
  have z3 : w.heap.size ≤ w3.heap.size := B3.out.size
  have y3 : w2.heap.size ≤ w3.heap.size := by have := h3.size; first | omega | (simp at this; omega)
  clear h3 B2 z2 X_2 GI_2 GI_z2
  try clear X_l X_0_ X_1_ X_2_ X_l1_ X_l2_ X_l3_ X_l4_
  obtain ⟨⟨X_0_, X_1_, X_2_⟩, X_f0_, X_f1_, X_f2_⟩ := X_3.get3n
  have X_l := X_3.lt
  have X_l1_ : w1.heap.size < w3.heap.size + 1 := by omega
  have X_l2_ : w1.heap.size < w3.heap.size + 2 := by omega
  have X_l3_ : w1.heap.size < w3.heap.size + 3 := by omega
  have X_l4_ : w1.heap.size < w3.heap.size + 4 := by omega
  obtain ⟨⟨I_0_, I_1_⟩, I_f0_, I_f1_⟩ := I_3.get2n
  have I_l := I_3.lt
  have I_l1_ : w2.heap.size < w3.heap.size + 1 := by omega
  have I_l2_ : w2.heap.size < w3.heap.size + 2 := by omega
  have I_l3_ : w2.heap.size < w3.heap.size + 3 := by omega
  have I_l4_ : w2.heap.size < w3.heap.size + 4 := by omega
  obtain ⟨AW, cW, rfl, hcW, _, gW⟩ := hO.formN HN.out
  have GW_3 : Gaps w3 w3.heap.size AW n xs := gW
  have GW_z3 : w3.heap.size ≤ w3.heap.size := by omega
  clear hO gW
  go_wp2_with fail
  refine (c_sameSack cum AI AW n cI cW xs w3.heap.size _ (by (repeat' (first | (with_reducible exact GI_3.more (by omega)) | with_reducible refine Gaps.alloc ?_ ?_ _ | with_reducible refine Gaps.setCell ?_ ?_ _ | with_reducible refine Gaps.drew ?_ | with_reducible refine Gaps.drewN ?_ _ | omega | (simp; done) | (simp; omega)))) (by (repeat' (first | (with_reducible exact GW_3) | with_reducible refine Gaps.alloc ?_ ?_ _ | with_reducible refine Gaps.setCell ?_ ?_ _ | with_reducible refine Gaps.drew ?_ | with_reducible refine Gaps.drewN ?_ _ | omega | (simp; done) | (simp; omega)))) (by first | omega | (simp; done) | (simp; omega)) (by unfold maxLen; omega)).mono ?_
  rintro e w4 ⟨rfl, h4⟩
  have X_4 : Blk w4 (w1.heap.size) 24 #[.int .i64 k, .int .i64 f, .string s] := Blk.below (by (repeat' (first | (with_reducible exact X_3) | (with_reducible refine Blk.drewN ?_ _) | (with_reducible refine Blk.drew ?_) | (with_reducible refine Blk.new1 ?hb; case hb => (first | omega | (simp; done) | (simp; omega))) | (with_reducible refine Blk.alloc ?_ _) | (with_reducible refine' Blk.set2_0 ?_ ?hb; case hb => (first | omega | (simp; done) | (simp; omega))) | (with_reducible refine' Blk.set2_1 ?_ ?hb; case hb => (first | omega | (simp; done) | (simp; omega))) | (with_reducible refine' Blk.set3_0 ?_ ?hb; case hb => (first | omega | (simp; done) | (simp; omega))) | (with_reducible refine' Blk.set3_1 ?_ ?hb; case hb => (first | omega | (simp; done) | (simp; omega))) | (with_reducible refine' Blk.set3_2 ?_ ?hb; case hb => (first | omega | (simp; done) | (simp; omega))) | (with_reducible refine' Blk.set4_0 ?_ ?hb; case hb => (first | omega | (simp; done) | (simp; omega))) | (with_reducible refine' Blk.set4_1 ?_ ?hb; case hb => (first | omega | (simp; done) | (simp; omega))) | (with_reducible refine' Blk.set4_2 ?_ ?hb; case hb => (first | omega | (simp; done) | (simp; omega))) | (with_reducible refine' Blk.set4_3 ?_ ?hb; case hb => (first | omega | (simp; done) | (simp; omega))) | (with_reducible refine' Blk.set7_0 ?_ ?hb; case hb => (first | omega | (simp; done) | (simp; omega))) | (with_reducible refine' Blk.set7_1 ?_ ?hb; case hb => (first | omega | (simp; done) | (simp; omega))) | (with_reducible refine' Blk.set7_2 ?_ ?hb; case hb => (first | omega | (simp; done) | (simp; omega))) | (with_reducible refine' Blk.set7_3 ?_ ?hb; case hb => (first | omega | (simp; done) | (simp; omega))) | (with_reducible refine' Blk.set7_4 ?_ ?hb; case hb => (first | omega | (simp; done) | (simp; omega))) | (with_reducible refine' Blk.set7_5 ?_ ?hb; case hb => (first | omega | (simp; done) | (simp; omega))) | (with_reducible refine' Blk.set7_6 ?_ ?hb; case hb => (first | omega | (simp; done) | (simp; omega))) | (with_reducible refine Blk.far ?_ ?hb _; case hb => (first | omega | (simp; done) | (simp; omega))) | fail))) h4 (by (first | omega | (simp; done) | (simp; omega)))
  have I_4 : Blk w4 (w2.heap.size) 28 #[.int .i64 cum, .slice AI n cI] := Blk.below (by (repeat' (first | (with_reducible exact I_3) | (with_reducible refine Blk.drewN ?_ _) | (with_reducible refine Blk.drew ?_) | (with_reducible refine Blk.new1 ?hb; case hb => (first | omega | (simp; done) | (simp; omega))) | (with_reducible refine Blk.alloc ?_ _) | (with_reducible refine' Blk.set2_0 ?_ ?hb; case hb => (first | omega | (simp; done) | (simp; omega))) | (with_reducible refine' Blk.set2_1 ?_ ?hb; case hb => (first | omega | (simp; done) | (simp; omega))) | (with_reducible refine' Blk.set3_0 ?_ ?hb; case hb => (first | omega | (simp; done) | (simp; omega))) | (with_reducible refine' Blk.set3_1 ?_ ?hb; case hb => (first | omega | (simp; done) | (simp; omega))) | (with_reducible refine' Blk.set3_2 ?_ ?hb; case hb => (first | omega | (simp; done) | (simp; omega))) | (with_reducible refine' Blk.set4_0 ?_ ?hb; case hb => (first | omega | (simp; done) | (simp; omega))) | (with_reducible refine' Blk.set4_1 ?_ ?hb; case hb => (first | omega | (simp; done) | (simp; omega))) | (with_reducible refine' Blk.set4_2 ?_ ?hb; case hb => (first | omega | (simp; done) | (simp; omega))) | (with_reducible refine' Blk.set4_3 ?_ ?hb; case hb => (first | omega | (simp; done) | (simp; omega))) | (with_reducible refine' Blk.set7_0 ?_ ?hb; case hb => (first | omega | (simp; done) | (simp; omega))) | (with_reducible refine' Blk.set7_1 ?_ ?hb; case hb => (first | omega | (simp; done) | (simp; omega))) | (with_reducible refine' Blk.set7_2 ?_ ?hb; case hb => (first | omega | (simp; done) | (simp; omega))) | (with_reducible refine' Blk.set7_3 ?_ ?hb; case hb => (first | omega | (simp; done) | (simp; omega))) | (with_reducible refine' Blk.set7_4 ?_ ?hb; case hb => (first | omega | (simp; done) | (simp; omega))) | (with_reducible refine' Blk.set7_5 ?_ ?hb; case hb => (first | omega | (simp; done) | (simp; omega))) | (with_reducible refine' Blk.set7_6 ?_ ?hb; case hb => (first | omega | (simp; done) | (simp; omega))) | (with_reducible refine Blk.far ?_ ?hb _; case hb => (first | omega | (simp; done) | (simp; omega))) | fail))) h4 (by (first | omega | (simp; done) | (simp; omega)))
  have W_4 : Blk w4 (w3.heap.size) 28 #[.int .i64 cum, .slice AW n cW] := Blk.below (by (repeat' (first | (with_reducible refine Blk.drewN ?_ _) | (with_reducible refine Blk.drew ?_) | (with_reducible refine Blk.new1 ?hb; case hb => (first | omega | (simp; done) | (simp; omega))) | (with_reducible refine Blk.alloc ?_ _) | (with_reducible refine' Blk.set2_0 ?_ ?hb; case hb => (first | omega | (simp; done) | (simp; omega))) | (with_reducible refine' Blk.set2_1 ?_ ?hb; case hb => (first | omega | (simp; done) | (simp; omega))) | (with_reducible refine' Blk.set3_0 ?_ ?hb; case hb => (first | omega | (simp; done) | (simp; omega))) | (with_reducible refine' Blk.set3_1 ?_ ?hb; case hb => (first | omega | (simp; done) | (simp; omega))) | (with_reducible refine' Blk.set3_2 ?_ ?hb; case hb => (first | omega | (simp; done) | (simp; omega))) | (with_reducible refine' Blk.set4_0 ?_ ?hb; case hb => (first | omega | (simp; done) | (simp; omega))) | (with_reducible refine' Blk.set4_1 ?_ ?hb; case hb => (first | omega | (simp; done) | (simp; omega))) | (with_reducible refine' Blk.set4_2 ?_ ?hb; case hb => (first | omega | (simp; done) | (simp; omega))) | (with_reducible refine' Blk.set4_3 ?_ ?hb; case hb => (first | omega | (simp; done) | (simp; omega))) | (with_reducible refine' Blk.set7_0 ?_ ?hb; case hb => (first | omega | (simp; done) | (simp; omega))) | (with_reducible refine' Blk.set7_1 ?_ ?hb; case hb => (first | omega | (simp; done) | (simp; omega))) | (with_reducible refine' Blk.set7_2 ?_ ?hb; case hb => (first | omega | (simp; done) | (simp; omega))) | (with_reducible refine' Blk.set7_3 ?_ ?hb; case hb => (first | omega | (simp; done) | (simp; omega))) | (with_reducible refine' Blk.set7_4 ?_ ?hb; case hb => (first | omega | (simp; done) | (simp; omega))) | (with_reducible refine' Blk.set7_5 ?_ ?hb; case hb => (first | omega | (simp; done) | (simp; omega))) | (with_reducible refine' Blk.set7_6 ?_ ?hb; case hb => (first | omega | (simp; done) | (simp; omega))) | (with_reducible refine Blk.far ?_ ?hb _; case hb => (first | omega | (simp; done) | (simp; omega))) | fail))) h4 (by (first | omega | (simp; done) | (simp; omega)))
  have GI_4 : Gaps w4 w2.heap.size AI n xs := Gaps.below (by (repeat' (first | (with_reducible exact GI_3) | with_reducible refine Gaps.alloc ?_ ?_ _ | with_reducible refine Gaps.setCell ?_ ?_ _ | with_reducible refine Gaps.drew ?_ | with_reducible refine Gaps.drewN ?_ _ | omega | (simp; done) | (simp; omega)))) h4 (by (first | omega | (simp; done) | (simp; omega)))
  have GI_z4 : w2.heap.size ≤ w4.heap.size := by have := h4.size; first | omega | (simp at this; omega)
  have GW_4 : Gaps w4 w3.heap.size AW n xs := Gaps.below (by (repeat' (first | (with_reducible exact GW_3) | with_reducible refine Gaps.alloc ?_ ?_ _ | with_reducible refine Gaps.setCell ?_ ?_ _ | with_reducible refine Gaps.drew ?_ | with_reducible refine Gaps.drewN ?_ _ | omega | (simp; done) | (simp; omega)))) h4 (by (first | omega | (simp; done) | (simp; omega)))
  have GW_z4 : w3.heap.size ≤ w4.heap.size := by have := h4.size; first | omega | (simp at this; omega)
  have B4 := Lib.hid (below_step (B := w.heap.size) (w0 := w) (by (repeat' (first | with_reducible exact B3.out | with_reducible exact Below.refl _ _ | with_reducible refine below_drew1 ?_ | with_reducible refine below_drewN ?_ _ | with_reducible refine Below.alloc ?_ ?_ _ | with_reducible refine Below.setCell ?_ ?_ _ | omega | (simp; done) | (simp; omega)))) (by have := B3.out.size; (first | omega | (simp; done) | (simp; omega))) h4)
  have z4 : w.heap.size ≤ w4.heap.size := B4.out.size
  have y4 : w3.heap.size ≤ w4.heap.size := by have := h4.size; first | omega | (simp at this; omega)
  clear h4 B3 z3 X_3 I_3 GI_3 GI_z3 GW_3 GW_z3 y3
  try clear X_l X_0_ X_1_ X_2_ X_l1_ X_l2_ X_l3_ X_l4_ I_l I_0_ I_1_ I_l1_ I_l2_ I_l3_ I_l4_
  obtain ⟨⟨X_0_, X_1_, X_2_⟩, X_f0_, X_f1_, X_f2_⟩ := X_4.get3n
  have X_l := X_4.lt
  have X_l1_ : w1.heap.size < w4.heap.size + 1 := by omega
  have X_l2_ : w1.heap.size < w4.heap.size + 2 := by omega
  have X_l3_ : w1.heap.size < w4.heap.size + 3 := by omega
  have X_l4_ : w1.heap.size < w4.heap.size + 4 := by omega
  obtain ⟨⟨I_0_, I_1_⟩, I_f0_, I_f1_⟩ := I_4.get2n
  have I_l := I_4.lt
  have I_l1_ : w2.heap.size < w4.heap.size + 1 := by omega
  have I_l2_ : w2.heap.size < w4.heap.size + 2 := by omega
  have I_l3_ : w2.heap.size < w4.heap.size + 3 := by omega
  have I_l4_ : w2.heap.size < w4.heap.size + 4 := by omega
  obtain ⟨⟨W_0_, W_1_⟩, W_f0_, W_f1_⟩ := W_4.get2n
  have W_l := W_4.lt
  have W_l1_ : w3.heap.size < w4.heap.size + 1 := by omega
  have W_l2_ : w3.heap.size < w4.heap.size + 2 := by omega
  have W_l3_ : w3.heap.size < w4.heap.size + 3 := by omega
  have W_l4_ : w3.heap.size < w4.heap.size + 4 := by omega
  cases ok with
  | false =>
    go_wp2_with fail
    refine (c_sameSack cum AI AW n cI cW xs w4.heap.size _ (GI_4.more (by omega)) (GW_4.more (by omega)) (Nat.le_refl _) (by unfold maxLen; omega)).mono ?_
    rintro e w5 ⟨rfl, h5⟩
    have B5 := Lib.hid (below_step B4.out B4.out.size h5)
    clear h5
    go_wp2
    go_ret
    exact ⟨rfl, by (repeat' (first | with_reducible exact B5.out | with_reducible exact Below.refl _ _ | with_reducible refine below_drew1 ?_ | with_reducible refine below_drewN ?_ _ | with_reducible refine Below.alloc ?_ ?_ _ | with_reducible refine Below.setCell ?_ ?_ _ | omega | (simp; done) | (simp; omega)))⟩
  | true =>
    obtain ⟨rfl, rfl, -, hok, hbd⟩ := HOK.out rfl
    have hsp : spK cum xs = 3 ∧ spS cum xs = s := by unfold spK spS; rw [hok]; exact ⟨rfl, hbd⟩
    have cp := fun W h1 h2 => c_SackPut cum AI n cI xs w2.heap.size W h1 h2 (by unfold maxLen; omega)
    rw [hsp.1, hsp.2, hok] at cp
    have CP := Lib.hid cp
    clear cp hsp hok hbd HOK
    go_wp2_with fail
    refine (CP.out _ (by (repeat' (first | (with_reducible exact GI_4) | with_reducible refine Gaps.alloc ?_ ?_ _ | with_reducible refine Gaps.setCell ?_ ?_ _ | with_reducible refine Gaps.drew ?_ | with_reducible refine Gaps.drewN ?_ _ | omega | (simp; done) | (simp; omega)))) (by first | omega | (simp; done) | (simp; omega))).mono ?_
    rintro e w5 ⟨rfl, h5⟩
    have X_5 : Blk w5 (w1.heap.size) 24 #[.int .i64 3, .int .i64 0, .string s] := Blk.below (by (repeat' (first | (with_reducible exact X_4) | (with_reducible refine Blk.drewN ?_ _) | (with_reducible refine Blk.drew ?_) | (with_reducible refine Blk.new1 ?hb; case hb => (first | omega | (simp; done) | (simp; omega))) | (with_reducible refine Blk.alloc ?_ _) | (with_reducible refine' Blk.set2_0 ?_ ?hb; case hb => (first | omega | (simp; done) | (simp; omega))) | (with_reducible refine' Blk.set2_1 ?_ ?hb; case hb => (first | omega | (simp; done) | (simp; omega))) | (with_reducible refine' Blk.set3_0 ?_ ?hb; case hb => (first | omega | (simp; done) | (simp; omega))) | (with_reducible refine' Blk.set3_1 ?_ ?hb; case hb => (first | omega | (simp; done) | (simp; omega))) | (with_reducible refine' Blk.set3_2 ?_ ?hb; case hb => (first | omega | (simp; done) | (simp; omega))) | (with_reducible refine' Blk.set4_0 ?_ ?hb; case hb => (first | omega | (simp; done) | (simp; omega))) | (with_reducible refine' Blk.set4_1 ?_ ?hb; case hb => (first | omega | (simp; done) | (simp; omega))) | (with_reducible refine' Blk.set4_2 ?_ ?hb; case hb => (first | omega | (simp; done) | (simp; omega))) | (with_reducible refine' Blk.set4_3 ?_ ?hb; case hb => (first | omega | (simp; done) | (simp; omega))) | (with_reducible refine' Blk.set7_0 ?_ ?hb; case hb => (first | omega | (simp; done) | (simp; omega))) | (with_reducible refine' Blk.set7_1 ?_ ?hb; case hb => (first | omega | (simp; done) | (simp; omega))) | (with_reducible refine' Blk.set7_2 ?_ ?hb; case hb => (first | omega | (simp; done) | (simp; omega))) | (with_reducible refine' Blk.set7_3 ?_ ?hb; case hb => (first | omega | (simp; done) | (simp; omega))) | (with_reducible refine' Blk.set7_4 ?_ ?hb; case hb => (first | omega | (simp; done) | (simp; omega))) | (with_reducible refine' Blk.set7_5 ?_ ?hb; case hb => (first | omega | (simp; done) | (simp; omega))) | (with_reducible refine' Blk.set7_6 ?_ ?hb; case hb => (first | omega | (simp; done) | (simp; omega))) | (with_reducible refine Blk.far ?_ ?hb _; case hb => (first | omega | (simp; done) | (simp; omega))) | fail))) h5 (by (first | omega | (simp; done) | (simp; omega)))
    have I_5 : Blk w5 (w2.heap.size) 28 #[.int .i64 cum, .slice AI n cI] := Blk.below (by (repeat' (first | (with_reducible exact I_4) | (with_reducible refine Blk.drewN ?_ _) | (with_reducible refine Blk.drew ?_) | (with_reducible refine Blk.new1 ?hb; case hb => (first | omega | (simp; done) | (simp; omega))) | (with_reducible refine Blk.alloc ?_ _) | (with_reducible refine' Blk.set2_0 ?_ ?hb; case hb => (first | omega | (simp; done) | (simp; omega))) | (with_reducible refine' Blk.set2_1 ?_ ?hb; case hb => (first | omega | (simp; done) | (simp; omega))) | (with_reducible refine' Blk.set3_0 ?_ ?hb; case hb => (first | omega | (simp; done) | (simp; omega))) | (with_reducible refine' Blk.set3_1 ?_ ?hb; case hb => (first | omega | (simp; done) | (simp; omega))) | (with_reducible refine' Blk.set3_2 ?_ ?hb; case hb => (first | omega | (simp; done) | (simp; omega))) | (with_reducible refine' Blk.set4_0 ?_ ?hb; case hb => (first | omega | (simp; done) | (simp; omega))) | (with_reducible refine' Blk.set4_1 ?_ ?hb; case hb => (first | omega | (simp; done) | (simp; omega))) | (with_reducible refine' Blk.set4_2 ?_ ?hb; case hb => (first | omega | (simp; done) | (simp; omega))) | (with_reducible refine' Blk.set4_3 ?_ ?hb; case hb => (first | omega | (simp; done) | (simp; omega))) | (with_reducible refine' Blk.set7_0 ?_ ?hb; case hb => (first | omega | (simp; done) | (simp; omega))) | (with_reducible refine' Blk.set7_1 ?_ ?hb; case hb => (first | omega | (simp; done) | (simp; omega))) | (with_reducible refine' Blk.set7_2 ?_ ?hb; case hb => (first | omega | (simp; done) | (simp; omega))) | (with_reducible refine' Blk.set7_3 ?_ ?hb; case hb => (first | omega | (simp; done) | (simp; omega))) | (with_reducible refine' Blk.set7_4 ?_ ?hb; case hb => (first | omega | (simp; done) | (simp; omega))) | (with_reducible refine' Blk.set7_5 ?_ ?hb; case hb => (first | omega | (simp; done) | (simp; omega))) | (with_reducible refine' Blk.set7_6 ?_ ?hb; case hb => (first | omega | (simp; done) | (simp; omega))) | (with_reducible refine Blk.far ?_ ?hb _; case hb => (first | omega | (simp; done) | (simp; omega))) | fail))) h5 (by (first | omega | (simp; done) | (simp; omega)))
    have W_5 : Blk w5 (w3.heap.size) 28 #[.int .i64 cum, .slice AW n cW] := Blk.below (by (repeat' (first | (with_reducible exact W_4) | (with_reducible refine Blk.drewN ?_ _) | (with_reducible refine Blk.drew ?_) | (with_reducible refine Blk.new1 ?hb; case hb => (first | omega | (simp; done) | (simp; omega))) | (with_reducible refine Blk.alloc ?_ _) | (with_reducible refine' Blk.set2_0 ?_ ?hb; case hb => (first | omega | (simp; done) | (simp; omega))) | (with_reducible refine' Blk.set2_1 ?_ ?hb; case hb => (first | omega | (simp; done) | (simp; omega))) | (with_reducible refine' Blk.set3_0 ?_ ?hb; case hb => (first | omega | (simp; done) | (simp; omega))) | (with_reducible refine' Blk.set3_1 ?_ ?hb; case hb => (first | omega | (simp; done) | (simp; omega))) | (with_reducible refine' Blk.set3_2 ?_ ?hb; case hb => (first | omega | (simp; done) | (simp; omega))) | (with_reducible refine' Blk.set4_0 ?_ ?hb; case hb => (first | omega | (simp; done) | (simp; omega))) | (with_reducible refine' Blk.set4_1 ?_ ?hb; case hb => (first | omega | (simp; done) | (simp; omega))) | (with_reducible refine' Blk.set4_2 ?_ ?hb; case hb => (first | omega | (simp; done) | (simp; omega))) | (with_reducible refine' Blk.set4_3 ?_ ?hb; case hb => (first | omega | (simp; done) | (simp; omega))) | (with_reducible refine' Blk.set7_0 ?_ ?hb; case hb => (first | omega | (simp; done) | (simp; omega))) | (with_reducible refine' Blk.set7_1 ?_ ?hb; case hb => (first | omega | (simp; done) | (simp; omega))) | (with_reducible refine' Blk.set7_2 ?_ ?hb; case hb => (first | omega | (simp; done) | (simp; omega))) | (with_reducible refine' Blk.set7_3 ?_ ?hb; case hb => (first | omega | (simp; done) | (simp; omega))) | (with_reducible refine' Blk.set7_4 ?_ ?hb; case hb => (first | omega | (simp; done) | (simp; omega))) | (with_reducible refine' Blk.set7_5 ?_ ?hb; case hb => (first | omega | (simp; done) | (simp; omega))) | (with_reducible refine' Blk.set7_6 ?_ ?hb; case hb => (first | omega | (simp; done) | (simp; omega))) | (with_reducible refine Blk.far ?_ ?hb _; case hb => (first | omega | (simp; done) | (simp; omega))) | fail))) h5 (by (first | omega | (simp; done) | (simp; omega)))
    have GI_5 : Gaps w5 w2.heap.size AI n xs := Gaps.below (by (repeat' (first | (with_reducible exact GI_4) | with_reducible refine Gaps.alloc ?_ ?_ _ | with_reducible refine Gaps.setCell ?_ ?_ _ | with_reducible refine Gaps.drew ?_ | with_reducible refine Gaps.drewN ?_ _ | omega | (simp; done) | (simp; omega)))) h5 (by (first | omega | (simp; done) | (simp; omega)))
    have GI_z5 : w2.heap.size ≤ w5.heap.size := by have := h5.size; first | omega | (simp at this; omega)
    have GW_5 : Gaps w5 w3.heap.size AW n xs := Gaps.below (by (repeat' (first | (with_reducible exact GW_4) | with_reducible refine Gaps.alloc ?_ ?_ _ | with_reducible refine Gaps.setCell ?_ ?_ _ | with_reducible refine Gaps.drew ?_ | with_reducible refine Gaps.drewN ?_ _ | omega | (simp; done) | (simp; omega)))) h5 (by (first | omega | (simp; done) | (simp; omega)))
    have GW_z5 : w3.heap.size ≤ w5.heap.size := by have := h5.size; first | omega | (simp at this; omega)
    have B5 := Lib.hid (below_step (B := w.heap.size) (w0 := w) (by (repeat' (first | with_reducible exact B4.out | with_reducible exact Below.refl _ _ | with_reducible refine below_drew1 ?_ | with_reducible refine below_drewN ?_ _ | with_reducible refine Below.alloc ?_ ?_ _ | with_reducible refine Below.setCell ?_ ?_ _ | omega | (simp; done) | (simp; omega)))) (by have := B4.out.size; (first | omega | (simp; done) | (simp; omega))) h5)
    have z5 : w.heap.size ≤ w5.heap.size := B5.out.size
    have y5 : w4.heap.size ≤ w5.heap.size := by have := h5.size; first | omega | (simp at this; omega)
    clear h5 B4 z4 X_4 I_4 W_4 GI_4 GI_z4 GW_4 GW_z4 y4
    try clear X_l X_0_ X_1_ X_2_ X_l1_ X_l2_ X_l3_ X_l4_ I_l I_0_ I_1_ I_l1_ I_l2_ I_l3_ I_l4_ W_l W_0_ W_1_ W_l1_ W_l2_ W_l3_ W_l4_
    obtain ⟨⟨X_0_, X_1_, X_2_⟩, X_f0_, X_f1_, X_f2_⟩ := X_5.get3n
    have X_l := X_5.lt
    have X_l1_ : w1.heap.size < w5.heap.size + 1 := by omega
    have X_l2_ : w1.heap.size < w5.heap.size + 2 := by omega
    have X_l3_ : w1.heap.size < w5.heap.size + 3 := by omega
    have X_l4_ : w1.heap.size < w5.heap.size + 4 := by omega
    obtain ⟨⟨I_0_, I_1_⟩, I_f0_, I_f1_⟩ := I_5.get2n
    have I_l := I_5.lt
    have I_l1_ : w2.heap.size < w5.heap.size + 1 := by omega
    have I_l2_ : w2.heap.size < w5.heap.size + 2 := by omega
    have I_l3_ : w2.heap.size < w5.heap.size + 3 := by omega
    have I_l4_ : w2.heap.size < w5.heap.size + 4 := by omega
    obtain ⟨⟨W_0_, W_1_⟩, W_f0_, W_f1_⟩ := W_5.get2n
    have W_l := W_5.lt
    have W_l1_ : w3.heap.size < w5.heap.size + 1 := by omega
    have W_l2_ : w3.heap.size < w5.heap.size + 2 := by omega
    have W_l3_ : w3.heap.size < w5.heap.size + 3 := by omega
    have W_l4_ : w3.heap.size < w5.heap.size + 4 := by omega
    go_wp2
    go_ret
    exact ⟨rfl, by (repeat' (first | with_reducible exact B5.out | with_reducible exact Below.refl _ _ | with_reducible refine below_drew1 ?_ | with_reducible refine below_drewN ?_ _ | with_reducible refine Below.alloc ?_ ?_ _ | with_reducible refine Below.setCell ?_ ?_ _ | omega | (simp; done) | (simp; omega)))⟩

/-! ### The row's step -/
theorem own : ownKnob Try.prog.godebug = none := by kernel_rfl
theorem laidOut : laidOutB Try.prog = true := by kernel_rfl
set_option maxRecDepth 100000 in
theorem lifted (os : Os) (started : os.Started) (H : Type) (enc : TypeId × Value → H) :
    ReturnsInHanded {} Try.checked os 3 .any (Rows.fnSackGetSpec.pre6 enc Try.prog Try.f3 Rows.fnSackGetRow.domain false) (Rows.fnSackGetSpec.post enc Try.prog Try.f3 false true false false) := by
  refine returnsInHanded_of_change (C := Try.checked) own started (by kernel_rfl) Try.func3
    (ChangeSpec.witness6 (enc := enc) (C := Try.checked) false ⟨#[], #[.slice none 0 0], []⟩ 8 (by kernel_rfl) (by kernel_rfl) (by kernel_rfl) (by kernel_rfl)) ?_
  intro W base args ds gs before hval0 hW hcnd _
  have hval : ∀ (j : Nat) t v, Try.f3.params[j]? = some t → args[j]? = some v → Value.okWide Try.prog W .any base t v := hval0
  have hW' := hW
  obtain ⟨p, q, hA0, hV, rfl, hfz, hnd⟩ := hW
  have hA : DataW.TrodAll enc Try.prog W 0 (fun _ => true) true Try.f3.params.toList args.toList ds p := hA0
  rw [Try.params3] at hA hval
  obtain ⟨v0, vs0, d0, ds0, p0, q0, hargs, rfl, rfl, h0, r0⟩ := trodAll_cons hA
  obtain ⟨rfl, rfl, rfl⟩ := trodAll_nil r0
  obtain rfl : args = #[v0] := by cases args; simp_all
  obtain ⟨rfl, rfl⟩ := trodVars_none hV
  have k0 := h0
  have lt0 : ∀ x ∈ p0, x.block < W.heap.size := by obtain ⟨m, hm⟩ := k0; exact DataW.trod_lt m _ _ _ hm
  obtain ⟨a0, n0, c0, rfl⟩ := okWide_slice Try.underlying22 (hval 0 22 v0 rfl rfl)
  have w0 : Code W a0 n0 c0 := by obtain ⟨fuel, hf⟩ := h0; exact code_of Try.underlying22 Try.underlying5 (by kernel_rfl) hf
  clear hA0 hval0
  refine (walk a0 n0 c0 W w0).mono fun e W' ⟨he, bel⟩ => ?_
  subst he
  exact ⟨_, rfl, _, _, _, [], _, [], hW', trodAll_mk1 (shut_bool Try.underlying4 _), (trodAll_cons_mk (Below.trod laidOut (by kernel_rfl) (of_decide_eq_true (by kernel_rfl)) k0 bel lt0) trodAll_mk0), rfl, bel.frame _, fun h => by cases h⟩

theorem over : Rows.fnSackGetRow.holds Try.pinned (OpenSpec.ofChange Rows.fnSackGetSpec) :=
  OpenClaim.holds_of_wide 3 Try.f3 rfl rfl rfl rfl rfl rfl rfl ⟨rfl, rfl, rfl, rfl, rfl⟩ rfl rfl rfl rfl rfl (by kernel_rfl) Try.func3 (by kernel_rfl)
    (of_decide_eq_true (by kernel_rfl)) (by unfold Func.isWrapper; first | (rw [if_pos (by decide +kernel)]; kernel_rfl) | (rw [if_neg (by decide +kernel)]; exact ⟨rfl, rfl⟩))
    (fun os started H enc _ => lifted os started H enc)

/-- The statement. -/
theorem proved : Rows.FnSackGetSaid := over
#print axioms proved
end Go.Proofs.Ytokjdnfohbabgaa.fnSackGet
