/-
  Other chunks are no parts: another kind, other flags, no text: for every code. No condition.
-/
import Derived.Test.YtegjbhngkhdcfaaDrawPart
import Derived.Test.YtegjbhngkhdcfaaSDataGet
import Derived.Test.YtegjbhngkhdcfaaDataBack
import Derived.Test.YtegjbhngkhdcfaaOpen
namespace Go.Proofs.Ytegjbhngkhdcfaa.fnDataKind
open Go.ChangeShapes Go.WideShapes Go.ChangeAt Go.RowKit
open Go.ChangeMaps (open_string shut_string)
set_option linter.unusedVariables false
set_option linter.unusedSimpArgs false
set_option maxRecDepth 100000 in
set_option maxHeartbeats 4000000 in
theorem walk (a0 : Option Addr) (n0 c0 : Nat) (w : World) (w0 : Code w a0 n0 c0) :
    Calls Try.prog 14 #[.slice a0 n0 c0] w fun e w' => e = .returned (.bool true) ∧ Below w.heap.size w w' := by
  have hc := w0.2.1
  unfold maxLen at hc
  have hn := w0.1
  by_cases hbig : 1048576 < n0
  · go_enter Try.func14, Try.ntmps14
    go_wp2
    go_ret
    exact ⟨rfl, Below.refl _ _⟩
  have hq : ∀ b : Bool, (b != b) = false := fun b => by simp
  have hq2 : ∀ b : Bool, (b == b) = true := fun b => by simp
  have hq3 : ∀ b : Int, (b != b) = false := fun b => by simp
  have hq4 : ∀ b : Int, (b == b) = true := fun b => by simp
  have B0 := Lib.hid (Below.refl w.heap.size w)
  go_enter Try.func14, Try.ntmps14
  go_wp2_with fail
  refine (c_DrawDataGet a0 n0 c0 _ w0).mono ?_
  rintro e w1 ⟨k, f, s, rfl, hk0, hk1, hf0, hf1, hss, h1⟩
  have B1 := Lib.hid (below_step (B := w.heap.size) (w0 := w) (by (repeat' (first | with_reducible exact B0.out | with_reducible exact Below.refl _ _ | with_reducible refine below_drew1 ?_ | with_reducible refine below_drewN ?_ _ | with_reducible refine Below.alloc ?_ ?_ _ | with_reducible refine Below.setCell ?_ ?_ _ | omega | (simp; done) | (simp; omega)))) (by have := B0.out.size; (first | omega | (simp; done) | (simp; omega))) h1)
  have z1 : w.heap.size ≤ w1.heap.size := B1.out.size
  clear h1 B0
  have hs : (s.toList == s.toList) = true := by simp
  have hs0 : ((⟨#[]⟩ : ByteArray).toList == (⟨#[]⟩ : ByteArray).toList) = true := by simp
  have ci := fun W => c_DataGet k f s W (by omega)
  have cs := fun W => c_sDataGet k f s W (by omega)
  cases hok : dgOk k f s with
  | false =>
    rw [dgV_no hok] at ci cs
    unfold dataNo at ci cs
    have CI := Lib.hid ci
    have CS := Lib.hid cs
    clear ci cs hok
    go_wp2_with fail
    refine (CI.out _).mono ?_
    rintro e w2 ⟨rfl, h2⟩
    have X_2 : Blk w2 (w1.heap.size) 24 #[.int .i64 k, .int .i64 f, .string s] := Blk.below (by (repeat' (first | (with_reducible refine Blk.drewN ?_ _) | (with_reducible refine Blk.drew ?_) | (with_reducible refine Blk.new1 ?hb; case hb => (first | omega | (simp; done) | (simp; omega))) | (with_reducible refine Blk.alloc ?_ _) | (with_reducible refine' Blk.set3_0 ?_ ?hb; case hb => (first | omega | (simp; done) | (simp; omega))) | (with_reducible refine' Blk.set3_1 ?_ ?hb; case hb => (first | omega | (simp; done) | (simp; omega))) | (with_reducible refine' Blk.set3_2 ?_ ?hb; case hb => (first | omega | (simp; done) | (simp; omega))) | (with_reducible refine' Blk.set4_0 ?_ ?hb; case hb => (first | omega | (simp; done) | (simp; omega))) | (with_reducible refine' Blk.set4_1 ?_ ?hb; case hb => (first | omega | (simp; done) | (simp; omega))) | (with_reducible refine' Blk.set4_2 ?_ ?hb; case hb => (first | omega | (simp; done) | (simp; omega))) | (with_reducible refine' Blk.set4_3 ?_ ?hb; case hb => (first | omega | (simp; done) | (simp; omega))) | (with_reducible refine' Blk.set7_0 ?_ ?hb; case hb => (first | omega | (simp; done) | (simp; omega))) | (with_reducible refine' Blk.set7_1 ?_ ?hb; case hb => (first | omega | (simp; done) | (simp; omega))) | (with_reducible refine' Blk.set7_2 ?_ ?hb; case hb => (first | omega | (simp; done) | (simp; omega))) | (with_reducible refine' Blk.set7_3 ?_ ?hb; case hb => (first | omega | (simp; done) | (simp; omega))) | (with_reducible refine' Blk.set7_4 ?_ ?hb; case hb => (first | omega | (simp; done) | (simp; omega))) | (with_reducible refine' Blk.set7_5 ?_ ?hb; case hb => (first | omega | (simp; done) | (simp; omega))) | (with_reducible refine' Blk.set7_6 ?_ ?hb; case hb => (first | omega | (simp; done) | (simp; omega))) | (with_reducible refine Blk.far ?_ ?hb _; case hb => (first | omega | (simp; done) | (simp; omega))) | fail))) h2 (by (first | omega | (simp; done) | (simp; omega)))
    have B2 := Lib.hid (below_step (B := w.heap.size) (w0 := w) (by (repeat' (first | with_reducible exact B1.out | with_reducible exact Below.refl _ _ | with_reducible refine below_drew1 ?_ | with_reducible refine below_drewN ?_ _ | with_reducible refine Below.alloc ?_ ?_ _ | with_reducible refine Below.setCell ?_ ?_ _ | omega | (simp; done) | (simp; omega)))) (by have := B1.out.size; (first | omega | (simp; done) | (simp; omega))) h2)
    have z2 : w.heap.size ≤ w2.heap.size := B2.out.size
    clear h2 B1 z1
    obtain ⟨⟨X_0_, X_1_, X_2_⟩, X_f0_, X_f1_, X_f2_⟩ := X_2.get3n
    have X_l := X_2.lt
    have X_l1_ : w1.heap.size < w2.heap.size + 1 := by omega
    have X_l2_ : w1.heap.size < w2.heap.size + 2 := by omega
    have X_l3_ : w1.heap.size < w2.heap.size + 3 := by omega
    have X_l4_ : w1.heap.size < w2.heap.size + 4 := by omega
    go_wp2_with fail
    refine (CS.out _).mono ?_
    rintro e w3 ⟨rfl, h3⟩
    have X_3 : Blk w3 (w1.heap.size) 24 #[.int .i64 k, .int .i64 f, .string s] := Blk.below (by (repeat' (first | (with_reducible exact X_2) | (with_reducible refine Blk.drewN ?_ _) | (with_reducible refine Blk.drew ?_) | (with_reducible refine Blk.new1 ?hb; case hb => (first | omega | (simp; done) | (simp; omega))) | (with_reducible refine Blk.alloc ?_ _) | (with_reducible refine' Blk.set3_0 ?_ ?hb; case hb => (first | omega | (simp; done) | (simp; omega))) | (with_reducible refine' Blk.set3_1 ?_ ?hb; case hb => (first | omega | (simp; done) | (simp; omega))) | (with_reducible refine' Blk.set3_2 ?_ ?hb; case hb => (first | omega | (simp; done) | (simp; omega))) | (with_reducible refine' Blk.set4_0 ?_ ?hb; case hb => (first | omega | (simp; done) | (simp; omega))) | (with_reducible refine' Blk.set4_1 ?_ ?hb; case hb => (first | omega | (simp; done) | (simp; omega))) | (with_reducible refine' Blk.set4_2 ?_ ?hb; case hb => (first | omega | (simp; done) | (simp; omega))) | (with_reducible refine' Blk.set4_3 ?_ ?hb; case hb => (first | omega | (simp; done) | (simp; omega))) | (with_reducible refine' Blk.set7_0 ?_ ?hb; case hb => (first | omega | (simp; done) | (simp; omega))) | (with_reducible refine' Blk.set7_1 ?_ ?hb; case hb => (first | omega | (simp; done) | (simp; omega))) | (with_reducible refine' Blk.set7_2 ?_ ?hb; case hb => (first | omega | (simp; done) | (simp; omega))) | (with_reducible refine' Blk.set7_3 ?_ ?hb; case hb => (first | omega | (simp; done) | (simp; omega))) | (with_reducible refine' Blk.set7_4 ?_ ?hb; case hb => (first | omega | (simp; done) | (simp; omega))) | (with_reducible refine' Blk.set7_5 ?_ ?hb; case hb => (first | omega | (simp; done) | (simp; omega))) | (with_reducible refine' Blk.set7_6 ?_ ?hb; case hb => (first | omega | (simp; done) | (simp; omega))) | (with_reducible refine Blk.far ?_ ?hb _; case hb => (first | omega | (simp; done) | (simp; omega))) | fail))) h3 (by (first | omega | (simp; done) | (simp; omega)))
    have O_3 : Blk w3 (w2.heap.size) 43 #[.int .i64 0, .int .i64 0, .int .i64 0, .bool false, .bool false, .bool false, .string ⟨#[]⟩] := Blk.below (by (repeat' (first | (with_reducible refine Blk.drewN ?_ _) | (with_reducible refine Blk.drew ?_) | (with_reducible refine Blk.new1 ?hb; case hb => (first | omega | (simp; done) | (simp; omega))) | (with_reducible refine Blk.alloc ?_ _) | (with_reducible refine' Blk.set3_0 ?_ ?hb; case hb => (first | omega | (simp; done) | (simp; omega))) | (with_reducible refine' Blk.set3_1 ?_ ?hb; case hb => (first | omega | (simp; done) | (simp; omega))) | (with_reducible refine' Blk.set3_2 ?_ ?hb; case hb => (first | omega | (simp; done) | (simp; omega))) | (with_reducible refine' Blk.set4_0 ?_ ?hb; case hb => (first | omega | (simp; done) | (simp; omega))) | (with_reducible refine' Blk.set4_1 ?_ ?hb; case hb => (first | omega | (simp; done) | (simp; omega))) | (with_reducible refine' Blk.set4_2 ?_ ?hb; case hb => (first | omega | (simp; done) | (simp; omega))) | (with_reducible refine' Blk.set4_3 ?_ ?hb; case hb => (first | omega | (simp; done) | (simp; omega))) | (with_reducible refine' Blk.set7_0 ?_ ?hb; case hb => (first | omega | (simp; done) | (simp; omega))) | (with_reducible refine' Blk.set7_1 ?_ ?hb; case hb => (first | omega | (simp; done) | (simp; omega))) | (with_reducible refine' Blk.set7_2 ?_ ?hb; case hb => (first | omega | (simp; done) | (simp; omega))) | (with_reducible refine' Blk.set7_3 ?_ ?hb; case hb => (first | omega | (simp; done) | (simp; omega))) | (with_reducible refine' Blk.set7_4 ?_ ?hb; case hb => (first | omega | (simp; done) | (simp; omega))) | (with_reducible refine' Blk.set7_5 ?_ ?hb; case hb => (first | omega | (simp; done) | (simp; omega))) | (with_reducible refine' Blk.set7_6 ?_ ?hb; case hb => (first | omega | (simp; done) | (simp; omega))) | (with_reducible refine Blk.far ?_ ?hb _; case hb => (first | omega | (simp; done) | (simp; omega))) | fail))) h3 (by (first | omega | (simp; done) | (simp; omega)))
    have B3 := Lib.hid (below_step (B := w.heap.size) (w0 := w) (by (repeat' (first | with_reducible exact B2.out | with_reducible exact Below.refl _ _ | with_reducible refine below_drew1 ?_ | with_reducible refine below_drewN ?_ _ | with_reducible refine Below.alloc ?_ ?_ _ | with_reducible refine Below.setCell ?_ ?_ _ | omega | (simp; done) | (simp; omega)))) (by have := B2.out.size; (first | omega | (simp; done) | (simp; omega))) h3)
    have z3 : w.heap.size ≤ w3.heap.size := B3.out.size
    clear h3 B2 z2 X_2
    try clear X_l X_0_ X_1_ X_2_ X_l1_ X_l2_ X_l3_ X_l4_
    obtain ⟨⟨X_0_, X_1_, X_2_⟩, X_f0_, X_f1_, X_f2_⟩ := X_3.get3n
    have X_l := X_3.lt
    have X_l1_ : w1.heap.size < w3.heap.size + 1 := by omega
    have X_l2_ : w1.heap.size < w3.heap.size + 2 := by omega
    have X_l3_ : w1.heap.size < w3.heap.size + 3 := by omega
    have X_l4_ : w1.heap.size < w3.heap.size + 4 := by omega
    obtain ⟨⟨O_0_, O_1_, O_2_, O_3_, O_4_, O_5_, O_6_⟩, O_f0_, O_f1_, O_f2_, O_f3_, O_f4_, O_f5_, O_f6_⟩ := O_3.get7
    have O_l := O_3.lt
    have O_l1_ : w2.heap.size < w3.heap.size + 1 := by omega
    have O_l2_ : w2.heap.size < w3.heap.size + 2 := by omega
    have O_l3_ : w2.heap.size < w3.heap.size + 3 := by omega
    have O_l4_ : w2.heap.size < w3.heap.size + 4 := by omega
    go_wp2
    go_ret
    exact ⟨rfl, by (repeat' (first | with_reducible exact B3.out | with_reducible exact Below.refl _ _ | with_reducible refine below_drew1 ?_ | with_reducible refine below_drewN ?_ _ | with_reducible refine Below.alloc ?_ ?_ _ | with_reducible refine Below.setCell ?_ ?_ _ | omega | (simp; done) | (simp; omega)))⟩
  | true =>
    rw [dgV_yes hok] at ci cs
    unfold dgYes at ci cs
    obtain ⟨rfl, hf2, hf3, hsz, hin⟩ := dgOk_yes hok
    have hfl := flags_forth f hf2 hf3
    have hts : ((s.extract 6 s.size).toList == (s.extract 6 s.size).toList) = true := by simp
    have hfo := dg_forth s hin hsz
    have cp := fun F L O W => c_DataPut_yes (wdAt s 0) (wdAt s 2) (wdAt s 4) F L O (s.extract 6 s.size) W hin
    unfold dataYes at cp
    rw [hfo] at cp
    clear hfo hin hok
    generalize s.extract 6 s.size = t at *
    generalize wdAt s 0 = a at *
    generalize wdAt s 2 = b at *
    generalize wdAt s 4 = c at *
    generalize fF f = F at *
    generalize fL f = L at *
    generalize fO f = O at *
    have CI := Lib.hid ci
    have CS := Lib.hid cs
    have CP := Lib.hid cp
    have HF := Lib.hid hfl
    clear ci cs cp hfl
    go_wp2_with fail
    refine (CI.out _).mono ?_
    rintro e w2 ⟨rfl, h2⟩
    have X_2 : Blk w2 (w1.heap.size) 24 #[.int .i64 0, .int .i64 f, .string s] := Blk.below (by (repeat' (first | (with_reducible refine Blk.drewN ?_ _) | (with_reducible refine Blk.drew ?_) | (with_reducible refine Blk.new1 ?hb; case hb => (first | omega | (simp; done) | (simp; omega))) | (with_reducible refine Blk.alloc ?_ _) | (with_reducible refine' Blk.set3_0 ?_ ?hb; case hb => (first | omega | (simp; done) | (simp; omega))) | (with_reducible refine' Blk.set3_1 ?_ ?hb; case hb => (first | omega | (simp; done) | (simp; omega))) | (with_reducible refine' Blk.set3_2 ?_ ?hb; case hb => (first | omega | (simp; done) | (simp; omega))) | (with_reducible refine' Blk.set4_0 ?_ ?hb; case hb => (first | omega | (simp; done) | (simp; omega))) | (with_reducible refine' Blk.set4_1 ?_ ?hb; case hb => (first | omega | (simp; done) | (simp; omega))) | (with_reducible refine' Blk.set4_2 ?_ ?hb; case hb => (first | omega | (simp; done) | (simp; omega))) | (with_reducible refine' Blk.set4_3 ?_ ?hb; case hb => (first | omega | (simp; done) | (simp; omega))) | (with_reducible refine' Blk.set7_0 ?_ ?hb; case hb => (first | omega | (simp; done) | (simp; omega))) | (with_reducible refine' Blk.set7_1 ?_ ?hb; case hb => (first | omega | (simp; done) | (simp; omega))) | (with_reducible refine' Blk.set7_2 ?_ ?hb; case hb => (first | omega | (simp; done) | (simp; omega))) | (with_reducible refine' Blk.set7_3 ?_ ?hb; case hb => (first | omega | (simp; done) | (simp; omega))) | (with_reducible refine' Blk.set7_4 ?_ ?hb; case hb => (first | omega | (simp; done) | (simp; omega))) | (with_reducible refine' Blk.set7_5 ?_ ?hb; case hb => (first | omega | (simp; done) | (simp; omega))) | (with_reducible refine' Blk.set7_6 ?_ ?hb; case hb => (first | omega | (simp; done) | (simp; omega))) | (with_reducible refine Blk.far ?_ ?hb _; case hb => (first | omega | (simp; done) | (simp; omega))) | fail))) h2 (by (first | omega | (simp; done) | (simp; omega)))
    have B2 := Lib.hid (below_step (B := w.heap.size) (w0 := w) (by (repeat' (first | with_reducible exact B1.out | with_reducible exact Below.refl _ _ | with_reducible refine below_drew1 ?_ | with_reducible refine below_drewN ?_ _ | with_reducible refine Below.alloc ?_ ?_ _ | with_reducible refine Below.setCell ?_ ?_ _ | omega | (simp; done) | (simp; omega)))) (by have := B1.out.size; (first | omega | (simp; done) | (simp; omega))) h2)
    have z2 : w.heap.size ≤ w2.heap.size := B2.out.size
    clear h2 B1 z1
    obtain ⟨⟨X_0_, X_1_, X_2_⟩, X_f0_, X_f1_, X_f2_⟩ := X_2.get3n
    have X_l := X_2.lt
    have X_l1_ : w1.heap.size < w2.heap.size + 1 := by omega
    have X_l2_ : w1.heap.size < w2.heap.size + 2 := by omega
    have X_l3_ : w1.heap.size < w2.heap.size + 3 := by omega
    have X_l4_ : w1.heap.size < w2.heap.size + 4 := by omega
    go_wp2_with fail
    refine (CS.out _).mono ?_
    rintro e w3 ⟨rfl, h3⟩
    have X_3 : Blk w3 (w1.heap.size) 24 #[.int .i64 0, .int .i64 f, .string s] := Blk.below (by (repeat' (first | (with_reducible exact X_2) | (with_reducible refine Blk.drewN ?_ _) | (with_reducible refine Blk.drew ?_) | (with_reducible refine Blk.new1 ?hb; case hb => (first | omega | (simp; done) | (simp; omega))) | (with_reducible refine Blk.alloc ?_ _) | (with_reducible refine' Blk.set3_0 ?_ ?hb; case hb => (first | omega | (simp; done) | (simp; omega))) | (with_reducible refine' Blk.set3_1 ?_ ?hb; case hb => (first | omega | (simp; done) | (simp; omega))) | (with_reducible refine' Blk.set3_2 ?_ ?hb; case hb => (first | omega | (simp; done) | (simp; omega))) | (with_reducible refine' Blk.set4_0 ?_ ?hb; case hb => (first | omega | (simp; done) | (simp; omega))) | (with_reducible refine' Blk.set4_1 ?_ ?hb; case hb => (first | omega | (simp; done) | (simp; omega))) | (with_reducible refine' Blk.set4_2 ?_ ?hb; case hb => (first | omega | (simp; done) | (simp; omega))) | (with_reducible refine' Blk.set4_3 ?_ ?hb; case hb => (first | omega | (simp; done) | (simp; omega))) | (with_reducible refine' Blk.set7_0 ?_ ?hb; case hb => (first | omega | (simp; done) | (simp; omega))) | (with_reducible refine' Blk.set7_1 ?_ ?hb; case hb => (first | omega | (simp; done) | (simp; omega))) | (with_reducible refine' Blk.set7_2 ?_ ?hb; case hb => (first | omega | (simp; done) | (simp; omega))) | (with_reducible refine' Blk.set7_3 ?_ ?hb; case hb => (first | omega | (simp; done) | (simp; omega))) | (with_reducible refine' Blk.set7_4 ?_ ?hb; case hb => (first | omega | (simp; done) | (simp; omega))) | (with_reducible refine' Blk.set7_5 ?_ ?hb; case hb => (first | omega | (simp; done) | (simp; omega))) | (with_reducible refine' Blk.set7_6 ?_ ?hb; case hb => (first | omega | (simp; done) | (simp; omega))) | (with_reducible refine Blk.far ?_ ?hb _; case hb => (first | omega | (simp; done) | (simp; omega))) | fail))) h3 (by (first | omega | (simp; done) | (simp; omega)))
    have O_3 : Blk w3 (w2.heap.size) 43 #[.int .i64 a, .int .i64 b, .int .i64 c, .bool F, .bool L, .bool O, .string t] := Blk.below (by (repeat' (first | (with_reducible refine Blk.drewN ?_ _) | (with_reducible refine Blk.drew ?_) | (with_reducible refine Blk.new1 ?hb; case hb => (first | omega | (simp; done) | (simp; omega))) | (with_reducible refine Blk.alloc ?_ _) | (with_reducible refine' Blk.set3_0 ?_ ?hb; case hb => (first | omega | (simp; done) | (simp; omega))) | (with_reducible refine' Blk.set3_1 ?_ ?hb; case hb => (first | omega | (simp; done) | (simp; omega))) | (with_reducible refine' Blk.set3_2 ?_ ?hb; case hb => (first | omega | (simp; done) | (simp; omega))) | (with_reducible refine' Blk.set4_0 ?_ ?hb; case hb => (first | omega | (simp; done) | (simp; omega))) | (with_reducible refine' Blk.set4_1 ?_ ?hb; case hb => (first | omega | (simp; done) | (simp; omega))) | (with_reducible refine' Blk.set4_2 ?_ ?hb; case hb => (first | omega | (simp; done) | (simp; omega))) | (with_reducible refine' Blk.set4_3 ?_ ?hb; case hb => (first | omega | (simp; done) | (simp; omega))) | (with_reducible refine' Blk.set7_0 ?_ ?hb; case hb => (first | omega | (simp; done) | (simp; omega))) | (with_reducible refine' Blk.set7_1 ?_ ?hb; case hb => (first | omega | (simp; done) | (simp; omega))) | (with_reducible refine' Blk.set7_2 ?_ ?hb; case hb => (first | omega | (simp; done) | (simp; omega))) | (with_reducible refine' Blk.set7_3 ?_ ?hb; case hb => (first | omega | (simp; done) | (simp; omega))) | (with_reducible refine' Blk.set7_4 ?_ ?hb; case hb => (first | omega | (simp; done) | (simp; omega))) | (with_reducible refine' Blk.set7_5 ?_ ?hb; case hb => (first | omega | (simp; done) | (simp; omega))) | (with_reducible refine' Blk.set7_6 ?_ ?hb; case hb => (first | omega | (simp; done) | (simp; omega))) | (with_reducible refine Blk.far ?_ ?hb _; case hb => (first | omega | (simp; done) | (simp; omega))) | fail))) h3 (by (first | omega | (simp; done) | (simp; omega)))
    have B3 := Lib.hid (below_step (B := w.heap.size) (w0 := w) (by (repeat' (first | with_reducible exact B2.out | with_reducible exact Below.refl _ _ | with_reducible refine below_drew1 ?_ | with_reducible refine below_drewN ?_ _ | with_reducible refine Below.alloc ?_ ?_ _ | with_reducible refine Below.setCell ?_ ?_ _ | omega | (simp; done) | (simp; omega)))) (by have := B2.out.size; (first | omega | (simp; done) | (simp; omega))) h3)
    have z3 : w.heap.size ≤ w3.heap.size := B3.out.size
    clear h3 B2 z2 X_2
    try clear X_l X_0_ X_1_ X_2_ X_l1_ X_l2_ X_l3_ X_l4_
    obtain ⟨⟨X_0_, X_1_, X_2_⟩, X_f0_, X_f1_, X_f2_⟩ := X_3.get3n
    have X_l := X_3.lt
    have X_l1_ : w1.heap.size < w3.heap.size + 1 := by omega
    have X_l2_ : w1.heap.size < w3.heap.size + 2 := by omega
    have X_l3_ : w1.heap.size < w3.heap.size + 3 := by omega
    have X_l4_ : w1.heap.size < w3.heap.size + 4 := by omega
    obtain ⟨⟨O_0_, O_1_, O_2_, O_3_, O_4_, O_5_, O_6_⟩, O_f0_, O_f1_, O_f2_, O_f3_, O_f4_, O_f5_, O_f6_⟩ := O_3.get7
    have O_l := O_3.lt
    have O_l1_ : w2.heap.size < w3.heap.size + 1 := by omega
    have O_l2_ : w2.heap.size < w3.heap.size + 2 := by omega
    have O_l3_ : w2.heap.size < w3.heap.size + 3 := by omega
    have O_l4_ : w2.heap.size < w3.heap.size + 4 := by omega
    have hno : ∀ (k f : Int) (t : ByteArray), t.size ≤ 2000000 → dgOk k f t = false → ∀ W : World, Calls Try.prog 28 #[.agg #[.int .i64 k, .int .i64 f, .string t]] W fun e w' => e = .returned (.tuple #[.agg #[.int .i64 0, .int .i64 0, .int .i64 0, .bool false, .bool false, .bool false, .string ⟨#[]⟩], .bool false]) ∧ Below W.heap.size W w' := fun k f t ht hh W => by
      have h := c_DataGet k f t W ht
      rw [dgV_no hh] at h
      exact h
    have hx6 : (s.extract 0 6).size = 6 := by rw [ByteArray.size_extract]; omega
    have hn1 := hno 3 f s (by omega) (dgOk_kind (by omega))
    have hn2 := hno 0 (f + 8) s (by omega) (dgOk_flags (by omega))
    have hn3 := hno 0 f (s.extract 0 6) (by omega) (dgOk_short hx6)
    have HN := Lib.hid (And.intro hn1 (And.intro hn2 hn3))
    have q6 : (6 : Int) ≤ (s.size : Int) := by omega
    clear hno hn1 hn2 hn3 hx6
    go_wp2_with fail
    refine (HN.out.1 _).mono ?_
    rintro e w4 ⟨rfl, h4⟩
    have X1_4 : Blk w4 (w3.heap.size + 1) 24 #[.int .i64 3, .int .i64 f, .string s] := Blk.below (by (repeat' (first | (with_reducible refine Blk.drewN ?_ _) | (with_reducible refine Blk.drew ?_) | (with_reducible refine Blk.new1 ?hb; case hb => (first | omega | (simp; done) | (simp; omega))) | (with_reducible refine Blk.alloc ?_ _) | (with_reducible refine' Blk.set3_0 ?_ ?hb; case hb => (first | omega | (simp; done) | (simp; omega))) | (with_reducible refine' Blk.set3_1 ?_ ?hb; case hb => (first | omega | (simp; done) | (simp; omega))) | (with_reducible refine' Blk.set3_2 ?_ ?hb; case hb => (first | omega | (simp; done) | (simp; omega))) | (with_reducible refine' Blk.set4_0 ?_ ?hb; case hb => (first | omega | (simp; done) | (simp; omega))) | (with_reducible refine' Blk.set4_1 ?_ ?hb; case hb => (first | omega | (simp; done) | (simp; omega))) | (with_reducible refine' Blk.set4_2 ?_ ?hb; case hb => (first | omega | (simp; done) | (simp; omega))) | (with_reducible refine' Blk.set4_3 ?_ ?hb; case hb => (first | omega | (simp; done) | (simp; omega))) | (with_reducible refine' Blk.set7_0 ?_ ?hb; case hb => (first | omega | (simp; done) | (simp; omega))) | (with_reducible refine' Blk.set7_1 ?_ ?hb; case hb => (first | omega | (simp; done) | (simp; omega))) | (with_reducible refine' Blk.set7_2 ?_ ?hb; case hb => (first | omega | (simp; done) | (simp; omega))) | (with_reducible refine' Blk.set7_3 ?_ ?hb; case hb => (first | omega | (simp; done) | (simp; omega))) | (with_reducible refine' Blk.set7_4 ?_ ?hb; case hb => (first | omega | (simp; done) | (simp; omega))) | (with_reducible refine' Blk.set7_5 ?_ ?hb; case hb => (first | omega | (simp; done) | (simp; omega))) | (with_reducible refine' Blk.set7_6 ?_ ?hb; case hb => (first | omega | (simp; done) | (simp; omega))) | (with_reducible refine Blk.far ?_ ?hb _; case hb => (first | omega | (simp; done) | (simp; omega))) | fail))) h4 (by (first | omega | (simp; done) | (simp; omega)))
    have X2_4 : Blk w4 (w3.heap.size + 2) 24 #[.int .i64 0, .int .i64 (f + 8), .string s] := Blk.below (by (repeat' (first | (with_reducible refine Blk.drewN ?_ _) | (with_reducible refine Blk.drew ?_) | (with_reducible refine Blk.new1 ?hb; case hb => (first | omega | (simp; done) | (simp; omega))) | (with_reducible refine Blk.alloc ?_ _) | (with_reducible refine' Blk.set3_0 ?_ ?hb; case hb => (first | omega | (simp; done) | (simp; omega))) | (with_reducible refine' Blk.set3_1 ?_ ?hb; case hb => (first | omega | (simp; done) | (simp; omega))) | (with_reducible refine' Blk.set3_2 ?_ ?hb; case hb => (first | omega | (simp; done) | (simp; omega))) | (with_reducible refine' Blk.set4_0 ?_ ?hb; case hb => (first | omega | (simp; done) | (simp; omega))) | (with_reducible refine' Blk.set4_1 ?_ ?hb; case hb => (first | omega | (simp; done) | (simp; omega))) | (with_reducible refine' Blk.set4_2 ?_ ?hb; case hb => (first | omega | (simp; done) | (simp; omega))) | (with_reducible refine' Blk.set4_3 ?_ ?hb; case hb => (first | omega | (simp; done) | (simp; omega))) | (with_reducible refine' Blk.set7_0 ?_ ?hb; case hb => (first | omega | (simp; done) | (simp; omega))) | (with_reducible refine' Blk.set7_1 ?_ ?hb; case hb => (first | omega | (simp; done) | (simp; omega))) | (with_reducible refine' Blk.set7_2 ?_ ?hb; case hb => (first | omega | (simp; done) | (simp; omega))) | (with_reducible refine' Blk.set7_3 ?_ ?hb; case hb => (first | omega | (simp; done) | (simp; omega))) | (with_reducible refine' Blk.set7_4 ?_ ?hb; case hb => (first | omega | (simp; done) | (simp; omega))) | (with_reducible refine' Blk.set7_5 ?_ ?hb; case hb => (first | omega | (simp; done) | (simp; omega))) | (with_reducible refine' Blk.set7_6 ?_ ?hb; case hb => (first | omega | (simp; done) | (simp; omega))) | (with_reducible refine Blk.far ?_ ?hb _; case hb => (first | omega | (simp; done) | (simp; omega))) | fail))) h4 (by (first | omega | (simp; done) | (simp; omega)))
    have X3_4 : Blk w4 (w3.heap.size + 3) 24 #[.int .i64 0, .int .i64 f, .string (s.extract 0 6)] := Blk.below (by (repeat' (first | (with_reducible refine Blk.drewN ?_ _) | (with_reducible refine Blk.drew ?_) | (with_reducible refine Blk.new1 ?hb; case hb => (first | omega | (simp; done) | (simp; omega))) | (with_reducible refine Blk.alloc ?_ _) | (with_reducible refine' Blk.set3_0 ?_ ?hb; case hb => (first | omega | (simp; done) | (simp; omega))) | (with_reducible refine' Blk.set3_1 ?_ ?hb; case hb => (first | omega | (simp; done) | (simp; omega))) | (with_reducible refine' Blk.set3_2 ?_ ?hb; case hb => (first | omega | (simp; done) | (simp; omega))) | (with_reducible refine' Blk.set4_0 ?_ ?hb; case hb => (first | omega | (simp; done) | (simp; omega))) | (with_reducible refine' Blk.set4_1 ?_ ?hb; case hb => (first | omega | (simp; done) | (simp; omega))) | (with_reducible refine' Blk.set4_2 ?_ ?hb; case hb => (first | omega | (simp; done) | (simp; omega))) | (with_reducible refine' Blk.set4_3 ?_ ?hb; case hb => (first | omega | (simp; done) | (simp; omega))) | (with_reducible refine' Blk.set7_0 ?_ ?hb; case hb => (first | omega | (simp; done) | (simp; omega))) | (with_reducible refine' Blk.set7_1 ?_ ?hb; case hb => (first | omega | (simp; done) | (simp; omega))) | (with_reducible refine' Blk.set7_2 ?_ ?hb; case hb => (first | omega | (simp; done) | (simp; omega))) | (with_reducible refine' Blk.set7_3 ?_ ?hb; case hb => (first | omega | (simp; done) | (simp; omega))) | (with_reducible refine' Blk.set7_4 ?_ ?hb; case hb => (first | omega | (simp; done) | (simp; omega))) | (with_reducible refine' Blk.set7_5 ?_ ?hb; case hb => (first | omega | (simp; done) | (simp; omega))) | (with_reducible refine' Blk.set7_6 ?_ ?hb; case hb => (first | omega | (simp; done) | (simp; omega))) | (with_reducible refine Blk.far ?_ ?hb _; case hb => (first | omega | (simp; done) | (simp; omega))) | fail))) h4 (by (first | omega | (simp; done) | (simp; omega)))
    have B4 := Lib.hid (below_step (B := w.heap.size) (w0 := w) (by (repeat' (first | with_reducible exact B3.out | with_reducible exact Below.refl _ _ | with_reducible refine below_drew1 ?_ | with_reducible refine below_drewN ?_ _ | with_reducible refine Below.alloc ?_ ?_ _ | with_reducible refine Below.setCell ?_ ?_ _ | omega | (simp; done) | (simp; omega)))) (by have := B3.out.size; (first | omega | (simp; done) | (simp; omega))) h4)
    have z4 : w.heap.size ≤ w4.heap.size := B4.out.size
    clear h4 B3 z3
    obtain ⟨⟨X1_0_, X1_1_, X1_2_⟩, X1_f0_, X1_f1_, X1_f2_⟩ := X1_4.get3n
    have X1_l := X1_4.lt
    have X1_l0_ : w3.heap.size < w4.heap.size + 0 := by omega
    have X1_l1_ : w3.heap.size < w4.heap.size + 1 := by omega
    have X1_l2_ : w3.heap.size < w4.heap.size + 2 := by omega
    have X1_l3_ : w3.heap.size < w4.heap.size + 3 := by omega
    have X1_l4_ : w3.heap.size < w4.heap.size + 4 := by omega
    obtain ⟨⟨X2_0_, X2_1_, X2_2_⟩, X2_f0_, X2_f1_, X2_f2_⟩ := X2_4.get3n
    have X2_l := X2_4.lt
    have X2_l0_ : w3.heap.size < w4.heap.size + 0 := by omega
    have X2_l1_ : w3.heap.size < w4.heap.size + 1 := by omega
    have X2_l2_ : w3.heap.size < w4.heap.size + 2 := by omega
    have X2_l3_ : w3.heap.size < w4.heap.size + 3 := by omega
    have X2_l4_ : w3.heap.size < w4.heap.size + 4 := by omega
    obtain ⟨⟨X3_0_, X3_1_, X3_2_⟩, X3_f0_, X3_f1_, X3_f2_⟩ := X3_4.get3n
    have X3_l := X3_4.lt
    have X3_l0_ : w3.heap.size < w4.heap.size + 0 := by omega
    have X3_l1_ : w3.heap.size < w4.heap.size + 1 := by omega
    have X3_l2_ : w3.heap.size < w4.heap.size + 2 := by omega
    have X3_l3_ : w3.heap.size < w4.heap.size + 3 := by omega
    have X3_l4_ : w3.heap.size < w4.heap.size + 4 := by omega
    go_wp2_with fail
    refine (HN.out.2.1 _).mono ?_
    rintro e w5 ⟨rfl, h5⟩
    have X1_5 : Blk w5 (w3.heap.size + 1) 24 #[.int .i64 3, .int .i64 f, .string s] := Blk.below (by (repeat' (first | (with_reducible exact X1_4) | (with_reducible refine Blk.drewN ?_ _) | (with_reducible refine Blk.drew ?_) | (with_reducible refine Blk.new1 ?hb; case hb => (first | omega | (simp; done) | (simp; omega))) | (with_reducible refine Blk.alloc ?_ _) | (with_reducible refine' Blk.set3_0 ?_ ?hb; case hb => (first | omega | (simp; done) | (simp; omega))) | (with_reducible refine' Blk.set3_1 ?_ ?hb; case hb => (first | omega | (simp; done) | (simp; omega))) | (with_reducible refine' Blk.set3_2 ?_ ?hb; case hb => (first | omega | (simp; done) | (simp; omega))) | (with_reducible refine' Blk.set4_0 ?_ ?hb; case hb => (first | omega | (simp; done) | (simp; omega))) | (with_reducible refine' Blk.set4_1 ?_ ?hb; case hb => (first | omega | (simp; done) | (simp; omega))) | (with_reducible refine' Blk.set4_2 ?_ ?hb; case hb => (first | omega | (simp; done) | (simp; omega))) | (with_reducible refine' Blk.set4_3 ?_ ?hb; case hb => (first | omega | (simp; done) | (simp; omega))) | (with_reducible refine' Blk.set7_0 ?_ ?hb; case hb => (first | omega | (simp; done) | (simp; omega))) | (with_reducible refine' Blk.set7_1 ?_ ?hb; case hb => (first | omega | (simp; done) | (simp; omega))) | (with_reducible refine' Blk.set7_2 ?_ ?hb; case hb => (first | omega | (simp; done) | (simp; omega))) | (with_reducible refine' Blk.set7_3 ?_ ?hb; case hb => (first | omega | (simp; done) | (simp; omega))) | (with_reducible refine' Blk.set7_4 ?_ ?hb; case hb => (first | omega | (simp; done) | (simp; omega))) | (with_reducible refine' Blk.set7_5 ?_ ?hb; case hb => (first | omega | (simp; done) | (simp; omega))) | (with_reducible refine' Blk.set7_6 ?_ ?hb; case hb => (first | omega | (simp; done) | (simp; omega))) | (with_reducible refine Blk.far ?_ ?hb _; case hb => (first | omega | (simp; done) | (simp; omega))) | fail))) h5 (by (first | omega | (simp; done) | (simp; omega)))
    have X2_5 : Blk w5 (w3.heap.size + 2) 24 #[.int .i64 0, .int .i64 (f + 8), .string s] := Blk.below (by (repeat' (first | (with_reducible exact X2_4) | (with_reducible refine Blk.drewN ?_ _) | (with_reducible refine Blk.drew ?_) | (with_reducible refine Blk.new1 ?hb; case hb => (first | omega | (simp; done) | (simp; omega))) | (with_reducible refine Blk.alloc ?_ _) | (with_reducible refine' Blk.set3_0 ?_ ?hb; case hb => (first | omega | (simp; done) | (simp; omega))) | (with_reducible refine' Blk.set3_1 ?_ ?hb; case hb => (first | omega | (simp; done) | (simp; omega))) | (with_reducible refine' Blk.set3_2 ?_ ?hb; case hb => (first | omega | (simp; done) | (simp; omega))) | (with_reducible refine' Blk.set4_0 ?_ ?hb; case hb => (first | omega | (simp; done) | (simp; omega))) | (with_reducible refine' Blk.set4_1 ?_ ?hb; case hb => (first | omega | (simp; done) | (simp; omega))) | (with_reducible refine' Blk.set4_2 ?_ ?hb; case hb => (first | omega | (simp; done) | (simp; omega))) | (with_reducible refine' Blk.set4_3 ?_ ?hb; case hb => (first | omega | (simp; done) | (simp; omega))) | (with_reducible refine' Blk.set7_0 ?_ ?hb; case hb => (first | omega | (simp; done) | (simp; omega))) | (with_reducible refine' Blk.set7_1 ?_ ?hb; case hb => (first | omega | (simp; done) | (simp; omega))) | (with_reducible refine' Blk.set7_2 ?_ ?hb; case hb => (first | omega | (simp; done) | (simp; omega))) | (with_reducible refine' Blk.set7_3 ?_ ?hb; case hb => (first | omega | (simp; done) | (simp; omega))) | (with_reducible refine' Blk.set7_4 ?_ ?hb; case hb => (first | omega | (simp; done) | (simp; omega))) | (with_reducible refine' Blk.set7_5 ?_ ?hb; case hb => (first | omega | (simp; done) | (simp; omega))) | (with_reducible refine' Blk.set7_6 ?_ ?hb; case hb => (first | omega | (simp; done) | (simp; omega))) | (with_reducible refine Blk.far ?_ ?hb _; case hb => (first | omega | (simp; done) | (simp; omega))) | fail))) h5 (by (first | omega | (simp; done) | (simp; omega)))
    have X3_5 : Blk w5 (w3.heap.size + 3) 24 #[.int .i64 0, .int .i64 f, .string (s.extract 0 6)] := Blk.below (by (repeat' (first | (with_reducible exact X3_4) | (with_reducible refine Blk.drewN ?_ _) | (with_reducible refine Blk.drew ?_) | (with_reducible refine Blk.new1 ?hb; case hb => (first | omega | (simp; done) | (simp; omega))) | (with_reducible refine Blk.alloc ?_ _) | (with_reducible refine' Blk.set3_0 ?_ ?hb; case hb => (first | omega | (simp; done) | (simp; omega))) | (with_reducible refine' Blk.set3_1 ?_ ?hb; case hb => (first | omega | (simp; done) | (simp; omega))) | (with_reducible refine' Blk.set3_2 ?_ ?hb; case hb => (first | omega | (simp; done) | (simp; omega))) | (with_reducible refine' Blk.set4_0 ?_ ?hb; case hb => (first | omega | (simp; done) | (simp; omega))) | (with_reducible refine' Blk.set4_1 ?_ ?hb; case hb => (first | omega | (simp; done) | (simp; omega))) | (with_reducible refine' Blk.set4_2 ?_ ?hb; case hb => (first | omega | (simp; done) | (simp; omega))) | (with_reducible refine' Blk.set4_3 ?_ ?hb; case hb => (first | omega | (simp; done) | (simp; omega))) | (with_reducible refine' Blk.set7_0 ?_ ?hb; case hb => (first | omega | (simp; done) | (simp; omega))) | (with_reducible refine' Blk.set7_1 ?_ ?hb; case hb => (first | omega | (simp; done) | (simp; omega))) | (with_reducible refine' Blk.set7_2 ?_ ?hb; case hb => (first | omega | (simp; done) | (simp; omega))) | (with_reducible refine' Blk.set7_3 ?_ ?hb; case hb => (first | omega | (simp; done) | (simp; omega))) | (with_reducible refine' Blk.set7_4 ?_ ?hb; case hb => (first | omega | (simp; done) | (simp; omega))) | (with_reducible refine' Blk.set7_5 ?_ ?hb; case hb => (first | omega | (simp; done) | (simp; omega))) | (with_reducible refine' Blk.set7_6 ?_ ?hb; case hb => (first | omega | (simp; done) | (simp; omega))) | (with_reducible refine Blk.far ?_ ?hb _; case hb => (first | omega | (simp; done) | (simp; omega))) | fail))) h5 (by (first | omega | (simp; done) | (simp; omega)))
    have B5 := Lib.hid (below_step (B := w.heap.size) (w0 := w) (by (repeat' (first | with_reducible exact B4.out | with_reducible exact Below.refl _ _ | with_reducible refine below_drew1 ?_ | with_reducible refine below_drewN ?_ _ | with_reducible refine Below.alloc ?_ ?_ _ | with_reducible refine Below.setCell ?_ ?_ _ | omega | (simp; done) | (simp; omega)))) (by have := B4.out.size; (first | omega | (simp; done) | (simp; omega))) h5)
    have z5 : w.heap.size ≤ w5.heap.size := B5.out.size
    clear h5 B4 z4 X1_4 X2_4 X3_4
    try clear X1_l X1_0_ X1_1_ X1_2_ X1_l0_ X1_l1_ X1_l2_ X1_l3_ X1_l4_ X2_l X2_0_ X2_1_ X2_2_ X2_l0_ X2_l1_ X2_l2_ X2_l3_ X2_l4_ X3_l X3_0_ X3_1_ X3_2_ X3_l0_ X3_l1_ X3_l2_ X3_l3_ X3_l4_
    obtain ⟨⟨X1_0_, X1_1_, X1_2_⟩, X1_f0_, X1_f1_, X1_f2_⟩ := X1_5.get3n
    have X1_l := X1_5.lt
    have X1_l0_ : w3.heap.size < w5.heap.size + 0 := by omega
    have X1_l1_ : w3.heap.size < w5.heap.size + 1 := by omega
    have X1_l2_ : w3.heap.size < w5.heap.size + 2 := by omega
    have X1_l3_ : w3.heap.size < w5.heap.size + 3 := by omega
    have X1_l4_ : w3.heap.size < w5.heap.size + 4 := by omega
    obtain ⟨⟨X2_0_, X2_1_, X2_2_⟩, X2_f0_, X2_f1_, X2_f2_⟩ := X2_5.get3n
    have X2_l := X2_5.lt
    have X2_l0_ : w3.heap.size < w5.heap.size + 0 := by omega
    have X2_l1_ : w3.heap.size < w5.heap.size + 1 := by omega
    have X2_l2_ : w3.heap.size < w5.heap.size + 2 := by omega
    have X2_l3_ : w3.heap.size < w5.heap.size + 3 := by omega
    have X2_l4_ : w3.heap.size < w5.heap.size + 4 := by omega
    obtain ⟨⟨X3_0_, X3_1_, X3_2_⟩, X3_f0_, X3_f1_, X3_f2_⟩ := X3_5.get3n
    have X3_l := X3_5.lt
    have X3_l0_ : w3.heap.size < w5.heap.size + 0 := by omega
    have X3_l1_ : w3.heap.size < w5.heap.size + 1 := by omega
    have X3_l2_ : w3.heap.size < w5.heap.size + 2 := by omega
    have X3_l3_ : w3.heap.size < w5.heap.size + 3 := by omega
    have X3_l4_ : w3.heap.size < w5.heap.size + 4 := by omega
    go_wp2_with fail
    refine (HN.out.2.2 _).mono ?_
    rintro e w6 ⟨rfl, h6⟩
    have X1_6 : Blk w6 (w3.heap.size + 1) 24 #[.int .i64 3, .int .i64 f, .string s] := Blk.below (by (repeat' (first | (with_reducible exact X1_5) | (with_reducible refine Blk.drewN ?_ _) | (with_reducible refine Blk.drew ?_) | (with_reducible refine Blk.new1 ?hb; case hb => (first | omega | (simp; done) | (simp; omega))) | (with_reducible refine Blk.alloc ?_ _) | (with_reducible refine' Blk.set3_0 ?_ ?hb; case hb => (first | omega | (simp; done) | (simp; omega))) | (with_reducible refine' Blk.set3_1 ?_ ?hb; case hb => (first | omega | (simp; done) | (simp; omega))) | (with_reducible refine' Blk.set3_2 ?_ ?hb; case hb => (first | omega | (simp; done) | (simp; omega))) | (with_reducible refine' Blk.set4_0 ?_ ?hb; case hb => (first | omega | (simp; done) | (simp; omega))) | (with_reducible refine' Blk.set4_1 ?_ ?hb; case hb => (first | omega | (simp; done) | (simp; omega))) | (with_reducible refine' Blk.set4_2 ?_ ?hb; case hb => (first | omega | (simp; done) | (simp; omega))) | (with_reducible refine' Blk.set4_3 ?_ ?hb; case hb => (first | omega | (simp; done) | (simp; omega))) | (with_reducible refine' Blk.set7_0 ?_ ?hb; case hb => (first | omega | (simp; done) | (simp; omega))) | (with_reducible refine' Blk.set7_1 ?_ ?hb; case hb => (first | omega | (simp; done) | (simp; omega))) | (with_reducible refine' Blk.set7_2 ?_ ?hb; case hb => (first | omega | (simp; done) | (simp; omega))) | (with_reducible refine' Blk.set7_3 ?_ ?hb; case hb => (first | omega | (simp; done) | (simp; omega))) | (with_reducible refine' Blk.set7_4 ?_ ?hb; case hb => (first | omega | (simp; done) | (simp; omega))) | (with_reducible refine' Blk.set7_5 ?_ ?hb; case hb => (first | omega | (simp; done) | (simp; omega))) | (with_reducible refine' Blk.set7_6 ?_ ?hb; case hb => (first | omega | (simp; done) | (simp; omega))) | (with_reducible refine Blk.far ?_ ?hb _; case hb => (first | omega | (simp; done) | (simp; omega))) | fail))) h6 (by (first | omega | (simp; done) | (simp; omega)))
    have X2_6 : Blk w6 (w3.heap.size + 2) 24 #[.int .i64 0, .int .i64 (f + 8), .string s] := Blk.below (by (repeat' (first | (with_reducible exact X2_5) | (with_reducible refine Blk.drewN ?_ _) | (with_reducible refine Blk.drew ?_) | (with_reducible refine Blk.new1 ?hb; case hb => (first | omega | (simp; done) | (simp; omega))) | (with_reducible refine Blk.alloc ?_ _) | (with_reducible refine' Blk.set3_0 ?_ ?hb; case hb => (first | omega | (simp; done) | (simp; omega))) | (with_reducible refine' Blk.set3_1 ?_ ?hb; case hb => (first | omega | (simp; done) | (simp; omega))) | (with_reducible refine' Blk.set3_2 ?_ ?hb; case hb => (first | omega | (simp; done) | (simp; omega))) | (with_reducible refine' Blk.set4_0 ?_ ?hb; case hb => (first | omega | (simp; done) | (simp; omega))) | (with_reducible refine' Blk.set4_1 ?_ ?hb; case hb => (first | omega | (simp; done) | (simp; omega))) | (with_reducible refine' Blk.set4_2 ?_ ?hb; case hb => (first | omega | (simp; done) | (simp; omega))) | (with_reducible refine' Blk.set4_3 ?_ ?hb; case hb => (first | omega | (simp; done) | (simp; omega))) | (with_reducible refine' Blk.set7_0 ?_ ?hb; case hb => (first | omega | (simp; done) | (simp; omega))) | (with_reducible refine' Blk.set7_1 ?_ ?hb; case hb => (first | omega | (simp; done) | (simp; omega))) | (with_reducible refine' Blk.set7_2 ?_ ?hb; case hb => (first | omega | (simp; done) | (simp; omega))) | (with_reducible refine' Blk.set7_3 ?_ ?hb; case hb => (first | omega | (simp; done) | (simp; omega))) | (with_reducible refine' Blk.set7_4 ?_ ?hb; case hb => (first | omega | (simp; done) | (simp; omega))) | (with_reducible refine' Blk.set7_5 ?_ ?hb; case hb => (first | omega | (simp; done) | (simp; omega))) | (with_reducible refine' Blk.set7_6 ?_ ?hb; case hb => (first | omega | (simp; done) | (simp; omega))) | (with_reducible refine Blk.far ?_ ?hb _; case hb => (first | omega | (simp; done) | (simp; omega))) | fail))) h6 (by (first | omega | (simp; done) | (simp; omega)))
    have X3_6 : Blk w6 (w3.heap.size + 3) 24 #[.int .i64 0, .int .i64 f, .string (s.extract 0 6)] := Blk.below (by (repeat' (first | (with_reducible exact X3_5) | (with_reducible refine Blk.drewN ?_ _) | (with_reducible refine Blk.drew ?_) | (with_reducible refine Blk.new1 ?hb; case hb => (first | omega | (simp; done) | (simp; omega))) | (with_reducible refine Blk.alloc ?_ _) | (with_reducible refine' Blk.set3_0 ?_ ?hb; case hb => (first | omega | (simp; done) | (simp; omega))) | (with_reducible refine' Blk.set3_1 ?_ ?hb; case hb => (first | omega | (simp; done) | (simp; omega))) | (with_reducible refine' Blk.set3_2 ?_ ?hb; case hb => (first | omega | (simp; done) | (simp; omega))) | (with_reducible refine' Blk.set4_0 ?_ ?hb; case hb => (first | omega | (simp; done) | (simp; omega))) | (with_reducible refine' Blk.set4_1 ?_ ?hb; case hb => (first | omega | (simp; done) | (simp; omega))) | (with_reducible refine' Blk.set4_2 ?_ ?hb; case hb => (first | omega | (simp; done) | (simp; omega))) | (with_reducible refine' Blk.set4_3 ?_ ?hb; case hb => (first | omega | (simp; done) | (simp; omega))) | (with_reducible refine' Blk.set7_0 ?_ ?hb; case hb => (first | omega | (simp; done) | (simp; omega))) | (with_reducible refine' Blk.set7_1 ?_ ?hb; case hb => (first | omega | (simp; done) | (simp; omega))) | (with_reducible refine' Blk.set7_2 ?_ ?hb; case hb => (first | omega | (simp; done) | (simp; omega))) | (with_reducible refine' Blk.set7_3 ?_ ?hb; case hb => (first | omega | (simp; done) | (simp; omega))) | (with_reducible refine' Blk.set7_4 ?_ ?hb; case hb => (first | omega | (simp; done) | (simp; omega))) | (with_reducible refine' Blk.set7_5 ?_ ?hb; case hb => (first | omega | (simp; done) | (simp; omega))) | (with_reducible refine' Blk.set7_6 ?_ ?hb; case hb => (first | omega | (simp; done) | (simp; omega))) | (with_reducible refine Blk.far ?_ ?hb _; case hb => (first | omega | (simp; done) | (simp; omega))) | fail))) h6 (by (first | omega | (simp; done) | (simp; omega)))
    have B6 := Lib.hid (below_step (B := w.heap.size) (w0 := w) (by (repeat' (first | with_reducible exact B5.out | with_reducible exact Below.refl _ _ | with_reducible refine below_drew1 ?_ | with_reducible refine below_drewN ?_ _ | with_reducible refine Below.alloc ?_ ?_ _ | with_reducible refine Below.setCell ?_ ?_ _ | omega | (simp; done) | (simp; omega)))) (by have := B5.out.size; (first | omega | (simp; done) | (simp; omega))) h6)
    have z6 : w.heap.size ≤ w6.heap.size := B6.out.size
    clear h6 B5 z5 X1_5 X2_5 X3_5
    try clear X1_l X1_0_ X1_1_ X1_2_ X1_l0_ X1_l1_ X1_l2_ X1_l3_ X1_l4_ X2_l X2_0_ X2_1_ X2_2_ X2_l0_ X2_l1_ X2_l2_ X2_l3_ X2_l4_ X3_l X3_0_ X3_1_ X3_2_ X3_l0_ X3_l1_ X3_l2_ X3_l3_ X3_l4_
    obtain ⟨⟨X1_0_, X1_1_, X1_2_⟩, X1_f0_, X1_f1_, X1_f2_⟩ := X1_6.get3n
    have X1_l := X1_6.lt
    have X1_l0_ : w3.heap.size < w6.heap.size + 0 := by omega
    have X1_l1_ : w3.heap.size < w6.heap.size + 1 := by omega
    have X1_l2_ : w3.heap.size < w6.heap.size + 2 := by omega
    have X1_l3_ : w3.heap.size < w6.heap.size + 3 := by omega
    have X1_l4_ : w3.heap.size < w6.heap.size + 4 := by omega
    obtain ⟨⟨X2_0_, X2_1_, X2_2_⟩, X2_f0_, X2_f1_, X2_f2_⟩ := X2_6.get3n
    have X2_l := X2_6.lt
    have X2_l0_ : w3.heap.size < w6.heap.size + 0 := by omega
    have X2_l1_ : w3.heap.size < w6.heap.size + 1 := by omega
    have X2_l2_ : w3.heap.size < w6.heap.size + 2 := by omega
    have X2_l3_ : w3.heap.size < w6.heap.size + 3 := by omega
    have X2_l4_ : w3.heap.size < w6.heap.size + 4 := by omega
    obtain ⟨⟨X3_0_, X3_1_, X3_2_⟩, X3_f0_, X3_f1_, X3_f2_⟩ := X3_6.get3n
    have X3_l := X3_6.lt
    have X3_l0_ : w3.heap.size < w6.heap.size + 0 := by omega
    have X3_l1_ : w3.heap.size < w6.heap.size + 1 := by omega
    have X3_l2_ : w3.heap.size < w6.heap.size + 2 := by omega
    have X3_l3_ : w3.heap.size < w6.heap.size + 3 := by omega
    have X3_l4_ : w3.heap.size < w6.heap.size + 4 := by omega
    go_wp2
    go_ret
    exact ⟨rfl, by (repeat' (first | with_reducible exact B6.out | with_reducible exact Below.refl _ _ | with_reducible refine below_drew1 ?_ | with_reducible refine below_drewN ?_ _ | with_reducible refine Below.alloc ?_ ?_ _ | with_reducible refine Below.setCell ?_ ?_ _ | omega | (simp; done) | (simp; omega)))⟩

/-! ### The row's step -/
theorem own : ownKnob Try.prog.godebug = none := by kernel_rfl
theorem laidOut : laidOutB Try.prog = true := by kernel_rfl
set_option maxRecDepth 100000 in
theorem lifted (os : Os) (started : os.Started) (H : Type) (enc : TypeId × Value → H) :
    ReturnsInHanded {} Try.checked os 14 .any (Rows.fnDataKindSpec.pre6 enc Try.prog Try.f14 Rows.fnDataKindRow.domain false) (Rows.fnDataKindSpec.post enc Try.prog Try.f14 false true false false) := by
  refine returnsInHanded_of_change (C := Try.checked) own started (by kernel_rfl) Try.func14
    (ChangeSpec.witness6 (enc := enc) (C := Try.checked) false ⟨#[], #[.slice none 0 0], []⟩ 8 (by kernel_rfl) (by kernel_rfl) (by kernel_rfl) (by kernel_rfl)) ?_
  intro W base args ds gs before hval0 hW hcnd _
  have hval : ∀ (j : Nat) t v, Try.f14.params[j]? = some t → args[j]? = some v → Value.okWide Try.prog W .any base t v := hval0
  have hW' := hW
  obtain ⟨p, q, hA0, hV, rfl, hfz, hnd⟩ := hW
  have hA : DataW.TrodAll enc Try.prog W 0 (fun _ => true) true Try.f14.params.toList args.toList ds p := hA0
  rw [Try.params14] at hA hval
  obtain ⟨v0, vs0, d0, ds0, p0, q0, hargs, rfl, rfl, h0, r0⟩ := trodAll_cons hA
  obtain ⟨rfl, rfl, rfl⟩ := trodAll_nil r0
  obtain rfl : args = #[v0] := by cases args; simp_all
  obtain ⟨rfl, rfl⟩ := trodVars_none hV
  have k0 := h0
  have lt0 : ∀ x ∈ p0, x.block < W.heap.size := by obtain ⟨m, hm⟩ := k0; exact DataW.trod_lt m _ _ _ hm
  obtain ⟨a0, n0, c0, rfl⟩ := okWide_slice Try.underlying22 (hval 0 22 v0 rfl rfl)
  have w0 : Code W a0 n0 c0 := by obtain ⟨fuel, hf⟩ := h0; exact code_of Try.underlying22 Try.underlying5 (by kernel_rfl) hf
  clear hA0 hval0
  refine (walk a0 n0 c0 W w0).mono fun e W' ⟨he, bel⟩ => ?_
  subst he
  exact ⟨_, rfl, _, _, _, [], _, [], hW', trodAll_mk1 (shut_bool Try.underlying4 _), (trodAll_cons_mk (Below.trod laidOut (by kernel_rfl) (of_decide_eq_true (by kernel_rfl)) k0 bel lt0) trodAll_mk0), rfl, bel.frame _, fun h => by cases h⟩

theorem over : Rows.fnDataKindRow.holds Try.pinned (OpenSpec.ofChange Rows.fnDataKindSpec) :=
  OpenClaim.holds_of_wide 14 Try.f14 rfl rfl rfl rfl rfl rfl rfl ⟨rfl, rfl, rfl, rfl, rfl⟩ rfl rfl rfl rfl rfl (by kernel_rfl) Try.func14 (by kernel_rfl)
    (of_decide_eq_true (by kernel_rfl)) (by unfold Func.isWrapper; first | (rw [if_pos (by decide +kernel)]; kernel_rfl) | (rw [if_neg (by decide +kernel)]; exact ⟨rfl, rfl⟩))
    (fun os started H enc _ => lifted os started H enc)

/-- The statement. -/
theorem proved : Rows.FnDataKindSaid := over
#print axioms proved
end Go.Proofs.Ytegjbhngkhdcfaa.fnDataKind
