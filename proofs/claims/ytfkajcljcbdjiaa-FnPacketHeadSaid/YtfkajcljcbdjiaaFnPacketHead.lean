/-
  A packet begins with its ports and its tag: for every code. No condition.
-/
import Derived.Test.YtfkajcljcbdjiaaDrawPackL
import Derived.Test.YtfkajcljcbdjiaaSPkPut
import Derived.Test.YtfkajcljcbdjiaaWdApp
import Derived.Test.YtfkajcljcbdjiaaOpen
namespace Go.Proofs.Ytfkajcljcbdjiaa.fnPacketHead
open Go.ChangeShapes Go.WideShapes Go.ChangeAt Go.RowKit
open Go.ChangeMaps (open_string shut_string)
set_option linter.unusedVariables false
set_option linter.unusedSimpArgs false
theorem quiet_more {P : Program} {f : FuncId} {args : Array Value} {w : World} {a n : Nat} {v : Value} (h : Calls P f args (w.drewN (a + n)) fun e w' => e = .returned v ∧ w.drewN (a + n) = w') :
    Calls P f args (w.drewN (a + n)) fun e u => e = .returned v ∧ ∃ m, u = w.drewN (a + m) := h.mono fun _ _ ⟨he, hm⟩ => ⟨he, n, hm.symm⟩
theorem lgAt_app_l {x y : ByteArray} {i : Nat} (h : i + 3 < x.size) : lgAt (x ++ y) i = lgAt x i := by unfold lgAt; rw [wdAt_app_l (by omega), wdAt_app_l (by omega)]
theorem lgAt_app_r {x y : ByteArray} {i : Nat} (h : x.size ≤ i) : lgAt (x ++ y) i = lgAt y (i - x.size) := by unfold lgAt; rw [wdAt_app_r h, wdAt_app_r (by omega), show i + 2 - x.size = i - x.size + 2 by omega]
theorem lgAt_w4 (n : Int) (h : 0 ≤ n) (h1 : n ≤ 4294967295) : lgAt (w4 n) 0 = n := by
  unfold lgAt w4
  rw [wdAt_app_l (by rw [w2_size]; omega), wdAt_app_r (by rw [w2_size]; omega), w2_size, wdAt_w2_0 _ (by omega) (by omega), wdAt_w2_0 _ (by omega) (by omega)]
  omega
theorem pk_at {f t g : Int} {xs : List (Int × Int × ByteArray)} (h : pkOkV f t g xs = true) : wdAt (pkPutV f t g xs) 0 = f ∧ wdAt (pkPutV f t g xs) 2 = t ∧ lgAt (pkPutV f t g xs) 4 = g ∧ lgAt (pkPutV f t g xs) 8 = sumV (pkZ f t g xs) := by
  obtain ⟨hf0, hf1, ht0, ht1, -, hg0, hg1, -, -⟩ := pkHd_yes (pkOkV_hd h).1
  obtain ⟨hs0, hs1⟩ := sumV_range (pkZ f t g xs)
  have z1 : (w2 f ++ w2 t).size = 4 := rfl
  have z2 : (w2 f ++ w2 t ++ w4 g).size = 8 := rfl
  have z3 : ∀ sm, (w2 f ++ w2 t ++ w4 g ++ w4 sm).size = 12 := fun sm => rfl
  have y2 : ∀ n, (w2 n).size = 2 := fun n => rfl
  have y4 : ∀ n, (w4 n).size = 4 := fun n => rfl
  rw [pkPutV_ok h]
  unfold pkHead
  refine ⟨?_, ?_, ?_, ?_⟩
  · rw [wdAt_app_l (by rw [z3]; omega), wdAt_app_l (by rw [z2]; omega), wdAt_app_l (by rw [z1]; omega), wdAt_app_l (by rw [y2]; omega), wdAt_w2_0 f (by omega) hf1]
  · rw [wdAt_app_l (by rw [z3]; omega), wdAt_app_l (by rw [z2]; omega), wdAt_app_l (by rw [z1]; omega), wdAt_app_r (by rw [y2]; omega), y2, wdAt_w2_0 t (by omega) ht1]
  · rw [lgAt_app_l (by rw [z3]; omega), lgAt_app_l (by rw [z2]; omega), lgAt_app_r (by rw [z1]; omega), z1, lgAt_w4 g hg0 hg1]
  · rw [lgAt_app_l (by rw [z3]; omega), lgAt_app_r (by rw [z2]; omega), z2, lgAt_w4 _ hs0 hs1]
set_option maxRecDepth 100000 in
set_option maxHeartbeats 8000000 in
theorem walk (a0 : Option Addr) (n0 c0 : Nat) (w : World) (w0 : Code w a0 n0 c0) :
    Calls Try.prog 3 #[.slice a0 n0 c0] w fun e w' => e = .returned (.bool true) ∧ Below w.heap.size w w' := by
  have hc := w0.2.1
  unfold maxLen at hc
  have hn := w0.1
  by_cases hbig : 1048576 < n0
  · go_enter Try.func3, Try.ntmps3
    go_wp2
    go_ret
    exact ⟨rfl, Below.refl _ _⟩
  have hq : ∀ b : Bool, (b != b) = false := fun b => by simp
  have hq2 : ∀ b : Bool, (b == b) = true := fun b => by simp
  have hq3 : ∀ b : Int, (b != b) = false := fun b => by simp
  have hq4 : ∀ b : Int, (b == b) = true := fun b => by simp
  have hq5 : ∀ b : ByteArray, (b.toList == b.toList) = true := fun b => by simp
  have hq6 : ∀ b : ByteArray, (b.toList != b.toList) = false := fun b => by simp
  have B0 := Lib.hid (Below.refl w.heap.size w)
  go_enter Try.func3, Try.ntmps3
  go_wp2_with fail
  refine (c_DrawPacketPut a0 n0 c0 _ w0).mono ?_
  rintro e w1 ⟨f, t, g, A, n, c, xs, rfl, hf0, hf1, ht0, ht1, hg0, hg1, hn9, hnc, hcm, hgood, hG, h1⟩
  have B1 := Lib.hid (below_step (B := w.heap.size) (w0 := w) (by (repeat' (first | with_reducible exact B0.out | with_reducible exact Below.refl _ _ | with_reducible refine below_drew1 ?_ | with_reducible refine below_drewN ?_ _ | with_reducible refine Below.alloc ?_ ?_ _ | with_reducible refine Below.setCell ?_ ?_ _ | omega | (simp; done) | (simp; omega)))) (by have := B0.out.size; (first | omega | (simp; done) | (simp; omega))) h1)
  have z1 : w.heap.size ≤ w1.heap.size := B1.out.size
  clear h1 B0
  have GA_1 : Gaps w1 w1.heap.size A n xs := hG
  have GA_z1 : w1.heap.size ≤ w1.heap.size := by omega
  have HL := Lib.hid hG.1
  have HGD := Lib.hid hgood
  have hnm : n ≤ maxLen := by unfold maxLen; omega
  have HS := Lib.hid (show ∀ i, i < n → (xs.getD i ch0).2.2.size ≤ maxLen from fun i hi => by have := HGD.out.get i (by rw [HL.out]; exact hi); unfold maxLen; omega)
  clear hG hn hc hgood
  have ci := fun W h1 h2 => c_PacketPut f t g A n c xs w1.heap.size W h1 h2 hnm HS.out
  have cs := fun W h1 h2 => c_sPacketPut f t g A n c xs w1.heap.size W h1 h2 hnm HS.out
  cases hok : pkOkV f t g xs with
  | false =>
    rw [pkPutV_no hok] at ci cs
    have CI := Lib.hid ci
    have CS := Lib.hid cs
    clear ci cs hok
    go_wp2_with fail
    refine (CI.out _ (by (repeat' (first | (with_reducible exact GA_1) | with_reducible refine Gaps.alloc ?_ ?_ _ | with_reducible refine Gaps.setCell ?_ ?_ _ | with_reducible refine Gaps.drew ?_ | with_reducible refine Gaps.drewN ?_ _ | omega | (simp; done) | (simp; omega)))) (by first | omega | (simp; done) | (simp; omega))).mono ?_
    rintro e w2 ⟨rfl, h2⟩
    have P_2 : Blk w2 (w1.heap.size) 25 #[.int .i64 f, .int .i64 t, .int .i64 g, .slice A n c] := Blk.below (by (repeat' (first | (with_reducible refine Blk.drewN ?_ _) | (with_reducible refine Blk.drew ?_) | (with_reducible refine Blk.new1 ?hb; case hb => (first | omega | (simp; done) | (simp; omega))) | (with_reducible refine Blk.alloc ?_ _) | (with_reducible refine' Blk.set2_0 ?_ ?hb; case hb => (first | omega | (simp; done) | (simp; omega))) | (with_reducible refine' Blk.set2_1 ?_ ?hb; case hb => (first | omega | (simp; done) | (simp; omega))) | (with_reducible refine' Blk.set3_0 ?_ ?hb; case hb => (first | omega | (simp; done) | (simp; omega))) | (with_reducible refine' Blk.set3_1 ?_ ?hb; case hb => (first | omega | (simp; done) | (simp; omega))) | (with_reducible refine' Blk.set3_2 ?_ ?hb; case hb => (first | omega | (simp; done) | (simp; omega))) | (with_reducible refine' Blk.set4_0 ?_ ?hb; case hb => (first | omega | (simp; done) | (simp; omega))) | (with_reducible refine' Blk.set4_1 ?_ ?hb; case hb => (first | omega | (simp; done) | (simp; omega))) | (with_reducible refine' Blk.set4_2 ?_ ?hb; case hb => (first | omega | (simp; done) | (simp; omega))) | (with_reducible refine' Blk.set4_3 ?_ ?hb; case hb => (first | omega | (simp; done) | (simp; omega))) | (with_reducible refine' Blk.set7_0 ?_ ?hb; case hb => (first | omega | (simp; done) | (simp; omega))) | (with_reducible refine' Blk.set7_1 ?_ ?hb; case hb => (first | omega | (simp; done) | (simp; omega))) | (with_reducible refine' Blk.set7_2 ?_ ?hb; case hb => (first | omega | (simp; done) | (simp; omega))) | (with_reducible refine' Blk.set7_3 ?_ ?hb; case hb => (first | omega | (simp; done) | (simp; omega))) | (with_reducible refine' Blk.set7_4 ?_ ?hb; case hb => (first | omega | (simp; done) | (simp; omega))) | (with_reducible refine' Blk.set7_5 ?_ ?hb; case hb => (first | omega | (simp; done) | (simp; omega))) | (with_reducible refine' Blk.set7_6 ?_ ?hb; case hb => (first | omega | (simp; done) | (simp; omega))) | (with_reducible refine Blk.far ?_ ?hb _; case hb => (first | omega | (simp; done) | (simp; omega))) | fail))) h2 (by (first | omega | (simp; done) | (simp; omega)))
    have GA_2 : Gaps w2 w1.heap.size A n xs := Gaps.below (by (repeat' (first | (with_reducible exact GA_1) | with_reducible refine Gaps.alloc ?_ ?_ _ | with_reducible refine Gaps.setCell ?_ ?_ _ | with_reducible refine Gaps.drew ?_ | with_reducible refine Gaps.drewN ?_ _ | omega | (simp; done) | (simp; omega)))) h2 (by (first | omega | (simp; done) | (simp; omega)))
    have GA_z2 : w1.heap.size ≤ w2.heap.size := by have := h2.size; first | omega | (simp at this; omega)
    have B2 := Lib.hid (below_step (B := w.heap.size) (w0 := w) (by (repeat' (first | with_reducible exact B1.out | with_reducible exact Below.refl _ _ | with_reducible refine below_drew1 ?_ | with_reducible refine below_drewN ?_ _ | with_reducible refine Below.alloc ?_ ?_ _ | with_reducible refine Below.setCell ?_ ?_ _ | omega | (simp; done) | (simp; omega)))) (by have := B1.out.size; (first | omega | (simp; done) | (simp; omega))) h2)
    have z2 : w.heap.size ≤ w2.heap.size := B2.out.size
    have y2 : w1.heap.size ≤ w2.heap.size := by have := h2.size; first | omega | (simp at this; omega)
    clear h2 B1 z1 GA_1 GA_z1
    obtain ⟨⟨P_0_, P_1_, P_2_, P_3_⟩, P_f0_, P_f1_, P_f2_, P_f3_⟩ := P_2.get4
    have P_l := P_2.lt
    have P_l1_ : w1.heap.size < w2.heap.size + 1 := by omega
    have P_l2_ : w1.heap.size < w2.heap.size + 2 := by omega
    have P_l3_ : w1.heap.size < w2.heap.size + 3 := by omega
    have P_l4_ : w1.heap.size < w2.heap.size + 4 := by omega
    go_wp2_with fail
    refine (CS.out _ (by (repeat' (first | (with_reducible exact GA_2) | with_reducible refine Gaps.alloc ?_ ?_ _ | with_reducible refine Gaps.setCell ?_ ?_ _ | with_reducible refine Gaps.drew ?_ | with_reducible refine Gaps.drewN ?_ _ | omega | (simp; done) | (simp; omega)))) (by first | omega | (simp; done) | (simp; omega))).mono ?_
    rintro e w3 ⟨rfl, h3⟩
    have P_3 : Blk w3 (w1.heap.size) 25 #[.int .i64 f, .int .i64 t, .int .i64 g, .slice A n c] := Blk.below (by (repeat' (first | (with_reducible exact P_2) | (with_reducible refine Blk.drewN ?_ _) | (with_reducible refine Blk.drew ?_) | (with_reducible refine Blk.new1 ?hb; case hb => (first | omega | (simp; done) | (simp; omega))) | (with_reducible refine Blk.alloc ?_ _) | (with_reducible refine' Blk.set2_0 ?_ ?hb; case hb => (first | omega | (simp; done) | (simp; omega))) | (with_reducible refine' Blk.set2_1 ?_ ?hb; case hb => (first | omega | (simp; done) | (simp; omega))) | (with_reducible refine' Blk.set3_0 ?_ ?hb; case hb => (first | omega | (simp; done) | (simp; omega))) | (with_reducible refine' Blk.set3_1 ?_ ?hb; case hb => (first | omega | (simp; done) | (simp; omega))) | (with_reducible refine' Blk.set3_2 ?_ ?hb; case hb => (first | omega | (simp; done) | (simp; omega))) | (with_reducible refine' Blk.set4_0 ?_ ?hb; case hb => (first | omega | (simp; done) | (simp; omega))) | (with_reducible refine' Blk.set4_1 ?_ ?hb; case hb => (first | omega | (simp; done) | (simp; omega))) | (with_reducible refine' Blk.set4_2 ?_ ?hb; case hb => (first | omega | (simp; done) | (simp; omega))) | (with_reducible refine' Blk.set4_3 ?_ ?hb; case hb => (first | omega | (simp; done) | (simp; omega))) | (with_reducible refine' Blk.set7_0 ?_ ?hb; case hb => (first | omega | (simp; done) | (simp; omega))) | (with_reducible refine' Blk.set7_1 ?_ ?hb; case hb => (first | omega | (simp; done) | (simp; omega))) | (with_reducible refine' Blk.set7_2 ?_ ?hb; case hb => (first | omega | (simp; done) | (simp; omega))) | (with_reducible refine' Blk.set7_3 ?_ ?hb; case hb => (first | omega | (simp; done) | (simp; omega))) | (with_reducible refine' Blk.set7_4 ?_ ?hb; case hb => (first | omega | (simp; done) | (simp; omega))) | (with_reducible refine' Blk.set7_5 ?_ ?hb; case hb => (first | omega | (simp; done) | (simp; omega))) | (with_reducible refine' Blk.set7_6 ?_ ?hb; case hb => (first | omega | (simp; done) | (simp; omega))) | (with_reducible refine Blk.far ?_ ?hb _; case hb => (first | omega | (simp; done) | (simp; omega))) | fail))) h3 (by (first | omega | (simp; done) | (simp; omega)))
    have GA_3 : Gaps w3 w1.heap.size A n xs := Gaps.below (by (repeat' (first | (with_reducible exact GA_2) | with_reducible refine Gaps.alloc ?_ ?_ _ | with_reducible refine Gaps.setCell ?_ ?_ _ | with_reducible refine Gaps.drew ?_ | with_reducible refine Gaps.drewN ?_ _ | omega | (simp; done) | (simp; omega)))) h3 (by (first | omega | (simp; done) | (simp; omega)))
    have GA_z3 : w1.heap.size ≤ w3.heap.size := by have := h3.size; first | omega | (simp at this; omega)
    have B3 := Lib.hid (below_step (B := w.heap.size) (w0 := w) (by (repeat' (first | with_reducible exact B2.out | with_reducible exact Below.refl _ _ | with_reducible refine below_drew1 ?_ | with_reducible refine below_drewN ?_ _ | with_reducible refine Below.alloc ?_ ?_ _ | with_reducible refine Below.setCell ?_ ?_ _ | omega | (simp; done) | (simp; omega)))) (by have := B2.out.size; (first | omega | (simp; done) | (simp; omega))) h3)
    have z3 : w.heap.size ≤ w3.heap.size := B3.out.size
    have y3 : w2.heap.size ≤ w3.heap.size := by have := h3.size; first | omega | (simp at this; omega)
    clear h3 B2 z2 P_2 GA_2 GA_z2 y2
    try clear P_l P_0_ P_1_ P_2_ P_3_ P_l1_ P_l2_ P_l3_ P_l4_
    obtain ⟨⟨P_0_, P_1_, P_2_, P_3_⟩, P_f0_, P_f1_, P_f2_, P_f3_⟩ := P_3.get4
    have P_l := P_3.lt
    have P_l1_ : w1.heap.size < w3.heap.size + 1 := by omega
    have P_l2_ : w1.heap.size < w3.heap.size + 2 := by omega
    have P_l3_ : w1.heap.size < w3.heap.size + 3 := by omega
    have P_l4_ : w1.heap.size < w3.heap.size + 4 := by omega
    go_wp2
    go_ret
    exact ⟨rfl, by (repeat' (first | with_reducible exact B3.out | with_reducible exact Below.refl _ _ | with_reducible refine below_drew1 ?_ | with_reducible refine below_drewN ?_ _ | with_reducible refine Below.alloc ?_ ?_ _ | with_reducible refine Below.setCell ?_ ?_ _ | omega | (simp; done) | (simp; omega)))⟩
  | true =>
    have HOK := Lib.hid hok
    have he := pkPutV_empty f t g xs
    rw [hok] at he
    have he2 : (pkPutV f t g xs).toList.isEmpty = false := he
    obtain ⟨x8, x12, xsz⟩ := pkPutV_cut hok
    obtain ⟨hn1, hn4⟩ := pkOkV_len hok
    rw [HL.out] at hn1 hn4
    obtain ⟨y0, y1, y2, y3⟩ := pk_at hok
    have hle := chsB_le xs
    rw [HL.out] at hle
    have EZ : pkHead f t g ++ ⟨#[0, 0, 0, 0]⟩ ++ chsB xs = pkZ f t g xs := rfl
    have hzs := pkZ_size f t g xs
    have cw0 := fun W => c_WordGet (pkPutV f t g xs) 0 W (by omega) (by unfold maxLen; omega)
    have cw1 := fun W => c_WordGet (pkPutV f t g xs) 2 W (by omega) (by unfold maxLen; omega)
    have cw2 := fun W => c_LongGet (pkPutV f t g xs) 4 W (by omega) (by omega)
    have cw3 := fun W => c_LongGet (pkPutV f t g xs) 8 W (by omega) (by omega)
    rw [y0] at cw0
    rw [y1] at cw1
    rw [y2] at cw2
    rw [y3] at cw3
    have CST := Lib.hid (fun W => c_SumText (pkZ f t g xs) W (by omega))
    have EZ2 : (pkPutV f t g xs).extract 0 8 ++ ⟨#[0, 0, 0, 0]⟩ ++ (pkPutV f t g xs).extract 12 (pkPutV f t g xs).size = pkZ f t g xs := by rw [x8, x12]; rfl
    have C0 := Lib.hid cw0
    have C1 := Lib.hid cw1
    have C2 := Lib.hid cw2
    have C3 := Lib.hid cw3
    clear he x8 x12 y0 y1 y2 y3 cw0 cw1 cw2 cw3 EZ
    generalize sumV (pkZ f t g xs) = sm at *
    generalize pkPutV f t g xs = s at *
    generalize pkZ f t g xs = Z at *
    have i8 : (8 : Int) ≤ (s.size : Int) := by omega
    have i12 : (12 : Int) ≤ (s.size : Int) := by omega
    have e8 : (s.extract 0 8).size = 8 := by rw [ByteArray.size_extract]; omega
    have e12 : (s.extract 12 s.size).size = s.size - 12 := by rw [ByteArray.size_extract]; omega
    have n1 : ¬ 9223372036854775807 < (s.extract 0 8).size + 4 := by omega
    have n2 : ¬ 9223372036854775807 < (s.extract 0 8).size + 4 + (s.extract 12 s.size).size := by omega
    have n3 : ¬ 9223372036854775807 < 12 + (s.size - 12) := by omega
    have n4 : ¬ 9223372036854775807 < 8 + 4 + (s.size - 12) := by omega
    clear xsz hzs hle
    have CI := Lib.hid ci
    have CS := Lib.hid cs
    clear ci cs hok
    go_wp2_with fail
    refine (CI.out _ (by (repeat' (first | (with_reducible exact GA_1) | with_reducible refine Gaps.alloc ?_ ?_ _ | with_reducible refine Gaps.setCell ?_ ?_ _ | with_reducible refine Gaps.drew ?_ | with_reducible refine Gaps.drewN ?_ _ | omega | (simp; done) | (simp; omega)))) (by first | omega | (simp; done) | (simp; omega))).mono ?_
    rintro e w2 ⟨rfl, h2⟩
    have P_2 : Blk w2 (w1.heap.size) 25 #[.int .i64 f, .int .i64 t, .int .i64 g, .slice A n c] := Blk.below (by (repeat' (first | (with_reducible refine Blk.drewN ?_ _) | (with_reducible refine Blk.drew ?_) | (with_reducible refine Blk.new1 ?hb; case hb => (first | omega | (simp; done) | (simp; omega))) | (with_reducible refine Blk.alloc ?_ _) | (with_reducible refine' Blk.set2_0 ?_ ?hb; case hb => (first | omega | (simp; done) | (simp; omega))) | (with_reducible refine' Blk.set2_1 ?_ ?hb; case hb => (first | omega | (simp; done) | (simp; omega))) | (with_reducible refine' Blk.set3_0 ?_ ?hb; case hb => (first | omega | (simp; done) | (simp; omega))) | (with_reducible refine' Blk.set3_1 ?_ ?hb; case hb => (first | omega | (simp; done) | (simp; omega))) | (with_reducible refine' Blk.set3_2 ?_ ?hb; case hb => (first | omega | (simp; done) | (simp; omega))) | (with_reducible refine' Blk.set4_0 ?_ ?hb; case hb => (first | omega | (simp; done) | (simp; omega))) | (with_reducible refine' Blk.set4_1 ?_ ?hb; case hb => (first | omega | (simp; done) | (simp; omega))) | (with_reducible refine' Blk.set4_2 ?_ ?hb; case hb => (first | omega | (simp; done) | (simp; omega))) | (with_reducible refine' Blk.set4_3 ?_ ?hb; case hb => (first | omega | (simp; done) | (simp; omega))) | (with_reducible refine' Blk.set7_0 ?_ ?hb; case hb => (first | omega | (simp; done) | (simp; omega))) | (with_reducible refine' Blk.set7_1 ?_ ?hb; case hb => (first | omega | (simp; done) | (simp; omega))) | (with_reducible refine' Blk.set7_2 ?_ ?hb; case hb => (first | omega | (simp; done) | (simp; omega))) | (with_reducible refine' Blk.set7_3 ?_ ?hb; case hb => (first | omega | (simp; done) | (simp; omega))) | (with_reducible refine' Blk.set7_4 ?_ ?hb; case hb => (first | omega | (simp; done) | (simp; omega))) | (with_reducible refine' Blk.set7_5 ?_ ?hb; case hb => (first | omega | (simp; done) | (simp; omega))) | (with_reducible refine' Blk.set7_6 ?_ ?hb; case hb => (first | omega | (simp; done) | (simp; omega))) | (with_reducible refine Blk.far ?_ ?hb _; case hb => (first | omega | (simp; done) | (simp; omega))) | fail))) h2 (by (first | omega | (simp; done) | (simp; omega)))
    have GA_2 : Gaps w2 w1.heap.size A n xs := Gaps.below (by (repeat' (first | (with_reducible exact GA_1) | with_reducible refine Gaps.alloc ?_ ?_ _ | with_reducible refine Gaps.setCell ?_ ?_ _ | with_reducible refine Gaps.drew ?_ | with_reducible refine Gaps.drewN ?_ _ | omega | (simp; done) | (simp; omega)))) h2 (by (first | omega | (simp; done) | (simp; omega)))
    have GA_z2 : w1.heap.size ≤ w2.heap.size := by have := h2.size; first | omega | (simp at this; omega)
    have B2 := Lib.hid (below_step (B := w.heap.size) (w0 := w) (by (repeat' (first | with_reducible exact B1.out | with_reducible exact Below.refl _ _ | with_reducible refine below_drew1 ?_ | with_reducible refine below_drewN ?_ _ | with_reducible refine Below.alloc ?_ ?_ _ | with_reducible refine Below.setCell ?_ ?_ _ | omega | (simp; done) | (simp; omega)))) (by have := B1.out.size; (first | omega | (simp; done) | (simp; omega))) h2)
    have z2 : w.heap.size ≤ w2.heap.size := B2.out.size
    have y2 : w1.heap.size ≤ w2.heap.size := by have := h2.size; first | omega | (simp at this; omega)
    clear h2 B1 z1 GA_1 GA_z1
    obtain ⟨⟨P_0_, P_1_, P_2_, P_3_⟩, P_f0_, P_f1_, P_f2_, P_f3_⟩ := P_2.get4
    have P_l := P_2.lt
    have P_l1_ : w1.heap.size < w2.heap.size + 1 := by omega
    have P_l2_ : w1.heap.size < w2.heap.size + 2 := by omega
    have P_l3_ : w1.heap.size < w2.heap.size + 3 := by omega
    have P_l4_ : w1.heap.size < w2.heap.size + 4 := by omega
    go_wp2_with fail
    refine (CS.out _ (by (repeat' (first | (with_reducible exact GA_2) | with_reducible refine Gaps.alloc ?_ ?_ _ | with_reducible refine Gaps.setCell ?_ ?_ _ | with_reducible refine Gaps.drew ?_ | with_reducible refine Gaps.drewN ?_ _ | omega | (simp; done) | (simp; omega)))) (by first | omega | (simp; done) | (simp; omega))).mono ?_
    rintro e w3 ⟨rfl, h3⟩
    have P_3 : Blk w3 (w1.heap.size) 25 #[.int .i64 f, .int .i64 t, .int .i64 g, .slice A n c] := Blk.below (by (repeat' (first | (with_reducible exact P_2) | (with_reducible refine Blk.drewN ?_ _) | (with_reducible refine Blk.drew ?_) | (with_reducible refine Blk.new1 ?hb; case hb => (first | omega | (simp; done) | (simp; omega))) | (with_reducible refine Blk.alloc ?_ _) | (with_reducible refine' Blk.set2_0 ?_ ?hb; case hb => (first | omega | (simp; done) | (simp; omega))) | (with_reducible refine' Blk.set2_1 ?_ ?hb; case hb => (first | omega | (simp; done) | (simp; omega))) | (with_reducible refine' Blk.set3_0 ?_ ?hb; case hb => (first | omega | (simp; done) | (simp; omega))) | (with_reducible refine' Blk.set3_1 ?_ ?hb; case hb => (first | omega | (simp; done) | (simp; omega))) | (with_reducible refine' Blk.set3_2 ?_ ?hb; case hb => (first | omega | (simp; done) | (simp; omega))) | (with_reducible refine' Blk.set4_0 ?_ ?hb; case hb => (first | omega | (simp; done) | (simp; omega))) | (with_reducible refine' Blk.set4_1 ?_ ?hb; case hb => (first | omega | (simp; done) | (simp; omega))) | (with_reducible refine' Blk.set4_2 ?_ ?hb; case hb => (first | omega | (simp; done) | (simp; omega))) | (with_reducible refine' Blk.set4_3 ?_ ?hb; case hb => (first | omega | (simp; done) | (simp; omega))) | (with_reducible refine' Blk.set7_0 ?_ ?hb; case hb => (first | omega | (simp; done) | (simp; omega))) | (with_reducible refine' Blk.set7_1 ?_ ?hb; case hb => (first | omega | (simp; done) | (simp; omega))) | (with_reducible refine' Blk.set7_2 ?_ ?hb; case hb => (first | omega | (simp; done) | (simp; omega))) | (with_reducible refine' Blk.set7_3 ?_ ?hb; case hb => (first | omega | (simp; done) | (simp; omega))) | (with_reducible refine' Blk.set7_4 ?_ ?hb; case hb => (first | omega | (simp; done) | (simp; omega))) | (with_reducible refine' Blk.set7_5 ?_ ?hb; case hb => (first | omega | (simp; done) | (simp; omega))) | (with_reducible refine' Blk.set7_6 ?_ ?hb; case hb => (first | omega | (simp; done) | (simp; omega))) | (with_reducible refine Blk.far ?_ ?hb _; case hb => (first | omega | (simp; done) | (simp; omega))) | fail))) h3 (by (first | omega | (simp; done) | (simp; omega)))
    have GA_3 : Gaps w3 w1.heap.size A n xs := Gaps.below (by (repeat' (first | (with_reducible exact GA_2) | with_reducible refine Gaps.alloc ?_ ?_ _ | with_reducible refine Gaps.setCell ?_ ?_ _ | with_reducible refine Gaps.drew ?_ | with_reducible refine Gaps.drewN ?_ _ | omega | (simp; done) | (simp; omega)))) h3 (by (first | omega | (simp; done) | (simp; omega)))
    have GA_z3 : w1.heap.size ≤ w3.heap.size := by have := h3.size; first | omega | (simp at this; omega)
    have B3 := Lib.hid (below_step (B := w.heap.size) (w0 := w) (by (repeat' (first | with_reducible exact B2.out | with_reducible exact Below.refl _ _ | with_reducible refine below_drew1 ?_ | with_reducible refine below_drewN ?_ _ | with_reducible refine Below.alloc ?_ ?_ _ | with_reducible refine Below.setCell ?_ ?_ _ | omega | (simp; done) | (simp; omega)))) (by have := B2.out.size; (first | omega | (simp; done) | (simp; omega))) h3)
    have z3 : w.heap.size ≤ w3.heap.size := B3.out.size
    have y3 : w2.heap.size ≤ w3.heap.size := by have := h3.size; first | omega | (simp at this; omega)
    clear h3 B2 z2 P_2 GA_2 GA_z2 y2
    try clear P_l P_0_ P_1_ P_2_ P_3_ P_l1_ P_l2_ P_l3_ P_l4_
    obtain ⟨⟨P_0_, P_1_, P_2_, P_3_⟩, P_f0_, P_f1_, P_f2_, P_f3_⟩ := P_3.get4
    have P_l := P_3.lt
    have P_l1_ : w1.heap.size < w3.heap.size + 1 := by omega
    have P_l2_ : w1.heap.size < w3.heap.size + 2 := by omega
    have P_l3_ : w1.heap.size < w3.heap.size + 3 := by omega
    have P_l4_ : w1.heap.size < w3.heap.size + 4 := by omega
    go_wp2_with fail
    refine (C0.out _).mono ?_
    rintro e w4 ⟨rfl, k4, rfl⟩
    go_wp2_with fail
    refine (C1.out _).mono ?_
    rintro e w5 ⟨rfl, k5, rfl⟩
    go_wp2_with fail
    refine (C2.out _).mono ?_
    rintro e w6 ⟨rfl, k6, rfl⟩
    go_wp2_with fail
    refine (C3.out _).mono ?_
    rintro e w7 ⟨rfl, k7, rfl⟩
    go_wp2_with fail
    go_quiet ((go_at_call 18; exact quiet_more (CST.out _)))
    go_wp2
    go_ret
    exact ⟨rfl, by (repeat' (first | with_reducible exact B3.out | with_reducible exact Below.refl _ _ | with_reducible refine below_drew1 ?_ | with_reducible refine below_drewN ?_ _ | with_reducible refine Below.alloc ?_ ?_ _ | with_reducible refine Below.setCell ?_ ?_ _ | omega | (simp; done) | (simp; omega)))⟩

/-! ### The row's step -/
theorem own : ownKnob Try.prog.godebug = none := by kernel_rfl
theorem laidOut : laidOutB Try.prog = true := by kernel_rfl
set_option maxRecDepth 100000 in
theorem lifted (os : Os) (started : os.Started) (H : Type) (enc : TypeId × Value → H) :
    ReturnsInHanded {} Try.checked os 3 .any (Rows.fnPacketHeadSpec.pre6 enc Try.prog Try.f3 Rows.fnPacketHeadRow.domain false) (Rows.fnPacketHeadSpec.post enc Try.prog Try.f3 false true false false) := by
  refine returnsInHanded_of_change (C := Try.checked) own started (by kernel_rfl) Try.func3
    (ChangeSpec.witness6 (enc := enc) (C := Try.checked) false ⟨#[], #[.slice none 0 0], []⟩ 8 (by kernel_rfl) (by kernel_rfl) (by kernel_rfl) (by kernel_rfl)) ?_
  intro W base args ds gs before hval0 hW hcnd _
  have hval : ∀ (j : Nat) t v, Try.f3.params[j]? = some t → args[j]? = some v → Value.okWide Try.prog W .any base t v := hval0
  have hW' := hW
  obtain ⟨p, q, hA0, hV, rfl, hfz, hnd⟩ := hW
  have hA : DataW.TrodAll enc Try.prog W 0 (fun _ => true) true Try.f3.params.toList args.toList ds p := hA0
  rw [Try.params3] at hA hval
  obtain ⟨v0, vs0, d0, ds0, p0, q0, hargs, rfl, rfl, h0, r0⟩ := trodAll_cons hA
  obtain ⟨rfl, rfl, rfl⟩ := trodAll_nil r0
  obtain rfl : args = #[v0] := by cases args; simp_all
  obtain ⟨rfl, rfl⟩ := trodVars_none hV
  have k0 := h0
  have lt0 : ∀ x ∈ p0, x.block < W.heap.size := by obtain ⟨m, hm⟩ := k0; exact DataW.trod_lt m _ _ _ hm
  obtain ⟨a0, n0, c0, rfl⟩ := okWide_slice Try.underlying22 (hval 0 22 v0 rfl rfl)
  have w0 : Code W a0 n0 c0 := by obtain ⟨fuel, hf⟩ := h0; exact code_of Try.underlying22 Try.underlying5 (by kernel_rfl) hf
  clear hA0 hval0
  refine (walk a0 n0 c0 W w0).mono fun e W' ⟨he, bel⟩ => ?_
  subst he
  exact ⟨_, rfl, _, _, _, [], _, [], hW', trodAll_mk1 (shut_bool Try.underlying4 _), (trodAll_cons_mk (Below.trod laidOut (by kernel_rfl) (of_decide_eq_true (by kernel_rfl)) k0 bel lt0) trodAll_mk0), rfl, bel.frame _, fun h => by cases h⟩

theorem over : Rows.fnPacketHeadRow.holds Try.pinned (OpenSpec.ofChange Rows.fnPacketHeadSpec) :=
  OpenClaim.holds_of_wide 3 Try.f3 rfl rfl rfl rfl rfl rfl rfl ⟨rfl, rfl, rfl, rfl, rfl⟩ rfl rfl rfl rfl rfl (by kernel_rfl) Try.func3 (by kernel_rfl)
    (of_decide_eq_true (by kernel_rfl)) (by unfold Func.isWrapper; first | (rw [if_pos (by decide +kernel)]; kernel_rfl) | (rw [if_neg (by decide +kernel)]; exact ⟨rfl, rfl⟩))
    (fun os started H enc _ => lifted os started H enc)

/-- The statement. -/
theorem proved : Rows.FnPacketHeadSaid := over
#print axioms proved
end Go.Proofs.Ytfkajcljcbdjiaa.fnPacketHead
