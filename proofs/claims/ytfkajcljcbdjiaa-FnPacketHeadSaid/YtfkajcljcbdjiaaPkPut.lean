/-
  Writing a packet: the program's function.
-/
import Derived.Test.YtfkajcljcbdjiaaPkV
import Derived.Test.YtfkajcljcbdjiaaChunkPut
import Derived.Test.YtfkajcljcbdjiaaPkAlone
namespace Go.Proofs.Ytfkajcljcbdjiaa
set_option linter.unusedVariables false
set_option linter.unusedSimpArgs false
open Go.RowKit

theorem wordsV2 (a b : Int) : wordsV [a, b] = w2 a ++ w2 b := by unfold wordsV wordsV wordsV; rw [app_empty]
/-- Two numbers in a new row. -/
theorem c_words2 (a b : Int) (w : World) (n : Nat) (hn : w.heap.size = n) (ha : 0 ≤ a) (ha1 : a ≤ 65535) (hb : 0 ≤ b) (hb1 : b ≤ 65535) :
    Calls Try.prog 32 #[.slice (some ⟨n, 0, none⟩) 2 2] (w.alloc (.cells #[.int .i64 a, .int .i64 b] 3)) fun e w' => e = .returned (.string (w2 a ++ w2 b)) ∧ Below (w.alloc (.cells #[.int .i64 a, .int .i64 b] 3)).heap.size (w.alloc (.cells #[.int .i64 a, .int .i64 b] 3)) w' := by
  subst hn
  have h := c_words w.heap.size 2 [a, b] (w.alloc (.cells #[.int .i64 a, .int .i64 b] 3)) rfl (by omega) (fun i hi => (World.cell?_alloc_mark w _ _ (0, 0) i).trans (by
    match i, hi with
    | 0, _ => rfl
    | 1, _ => rfl)) (fun i hi => by
    match i, hi with
    | 0, _ => exact ⟨ha, ha1⟩
    | 1, _ => exact ⟨hb, hb1⟩) (by simp)
  rw [wordsV2] at h
  exact h
theorem pkOkV_hd {f t g : Int} {xs : List (Int × Int × ByteArray)} (h : pkOkV f t g xs = true) : pkHd f t g xs.length = true ∧ chsOk xs = true := by
  unfold pkOkV at h
  rw [Bool.and_eq_true] at h
  exact h
theorem z4_eq : (⟨#[0, 0, 0, 0]⟩ : ByteArray) = zeros 4 := rfl
set_option maxHeartbeats 4000000 in
theorem c_PacketPut (f t g : Int) (A : Option Addr) (n c : Nat) (xs : List (Int × Int × ByteArray)) (B : Nat) (w : World) (hG : Gaps w B A n xs) (hBw : B ≤ w.heap.size) (hn : n ≤ maxLen) (hsz : ∀ i, i < n → (xs.getD i ch0).2.2.size ≤ maxLen) :
    Calls Try.prog 14 #[.agg #[.int .i64 f, .int .i64 t, .int .i64 g, .slice A n c]] w fun e w' => e = .returned (.string (pkPutV f t g xs)) ∧ Below w.heap.size w w' := by
  have HL := Lib.hid hG.1
  have cp := fun W h1 h2 => c_PacketValid f t g A n c xs B W h1 h2 hn hsz
  have B0 := Lib.hid (Below.refl w.heap.size w)
  cases hok : pkOkV f t g xs with
  | false =>
    rw [pkPutV_no hok]
    rw [hok] at cp
    have CP := Lib.hid cp
    clear cp hsz hok
    go_enter Try.func14, Try.ntmps14
    go_wp2_with fail
    refine (CP.out _ (by (repeat' (first | (with_reducible exact hG) | with_reducible refine Gaps.alloc ?_ ?_ _ | with_reducible refine Gaps.setCell ?_ ?_ _ | with_reducible refine Gaps.drew ?_ | with_reducible refine Gaps.drewN ?_ _ | omega | (simp; done) | (simp; omega)))) (by first | omega | (simp; done) | (simp; omega))).mono ?_
    rintro e w1 ⟨rfl, h1⟩
    have P_1 : Blk w1 (w.heap.size) 25 #[.int .i64 f, .int .i64 t, .int .i64 g, .slice A n c] := Blk.below (by (repeat' (first | (with_reducible refine Blk.drewN ?_ _) | (with_reducible refine Blk.drew ?_) | (with_reducible refine Blk.new1 ?hb; case hb => (first | omega | (simp; done) | (simp; omega))) | (with_reducible refine Blk.alloc ?_ _) | (with_reducible refine' Blk.set2_0 ?_ ?hb; case hb => (first | omega | (simp; done) | (simp; omega))) | (with_reducible refine' Blk.set2_1 ?_ ?hb; case hb => (first | omega | (simp; done) | (simp; omega))) | (with_reducible refine' Blk.set3_0 ?_ ?hb; case hb => (first | omega | (simp; done) | (simp; omega))) | (with_reducible refine' Blk.set3_1 ?_ ?hb; case hb => (first | omega | (simp; done) | (simp; omega))) | (with_reducible refine' Blk.set3_2 ?_ ?hb; case hb => (first | omega | (simp; done) | (simp; omega))) | (with_reducible refine' Blk.set4_0 ?_ ?hb; case hb => (first | omega | (simp; done) | (simp; omega))) | (with_reducible refine' Blk.set4_1 ?_ ?hb; case hb => (first | omega | (simp; done) | (simp; omega))) | (with_reducible refine' Blk.set4_2 ?_ ?hb; case hb => (first | omega | (simp; done) | (simp; omega))) | (with_reducible refine' Blk.set4_3 ?_ ?hb; case hb => (first | omega | (simp; done) | (simp; omega))) | (with_reducible refine' Blk.set7_0 ?_ ?hb; case hb => (first | omega | (simp; done) | (simp; omega))) | (with_reducible refine' Blk.set7_1 ?_ ?hb; case hb => (first | omega | (simp; done) | (simp; omega))) | (with_reducible refine' Blk.set7_2 ?_ ?hb; case hb => (first | omega | (simp; done) | (simp; omega))) | (with_reducible refine' Blk.set7_3 ?_ ?hb; case hb => (first | omega | (simp; done) | (simp; omega))) | (with_reducible refine' Blk.set7_4 ?_ ?hb; case hb => (first | omega | (simp; done) | (simp; omega))) | (with_reducible refine' Blk.set7_5 ?_ ?hb; case hb => (first | omega | (simp; done) | (simp; omega))) | (with_reducible refine' Blk.set7_6 ?_ ?hb; case hb => (first | omega | (simp; done) | (simp; omega))) | (with_reducible refine Blk.far ?_ ?hb _; case hb => (first | omega | (simp; done) | (simp; omega))) | fail))) h1 (by (first | omega | (simp; done) | (simp; omega)))
    have B1 := Lib.hid (below_step (B := w.heap.size) (w0 := w) (by (repeat' (first | with_reducible exact B0.out | with_reducible exact Below.refl _ _ | with_reducible refine below_drew1 ?_ | with_reducible refine below_drewN ?_ _ | with_reducible refine Below.alloc ?_ ?_ _ | with_reducible refine Below.setCell ?_ ?_ _ | omega | (simp; done) | (simp; omega)))) (by have := B0.out.size; (first | omega | (simp; done) | (simp; omega))) h1)
    have z1 : w.heap.size ≤ w1.heap.size := B1.out.size
    clear h1 B0
    obtain ⟨⟨P_0_, P_1_, P_2_, P_3_⟩, P_f0_, P_f1_, P_f2_, P_f3_⟩ := P_1.get4
    have P_l := P_1.lt
    have P_l1_ : w.heap.size < w1.heap.size + 1 := by omega
    have P_l2_ : w.heap.size < w1.heap.size + 2 := by omega
    have P_l3_ : w.heap.size < w1.heap.size + 3 := by omega
    have P_l4_ : w.heap.size < w1.heap.size + 4 := by omega
    go_wp2
    go_ret
    exact ⟨rfl, by (repeat' (first | with_reducible exact B1.out | with_reducible exact Below.refl _ _ | with_reducible refine below_drew1 ?_ | with_reducible refine below_drewN ?_ _ | with_reducible refine Below.alloc ?_ ?_ _ | with_reducible refine Below.setCell ?_ ?_ _ | omega | (simp; done) | (simp; omega)))⟩
  | true =>
    have B0 := Lib.hid (Below.refl w.heap.size w)
    have EH : w2 f ++ w2 t ++ w4 g = pkHead f t g := rfl
    obtain ⟨hf0, hf1, ht0, ht1, -, hg0, hg1, hn1, hn4⟩ := pkHd_yes (pkOkV_hd hok).1
    rw [HL.out] at hn1 hn4
    have HPV := Lib.hid (pkPutV_ok hok)
    have HS := Lib.hid hsz
    rw [hok] at cp
    have CP := Lib.hid cp
    clear cp hsz hok hn
    go_enter Try.func14, Try.ntmps14
    go_wp2_with fail
    refine (CP.out _ (by (repeat' (first | (with_reducible exact hG) | with_reducible refine Gaps.alloc ?_ ?_ _ | with_reducible refine Gaps.setCell ?_ ?_ _ | with_reducible refine Gaps.drew ?_ | with_reducible refine Gaps.drewN ?_ _ | omega | (simp; done) | (simp; omega)))) (by first | omega | (simp; done) | (simp; omega))).mono ?_
    rintro e w1 ⟨rfl, h1⟩
    have P_1 : Blk w1 (w.heap.size) 25 #[.int .i64 f, .int .i64 t, .int .i64 g, .slice A n c] := Blk.below (by (repeat' (first | (with_reducible refine Blk.drewN ?_ _) | (with_reducible refine Blk.drew ?_) | (with_reducible refine Blk.new1 ?hb; case hb => (first | omega | (simp; done) | (simp; omega))) | (with_reducible refine Blk.alloc ?_ _) | (with_reducible refine' Blk.set2_0 ?_ ?hb; case hb => (first | omega | (simp; done) | (simp; omega))) | (with_reducible refine' Blk.set2_1 ?_ ?hb; case hb => (first | omega | (simp; done) | (simp; omega))) | (with_reducible refine' Blk.set3_0 ?_ ?hb; case hb => (first | omega | (simp; done) | (simp; omega))) | (with_reducible refine' Blk.set3_1 ?_ ?hb; case hb => (first | omega | (simp; done) | (simp; omega))) | (with_reducible refine' Blk.set3_2 ?_ ?hb; case hb => (first | omega | (simp; done) | (simp; omega))) | (with_reducible refine' Blk.set4_0 ?_ ?hb; case hb => (first | omega | (simp; done) | (simp; omega))) | (with_reducible refine' Blk.set4_1 ?_ ?hb; case hb => (first | omega | (simp; done) | (simp; omega))) | (with_reducible refine' Blk.set4_2 ?_ ?hb; case hb => (first | omega | (simp; done) | (simp; omega))) | (with_reducible refine' Blk.set4_3 ?_ ?hb; case hb => (first | omega | (simp; done) | (simp; omega))) | (with_reducible refine' Blk.set7_0 ?_ ?hb; case hb => (first | omega | (simp; done) | (simp; omega))) | (with_reducible refine' Blk.set7_1 ?_ ?hb; case hb => (first | omega | (simp; done) | (simp; omega))) | (with_reducible refine' Blk.set7_2 ?_ ?hb; case hb => (first | omega | (simp; done) | (simp; omega))) | (with_reducible refine' Blk.set7_3 ?_ ?hb; case hb => (first | omega | (simp; done) | (simp; omega))) | (with_reducible refine' Blk.set7_4 ?_ ?hb; case hb => (first | omega | (simp; done) | (simp; omega))) | (with_reducible refine' Blk.set7_5 ?_ ?hb; case hb => (first | omega | (simp; done) | (simp; omega))) | (with_reducible refine' Blk.set7_6 ?_ ?hb; case hb => (first | omega | (simp; done) | (simp; omega))) | (with_reducible refine Blk.far ?_ ?hb _; case hb => (first | omega | (simp; done) | (simp; omega))) | fail))) h1 (by (first | omega | (simp; done) | (simp; omega)))
    have B1 := Lib.hid (below_step (B := w.heap.size) (w0 := w) (by (repeat' (first | with_reducible exact B0.out | with_reducible exact Below.refl _ _ | with_reducible refine below_drew1 ?_ | with_reducible refine below_drewN ?_ _ | with_reducible refine Below.alloc ?_ ?_ _ | with_reducible refine Below.setCell ?_ ?_ _ | omega | (simp; done) | (simp; omega)))) (by have := B0.out.size; (first | omega | (simp; done) | (simp; omega))) h1)
    have z1 : w.heap.size ≤ w1.heap.size := B1.out.size
    clear h1 B0
    obtain ⟨⟨P_0_, P_1_, P_2_, P_3_⟩, P_f0_, P_f1_, P_f2_, P_f3_⟩ := P_1.get4
    have P_l := P_1.lt
    have P_l1_ : w.heap.size < w1.heap.size + 1 := by omega
    have P_l2_ : w.heap.size < w1.heap.size + 2 := by omega
    have P_l3_ : w.heap.size < w1.heap.size + 3 := by omega
    have P_l4_ : w.heap.size < w1.heap.size + 4 := by omega
    go_wp2_with fail
    refine (c_LongPut g _ hg0 hg1).mono ?_
    rintro e w2 ⟨rfl, h2⟩
    have P_2 : Blk w2 (w.heap.size) 25 #[.int .i64 f, .int .i64 t, .int .i64 g, .slice A n c] := Blk.below (by (repeat' (first | (with_reducible exact P_1) | (with_reducible refine Blk.drewN ?_ _) | (with_reducible refine Blk.drew ?_) | (with_reducible refine Blk.new1 ?hb; case hb => (first | omega | (simp; done) | (simp; omega))) | (with_reducible refine Blk.alloc ?_ _) | (with_reducible refine' Blk.set2_0 ?_ ?hb; case hb => (first | omega | (simp; done) | (simp; omega))) | (with_reducible refine' Blk.set2_1 ?_ ?hb; case hb => (first | omega | (simp; done) | (simp; omega))) | (with_reducible refine' Blk.set3_0 ?_ ?hb; case hb => (first | omega | (simp; done) | (simp; omega))) | (with_reducible refine' Blk.set3_1 ?_ ?hb; case hb => (first | omega | (simp; done) | (simp; omega))) | (with_reducible refine' Blk.set3_2 ?_ ?hb; case hb => (first | omega | (simp; done) | (simp; omega))) | (with_reducible refine' Blk.set4_0 ?_ ?hb; case hb => (first | omega | (simp; done) | (simp; omega))) | (with_reducible refine' Blk.set4_1 ?_ ?hb; case hb => (first | omega | (simp; done) | (simp; omega))) | (with_reducible refine' Blk.set4_2 ?_ ?hb; case hb => (first | omega | (simp; done) | (simp; omega))) | (with_reducible refine' Blk.set4_3 ?_ ?hb; case hb => (first | omega | (simp; done) | (simp; omega))) | (with_reducible refine' Blk.set7_0 ?_ ?hb; case hb => (first | omega | (simp; done) | (simp; omega))) | (with_reducible refine' Blk.set7_1 ?_ ?hb; case hb => (first | omega | (simp; done) | (simp; omega))) | (with_reducible refine' Blk.set7_2 ?_ ?hb; case hb => (first | omega | (simp; done) | (simp; omega))) | (with_reducible refine' Blk.set7_3 ?_ ?hb; case hb => (first | omega | (simp; done) | (simp; omega))) | (with_reducible refine' Blk.set7_4 ?_ ?hb; case hb => (first | omega | (simp; done) | (simp; omega))) | (with_reducible refine' Blk.set7_5 ?_ ?hb; case hb => (first | omega | (simp; done) | (simp; omega))) | (with_reducible refine' Blk.set7_6 ?_ ?hb; case hb => (first | omega | (simp; done) | (simp; omega))) | (with_reducible refine Blk.far ?_ ?hb _; case hb => (first | omega | (simp; done) | (simp; omega))) | fail))) h2 (by (first | omega | (simp; done) | (simp; omega)))
    have B2 := Lib.hid (below_step (B := w.heap.size) (w0 := w) (by (repeat' (first | with_reducible exact B1.out | with_reducible exact Below.refl _ _ | with_reducible refine below_drew1 ?_ | with_reducible refine below_drewN ?_ _ | with_reducible refine Below.alloc ?_ ?_ _ | with_reducible refine Below.setCell ?_ ?_ _ | omega | (simp; done) | (simp; omega)))) (by have := B1.out.size; (first | omega | (simp; done) | (simp; omega))) h2)
    have z2 : w.heap.size ≤ w2.heap.size := B2.out.size
    clear h2 B1 z1 P_1
    try clear P_l P_0_ P_1_ P_2_ P_3_ P_l1_ P_l2_ P_l3_ P_l4_
    obtain ⟨⟨P_0_, P_1_, P_2_, P_3_⟩, P_f0_, P_f1_, P_f2_, P_f3_⟩ := P_2.get4
    have P_l := P_2.lt
    have P_l1_ : w.heap.size < w2.heap.size + 1 := by omega
    have P_l2_ : w.heap.size < w2.heap.size + 2 := by omega
    have P_l3_ : w.heap.size < w2.heap.size + 3 := by omega
    have P_l4_ : w.heap.size < w2.heap.size + 4 := by omega
    go_wp2_with fail
    refine (c_words2 f t _ _ rfl (by omega) hf1 (by omega) ht1).mono ?_
    rintro e w3 ⟨rfl, h3⟩
    have P_3 : Blk w3 (w.heap.size) 25 #[.int .i64 f, .int .i64 t, .int .i64 g, .slice A n c] := Blk.below (by (repeat' (first | (with_reducible exact P_2) | (with_reducible refine Blk.drewN ?_ _) | (with_reducible refine Blk.drew ?_) | (with_reducible refine Blk.new1 ?hb; case hb => (first | omega | (simp; done) | (simp; omega))) | (with_reducible refine Blk.alloc ?_ _) | (with_reducible refine' Blk.set2_0 ?_ ?hb; case hb => (first | omega | (simp; done) | (simp; omega))) | (with_reducible refine' Blk.set2_1 ?_ ?hb; case hb => (first | omega | (simp; done) | (simp; omega))) | (with_reducible refine' Blk.set3_0 ?_ ?hb; case hb => (first | omega | (simp; done) | (simp; omega))) | (with_reducible refine' Blk.set3_1 ?_ ?hb; case hb => (first | omega | (simp; done) | (simp; omega))) | (with_reducible refine' Blk.set3_2 ?_ ?hb; case hb => (first | omega | (simp; done) | (simp; omega))) | (with_reducible refine' Blk.set4_0 ?_ ?hb; case hb => (first | omega | (simp; done) | (simp; omega))) | (with_reducible refine' Blk.set4_1 ?_ ?hb; case hb => (first | omega | (simp; done) | (simp; omega))) | (with_reducible refine' Blk.set4_2 ?_ ?hb; case hb => (first | omega | (simp; done) | (simp; omega))) | (with_reducible refine' Blk.set4_3 ?_ ?hb; case hb => (first | omega | (simp; done) | (simp; omega))) | (with_reducible refine' Blk.set7_0 ?_ ?hb; case hb => (first | omega | (simp; done) | (simp; omega))) | (with_reducible refine' Blk.set7_1 ?_ ?hb; case hb => (first | omega | (simp; done) | (simp; omega))) | (with_reducible refine' Blk.set7_2 ?_ ?hb; case hb => (first | omega | (simp; done) | (simp; omega))) | (with_reducible refine' Blk.set7_3 ?_ ?hb; case hb => (first | omega | (simp; done) | (simp; omega))) | (with_reducible refine' Blk.set7_4 ?_ ?hb; case hb => (first | omega | (simp; done) | (simp; omega))) | (with_reducible refine' Blk.set7_5 ?_ ?hb; case hb => (first | omega | (simp; done) | (simp; omega))) | (with_reducible refine' Blk.set7_6 ?_ ?hb; case hb => (first | omega | (simp; done) | (simp; omega))) | (with_reducible refine Blk.far ?_ ?hb _; case hb => (first | omega | (simp; done) | (simp; omega))) | fail))) h3 (by (first | omega | (simp; done) | (simp; omega)))
    have B3 := Lib.hid (below_step (B := w.heap.size) (w0 := w) (by (repeat' (first | with_reducible exact B2.out | with_reducible exact Below.refl _ _ | with_reducible refine below_drew1 ?_ | with_reducible refine below_drewN ?_ _ | with_reducible refine Below.alloc ?_ ?_ _ | with_reducible refine Below.setCell ?_ ?_ _ | omega | (simp; done) | (simp; omega)))) (by have := B2.out.size; (first | omega | (simp; done) | (simp; omega))) h3)
    have z3 : w.heap.size ≤ w3.heap.size := B3.out.size
    clear h3 B2 z2 P_2
    try clear P_l P_0_ P_1_ P_2_ P_3_ P_l1_ P_l2_ P_l3_ P_l4_
    obtain ⟨⟨P_0_, P_1_, P_2_, P_3_⟩, P_f0_, P_f1_, P_f2_, P_f3_⟩ := P_3.get4
    have P_l := P_3.lt
    have P_l1_ : w.heap.size < w3.heap.size + 1 := by omega
    have P_l2_ : w.heap.size < w3.heap.size + 2 := by omega
    have P_l3_ : w.heap.size < w3.heap.size + 3 := by omega
    have P_l4_ : w.heap.size < w3.heap.size + 4 := by omega
    have hw4 := w4_size' g
    have hhd := pkHead_size f t g
    have G1 : Gaps w3 B A n xs := Gaps.below hG B3.out hBw
    have HP := Lib.hid P_3
    clear P_3
    go_wp2
    go_loopw [6, 8, 31] (fun rest _ i wr => ∃ j : Nat, j ≤ n ∧ i = .int .i64 j ∧ rest = .string (chsB (xs.take j)) ∧ Below w.heap.size w wr) (fun _ _ i _ => n - (intOf i).toNat)
    case atStart => exact ⟨0, Nat.zero_le _, rfl, rfl, by (repeat' (first | with_reducible exact B3.out | with_reducible exact Below.refl _ _ | with_reducible refine below_drew1 ?_ | with_reducible refine below_drewN ?_ _ | with_reducible refine Below.alloc ?_ ?_ _ | with_reducible refine Below.setCell ?_ ?_ _ | omega | (simp; done) | (simp; omega)))⟩
    case round =>
      obtain ⟨j, hj, rfl, rfl, hB⟩ := hrel
      have BR := Lib.hid hB
      have zr := BR.out.size
      have hle := chsB_take_le xs j 4 (by omega)
      clear hB P_0_ P_1_ P_2_ P_3_ P_f0_ P_f1_ P_f2_ P_f3_
      by_cases hlt : j < n
      · obtain ⟨b, o, rfl, hb, hc⟩ := hG.2 (by omega)
        obtain ⟨c0, c1, c2⟩ := hc j hlt
        have hb2 : b < w.heap.size := by omega
        have d0 := (BR.out.cell (p := ⟨b, o + j * 3, none⟩) hb2).trans c0
        have d1 := (BR.out.cell (p := ⟨b, o + j * 3 + 1, none⟩) hb2).trans c1
        have d2 := (BR.out.cell (p := ⟨b, o + j * 3 + 2, none⟩) hb2).trans c2
        have hst := Lib.hid (chsB_take xs j (by rw [HL.out]; exact hlt))
        have hs := HS.out j hlt
        generalize hgx : xs.getD j ch0 = y at *
        obtain ⟨a, e, s⟩ := y
        clear hgx hc c0 c1 c2
        simp only at d0 d1 d2 hs
        have hjn : (j : Int) < (n : Int) := by omega
        have hj0 : (0 : Int) ≤ (j : Int) := by omega
        have cv := fun W => c_ChunkPut a e s W hs
        have hq := chunkPutV_le a e s
        obtain ⟨q, hqe⟩ : ∃ q, chunkPutV a e s = q := ⟨_, rfl⟩
        rw [hqe] at cv hq
        have hst2 := Lib.hid (show chsB (xs.take (j + 1)) = chsB (xs.take j) ++ q by rw [hst.out, hqe])
        have CV := Lib.hid cv
        obtain ⟨r, hre⟩ : ∃ r, chsB (xs.take j) = r := ⟨_, rfl⟩
        have hst3 := Lib.hid (show chsB (xs.take (j + 1)) = r ++ q by rw [hst2.out, hre])
        rw [hre] at hle ⊢
        clear cv hs hst hst2 hqe hre
        go_wp2_with fail
        refine (CV.out _).mono ?_
        rintro e2 w5 ⟨rfl, h2⟩
        have B5 := Lib.hid (below_step (B := w.heap.size) (w0 := w) (by (repeat' (first | with_reducible exact BR.out | with_reducible exact Below.refl _ _ | with_reducible refine below_drew1 ?_ | with_reducible refine below_drewN ?_ _ | with_reducible refine Below.alloc ?_ ?_ _ | with_reducible refine Below.setCell ?_ ?_ _ | omega | (simp; done) | (simp; omega)))) (by (first | omega | (simp; done) | (simp; omega))) h2)
        clear h2
        go_wp2
        go_roundw
        case rel => exact ⟨j + 1, by omega, by go_num, by rw [hst3.out], B5.out⟩
        case measure => simp [intOf]; omega
      · have hje : j = n := by omega
        subst hje
        have htk : xs.take j = xs := List.take_of_length_le (Nat.le_of_eq HL.out)
        rw [htk] at hle ⊢
        have HZ := Lib.hid (show pkHead f t g ++ zeros 4 ++ chsB xs = pkZ f t g xs from rfl)
        have hzs := pkZ_size f t g xs
        obtain ⟨hr0, hr1⟩ := sumV_range (pkZ f t g xs)
        generalize pkHead f t g = hd at *
        have hz4 := zeros_size 4
        go_wp2_with fail
        simp only [z4_eq, HZ.out]
        refine (c_SumText (pkZ f t g xs) _ (by omega)).mono ?_
        rintro e2 w5 ⟨rfl, rfl⟩
        go_wp2_with fail
        refine (c_LongPut _ _ hr0 hr1).mono ?_
        rintro e2 w6 ⟨rfl, h6⟩
        have B6 := Lib.hid (below_step (B := w.heap.size) (w0 := w) (by (repeat' (first | with_reducible exact BR.out | with_reducible exact Below.refl _ _ | with_reducible refine below_drew1 ?_ | with_reducible refine below_drewN ?_ _ | with_reducible refine Below.alloc ?_ ?_ _ | with_reducible refine Below.setCell ?_ ?_ _ | omega | (simp; done) | (simp; omega)))) (by (first | omega | (simp; done) | (simp; omega))) h6)
        have hw4 := w4_size' (sumV (pkZ f t g xs))
        generalize w4 (sumV (pkZ f t g xs)) = sm at *
        go_wp2
        go_ret
        exact ⟨ret_string HPV.out.symm, B6.out⟩
end Go.Proofs.Ytfkajcljcbdjiaa
