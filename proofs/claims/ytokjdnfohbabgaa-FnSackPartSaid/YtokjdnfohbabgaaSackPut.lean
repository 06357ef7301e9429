/-
  Writing a receipt: the program's and the reference's functions.
-/
import Derived.Test.YtokjdnfohbabgaaGaps
import Derived.Test.YtokjdnfohbabgaaWordX
import Derived.IntWalk
namespace Go.Proofs.Ytokjdnfohbabgaa
set_option linter.unusedVariables false
set_option linter.unusedSimpArgs false
open Go.RowKit

/-- Blocks with two numbers each. -/
def gapsW : List (Int × Int) → ByteArray
  | [] => ⟨#[]⟩
  | g :: r => w2 g.1 ++ w2 g.2 ++ gapsW r
theorem gapsW_snoc (l : List (Int × Int)) (g : Int × Int) : gapsW (l ++ [g]) = gapsW l ++ w2 g.1 ++ w2 g.2 := by
  induction l with
  | nil => show w2 g.1 ++ w2 g.2 ++ ⟨#[]⟩ = ⟨#[]⟩ ++ w2 g.1 ++ w2 g.2; rw [app_empty, empty_app]
  | cons a l ih => show w2 a.1 ++ w2 a.2 ++ gapsW (l ++ [g]) = w2 a.1 ++ w2 a.2 ++ gapsW l ++ w2 g.1 ++ w2 g.2; rw [ih]; simp only [ByteArray.append_assoc]
theorem gapsW_size (l : List (Int × Int)) : (gapsW l).size = 4 * l.length := by
  induction l with
  | nil => rfl
  | cons a l ih => show (w2 a.1 ++ w2 a.2 ++ gapsW l).size = _; rw [ByteArray.size_append, ByteArray.size_append, ih, w2_size, w2_size]; simp; omega
/-- The body of a receipt's chunk. -/
def sackBody (cum : Int) (xs : List (Int × Int)) : ByteArray := w2 cum ++ gapsW xs
theorem sackBody_size (cum : Int) (xs : List (Int × Int)) : (sackBody cum xs).size = 2 + 4 * xs.length := by unfold sackBody; rw [ByteArray.size_append, gapsW_size, w2_size]
theorem w22_size (f t : Int) : (w2 f ++ w2 t).size = 4 := rfl
theorem sackBody_nil (cum : Int) : sackBody cum [] = w2 cum := by unfold sackBody gapsW; rw [app_empty]
theorem take_snocG (xs : List (Int × Int)) (j : Nat) (h : j < xs.length) : xs.take (j + 1) = xs.take j ++ [xs.getD j (0, 0)] := by
  rw [List.take_succ_eq_append_getElem h, List.getD_eq_getElem?_getD, List.getElem?_eq_getElem h]; rfl
theorem sackBody_step (cum : Int) (xs : List (Int × Int)) (j : Nat) (h : j < xs.length) : sackBody cum (xs.take (j + 1)) = sackBody cum (xs.take j) ++ w2 (xs.getD j (0, 0)).1 ++ w2 (xs.getD j (0, 0)).2 := by
  unfold sackBody
  rw [take_snocG xs j h, gapsW_snoc]
  simp only [ByteArray.append_assoc]
theorem gapsOk_range {l : Int} {xs : List (Int × Int)} (h : gapsOk l xs = true) (hl : -1 ≤ l) : ∀ i, i < xs.length → 0 ≤ (xs.getD i (0, 0)).1 ∧ (xs.getD i (0, 0)).1 ≤ 16 ∧ 0 ≤ (xs.getD i (0, 0)).2 ∧ (xs.getD i (0, 0)).2 ≤ 16 := by
  induction xs generalizing l with
  | nil => intro i hi; simp at hi
  | cons g r ih =>
    unfold gapsOk at h
    rw [Bool.and_eq_true] at h
    obtain ⟨h1, h2⟩ := h
    have h3 := of_decide_eq_true h1
    intro i hi
    match i with
    | 0 => show 0 ≤ g.1 ∧ g.1 ≤ 16 ∧ 0 ≤ g.2 ∧ g.2 ≤ 16; omega
    | i + 1 => exact ih h2 (by omega) i (by simpa using hi)
theorem sackOk_yes {cum : Int} {xs : List (Int × Int)} (h : sackOkV cum xs = true) : 0 ≤ cum ∧ cum ≤ 65535 ∧ xs.length ≤ 8 ∧ gapsOk 0 xs = true := by
  unfold sackOkV at h
  rw [Bool.and_eq_true, Bool.and_eq_true] at h
  obtain ⟨⟨h1, h2⟩, h3⟩ := h
  have := serOk_yes h1
  exact ⟨by omega, by omega, of_decide_eq_true h2, h3⟩
theorem wordsV1 (a : Int) : wordsV [a] = w2 a := by unfold wordsV wordsV; rw [app_empty]
theorem wordsV2 (a b : Int) : wordsV [a, b] = w2 a ++ w2 b := by unfold wordsV wordsV wordsV; rw [app_empty]
/-- One number, two numbers in a new row. -/
theorem c_words1 (a : Int) (w : World) (n : Nat) (hn : w.heap.size = n) (ha : 0 ≤ a) (ha1 : a ≤ 65535) :
    Calls Try.prog 42 #[.slice (some ⟨n, 0, none⟩) 1 1] (w.alloc (.cells #[.int .i64 a] 3)) fun e w' => e = .returned (.string (w2 a)) ∧ Below (w.alloc (.cells #[.int .i64 a] 3)).heap.size (w.alloc (.cells #[.int .i64 a] 3)) w' := by
  subst hn
  have h := c_words w.heap.size 1 [a] (w.alloc (.cells #[.int .i64 a] 3)) rfl (by omega) (fun i hi => (World.cell?_alloc_mark w _ _ (0, 0) i).trans (by
    match i, hi with
    | 0, _ => rfl)) (fun i hi => by
    match i, hi with
    | 0, _ => exact ⟨ha, ha1⟩) (by simp)
  rw [wordsV1] at h
  exact h
theorem c_words2 (a b : Int) (w : World) (n : Nat) (hn : w.heap.size = n) (ha : 0 ≤ a) (ha1 : a ≤ 65535) (hb : 0 ≤ b) (hb1 : b ≤ 65535) :
    Calls Try.prog 42 #[.slice (some ⟨n, 0, none⟩) 2 2] (w.alloc (.cells #[.int .i64 a, .int .i64 b] 3)) fun e w' => e = .returned (.string (w2 a ++ w2 b)) ∧ Below (w.alloc (.cells #[.int .i64 a, .int .i64 b] 3)).heap.size (w.alloc (.cells #[.int .i64 a, .int .i64 b] 3)) w' := by
  subst hn
  have h := c_words w.heap.size 2 [a, b] (w.alloc (.cells #[.int .i64 a, .int .i64 b] 3)) rfl (by omega) (fun i hi => (World.cell?_alloc_mark w _ _ (0, 0) i).trans (by
    match i, hi with
    | 0, _ => rfl
    | 1, _ => rfl)) (fun i hi => by
    match i, hi with
    | 0, _ => exact ⟨ha, ha1⟩
    | 1, _ => exact ⟨hb, hb1⟩) (by simp)
  rw [wordsV2] at h
  exact h

def sackNo : Value := .tuple #[.agg #[.int .i64 0, .int .i64 0, .string ⟨#[]⟩], .bool false]
theorem c_SackPut_no (cum : Int) (A : Option Addr) (n c : Nat) (xs : List (Int × Int)) (B : Nat) (w : World) (hG : Gaps w B A n xs) (hBw : B ≤ w.heap.size) (hn : n ≤ maxLen) (hok : sackOkV cum xs = false) :
    Calls Try.prog 17 #[.agg #[.int .i64 cum, .slice A n c]] w fun e w' => e = .returned sackNo ∧ Below w.heap.size w w' := by
  have hA := Nat.le_trans hBw (Nat.le_succ w.heap.size)
  have B0 := Lib.hid (Below.refl w.heap.size w)
  go_enter Try.func17, Try.ntmps17
  go_wp2_with fail
  refine (c_sackOk cum A n c xs B _ (by (repeat' (first | (with_reducible exact hG) | with_reducible refine Gaps.alloc ?_ ?_ _ | with_reducible refine Gaps.setCell ?_ ?_ _ | with_reducible refine Gaps.drew ?_ | with_reducible refine Gaps.drewN ?_ _ | omega | (simp; done) | (simp; omega)))) (by first | omega | (simp; done) | (simp; omega)) hn).mono ?_
  rintro e w1 ⟨rfl, h1⟩
  have P_1 : Blk w1 (w.heap.size) 28 #[.int .i64 cum, .slice A n c] := Blk.below (by (repeat' (first | (with_reducible refine Blk.drewN ?_ _) | (with_reducible refine Blk.drew ?_) | (with_reducible refine Blk.new1 ?hb; case hb => (first | omega | (simp; done) | (simp; omega))) | (with_reducible refine Blk.alloc ?_ _) | (with_reducible refine' Blk.set2_0 ?_ ?hb; case hb => (first | omega | (simp; done) | (simp; omega))) | (with_reducible refine' Blk.set2_1 ?_ ?hb; case hb => (first | omega | (simp; done) | (simp; omega))) | (with_reducible refine' Blk.set3_0 ?_ ?hb; case hb => (first | omega | (simp; done) | (simp; omega))) | (with_reducible refine' Blk.set3_1 ?_ ?hb; case hb => (first | omega | (simp; done) | (simp; omega))) | (with_reducible refine' Blk.set3_2 ?_ ?hb; case hb => (first | omega | (simp; done) | (simp; omega))) | (with_reducible refine' Blk.set4_0 ?_ ?hb; case hb => (first | omega | (simp; done) | (simp; omega))) | (with_reducible refine' Blk.set4_1 ?_ ?hb; case hb => (first | omega | (simp; done) | (simp; omega))) | (with_reducible refine' Blk.set4_2 ?_ ?hb; case hb => (first | omega | (simp; done) | (simp; omega))) | (with_reducible refine' Blk.set4_3 ?_ ?hb; case hb => (first | omega | (simp; done) | (simp; omega))) | (with_reducible refine' Blk.set7_0 ?_ ?hb; case hb => (first | omega | (simp; done) | (simp; omega))) | (with_reducible refine' Blk.set7_1 ?_ ?hb; case hb => (first | omega | (simp; done) | (simp; omega))) | (with_reducible refine' Blk.set7_2 ?_ ?hb; case hb => (first | omega | (simp; done) | (simp; omega))) | (with_reducible refine' Blk.set7_3 ?_ ?hb; case hb => (first | omega | (simp; done) | (simp; omega))) | (with_reducible refine' Blk.set7_4 ?_ ?hb; case hb => (first | omega | (simp; done) | (simp; omega))) | (with_reducible refine' Blk.set7_5 ?_ ?hb; case hb => (first | omega | (simp; done) | (simp; omega))) | (with_reducible refine' Blk.set7_6 ?_ ?hb; case hb => (first | omega | (simp; done) | (simp; omega))) | (with_reducible refine Blk.far ?_ ?hb _; case hb => (first | omega | (simp; done) | (simp; omega))) | fail))) h1 (by (first | omega | (simp; done) | (simp; omega)))
  have R_1 : Blk w1 (w.heap.size + 1) 24 #[.int .i64 0, .int .i64 0, .string ⟨#[]⟩] := Blk.below (by (repeat' (first | (with_reducible refine Blk.drewN ?_ _) | (with_reducible refine Blk.drew ?_) | (with_reducible refine Blk.new1 ?hb; case hb => (first | omega | (simp; done) | (simp; omega))) | (with_reducible refine Blk.alloc ?_ _) | (with_reducible refine' Blk.set2_0 ?_ ?hb; case hb => (first | omega | (simp; done) | (simp; omega))) | (with_reducible refine' Blk.set2_1 ?_ ?hb; case hb => (first | omega | (simp; done) | (simp; omega))) | (with_reducible refine' Blk.set3_0 ?_ ?hb; case hb => (first | omega | (simp; done) | (simp; omega))) | (with_reducible refine' Blk.set3_1 ?_ ?hb; case hb => (first | omega | (simp; done) | (simp; omega))) | (with_reducible refine' Blk.set3_2 ?_ ?hb; case hb => (first | omega | (simp; done) | (simp; omega))) | (with_reducible refine' Blk.set4_0 ?_ ?hb; case hb => (first | omega | (simp; done) | (simp; omega))) | (with_reducible refine' Blk.set4_1 ?_ ?hb; case hb => (first | omega | (simp; done) | (simp; omega))) | (with_reducible refine' Blk.set4_2 ?_ ?hb; case hb => (first | omega | (simp; done) | (simp; omega))) | (with_reducible refine' Blk.set4_3 ?_ ?hb; case hb => (first | omega | (simp; done) | (simp; omega))) | (with_reducible refine' Blk.set7_0 ?_ ?hb; case hb => (first | omega | (simp; done) | (simp; omega))) | (with_reducible refine' Blk.set7_1 ?_ ?hb; case hb => (first | omega | (simp; done) | (simp; omega))) | (with_reducible refine' Blk.set7_2 ?_ ?hb; case hb => (first | omega | (simp; done) | (simp; omega))) | (with_reducible refine' Blk.set7_3 ?_ ?hb; case hb => (first | omega | (simp; done) | (simp; omega))) | (with_reducible refine' Blk.set7_4 ?_ ?hb; case hb => (first | omega | (simp; done) | (simp; omega))) | (with_reducible refine' Blk.set7_5 ?_ ?hb; case hb => (first | omega | (simp; done) | (simp; omega))) | (with_reducible refine' Blk.set7_6 ?_ ?hb; case hb => (first | omega | (simp; done) | (simp; omega))) | (with_reducible refine Blk.far ?_ ?hb _; case hb => (first | omega | (simp; done) | (simp; omega))) | fail))) h1 (by (first | omega | (simp; done) | (simp; omega)))
  have B1 := Lib.hid (below_step (B := w.heap.size) (w0 := w) (by (repeat' (first | with_reducible exact B0.out | with_reducible exact Below.refl _ _ | with_reducible refine below_drew1 ?_ | with_reducible refine below_drewN ?_ _ | with_reducible refine Below.alloc ?_ ?_ _ | with_reducible refine Below.setCell ?_ ?_ _ | omega | (simp; done) | (simp; omega)))) (by have := B0.out.size; (first | omega | (simp; done) | (simp; omega))) h1)
  have z1 : w.heap.size ≤ w1.heap.size := B1.out.size
  clear h1 B0
  obtain ⟨⟨P_0_, P_1_⟩, P_f0_, P_f1_⟩ := P_1.get2n
  have P_l := P_1.lt
  have P_l1_ : w.heap.size < w1.heap.size + 1 := by omega
  have P_l2_ : w.heap.size < w1.heap.size + 2 := by omega
  have P_l3_ : w.heap.size < w1.heap.size + 3 := by omega
  have P_l4_ : w.heap.size < w1.heap.size + 4 := by omega
  obtain ⟨⟨R_0_, R_1_, R_2_⟩, R_f0_, R_f1_, R_f2_⟩ := R_1.get3n
  have R_l := R_1.lt
  have R_l0_ : w.heap.size < w1.heap.size + 0 := by omega
  have R_l1_ : w.heap.size < w1.heap.size + 1 := by omega
  have R_l2_ : w.heap.size < w1.heap.size + 2 := by omega
  have R_l3_ : w.heap.size < w1.heap.size + 3 := by omega
  have R_l4_ : w.heap.size < w1.heap.size + 4 := by omega
  go_wp2
  exact bodyPost_ret (v := sackNo) (by simp [sackNo, results, Try.results17, go_sem, R_0_, R_1_, R_2_]) rfl ⟨rfl, by (repeat' (first | with_reducible exact B1.out | with_reducible exact Below.refl _ _ | with_reducible refine below_drew1 ?_ | with_reducible refine below_drewN ?_ _ | with_reducible refine Below.alloc ?_ ?_ _ | with_reducible refine Below.setCell ?_ ?_ _ | omega | (simp; done) | (simp; omega)))⟩
theorem c_sSackPut_no (cum : Int) (A : Option Addr) (n c : Nat) (xs : List (Int × Int)) (B : Nat) (w : World) (hG : Gaps w B A n xs) (hBw : B ≤ w.heap.size) (hn : n ≤ maxLen) (hok : sackOkV cum xs = false) :
    Calls Try.prog 19 #[.agg #[.int .i64 cum, .slice A n c]] w fun e w' => e = .returned sackNo ∧ Below w.heap.size w w' := by
  have hA := Nat.le_trans hBw (Nat.le_succ w.heap.size)
  have B0 := Lib.hid (Below.refl w.heap.size w)
  go_enter Try.func19, Try.ntmps19
  go_wp2_with fail
  refine (c_l12Sack cum A n c xs B _ (by (repeat' (first | (with_reducible exact hG) | with_reducible refine Gaps.alloc ?_ ?_ _ | with_reducible refine Gaps.setCell ?_ ?_ _ | with_reducible refine Gaps.drew ?_ | with_reducible refine Gaps.drewN ?_ _ | omega | (simp; done) | (simp; omega)))) (by first | omega | (simp; done) | (simp; omega)) hn).mono ?_
  rintro e w1 ⟨rfl, h1⟩
  have P_1 : Blk w1 (w.heap.size) 28 #[.int .i64 cum, .slice A n c] := Blk.below (by (repeat' (first | (with_reducible refine Blk.drewN ?_ _) | (with_reducible refine Blk.drew ?_) | (with_reducible refine Blk.new1 ?hb; case hb => (first | omega | (simp; done) | (simp; omega))) | (with_reducible refine Blk.alloc ?_ _) | (with_reducible refine' Blk.set2_0 ?_ ?hb; case hb => (first | omega | (simp; done) | (simp; omega))) | (with_reducible refine' Blk.set2_1 ?_ ?hb; case hb => (first | omega | (simp; done) | (simp; omega))) | (with_reducible refine' Blk.set3_0 ?_ ?hb; case hb => (first | omega | (simp; done) | (simp; omega))) | (with_reducible refine' Blk.set3_1 ?_ ?hb; case hb => (first | omega | (simp; done) | (simp; omega))) | (with_reducible refine' Blk.set3_2 ?_ ?hb; case hb => (first | omega | (simp; done) | (simp; omega))) | (with_reducible refine' Blk.set4_0 ?_ ?hb; case hb => (first | omega | (simp; done) | (simp; omega))) | (with_reducible refine' Blk.set4_1 ?_ ?hb; case hb => (first | omega | (simp; done) | (simp; omega))) | (with_reducible refine' Blk.set4_2 ?_ ?hb; case hb => (first | omega | (simp; done) | (simp; omega))) | (with_reducible refine' Blk.set4_3 ?_ ?hb; case hb => (first | omega | (simp; done) | (simp; omega))) | (with_reducible refine' Blk.set7_0 ?_ ?hb; case hb => (first | omega | (simp; done) | (simp; omega))) | (with_reducible refine' Blk.set7_1 ?_ ?hb; case hb => (first | omega | (simp; done) | (simp; omega))) | (with_reducible refine' Blk.set7_2 ?_ ?hb; case hb => (first | omega | (simp; done) | (simp; omega))) | (with_reducible refine' Blk.set7_3 ?_ ?hb; case hb => (first | omega | (simp; done) | (simp; omega))) | (with_reducible refine' Blk.set7_4 ?_ ?hb; case hb => (first | omega | (simp; done) | (simp; omega))) | (with_reducible refine' Blk.set7_5 ?_ ?hb; case hb => (first | omega | (simp; done) | (simp; omega))) | (with_reducible refine' Blk.set7_6 ?_ ?hb; case hb => (first | omega | (simp; done) | (simp; omega))) | (with_reducible refine Blk.far ?_ ?hb _; case hb => (first | omega | (simp; done) | (simp; omega))) | fail))) h1 (by (first | omega | (simp; done) | (simp; omega)))
  have R_1 : Blk w1 (w.heap.size + 1) 24 #[.int .i64 0, .int .i64 0, .string ⟨#[]⟩] := Blk.below (by (repeat' (first | (with_reducible refine Blk.drewN ?_ _) | (with_reducible refine Blk.drew ?_) | (with_reducible refine Blk.new1 ?hb; case hb => (first | omega | (simp; done) | (simp; omega))) | (with_reducible refine Blk.alloc ?_ _) | (with_reducible refine' Blk.set2_0 ?_ ?hb; case hb => (first | omega | (simp; done) | (simp; omega))) | (with_reducible refine' Blk.set2_1 ?_ ?hb; case hb => (first | omega | (simp; done) | (simp; omega))) | (with_reducible refine' Blk.set3_0 ?_ ?hb; case hb => (first | omega | (simp; done) | (simp; omega))) | (with_reducible refine' Blk.set3_1 ?_ ?hb; case hb => (first | omega | (simp; done) | (simp; omega))) | (with_reducible refine' Blk.set3_2 ?_ ?hb; case hb => (first | omega | (simp; done) | (simp; omega))) | (with_reducible refine' Blk.set4_0 ?_ ?hb; case hb => (first | omega | (simp; done) | (simp; omega))) | (with_reducible refine' Blk.set4_1 ?_ ?hb; case hb => (first | omega | (simp; done) | (simp; omega))) | (with_reducible refine' Blk.set4_2 ?_ ?hb; case hb => (first | omega | (simp; done) | (simp; omega))) | (with_reducible refine' Blk.set4_3 ?_ ?hb; case hb => (first | omega | (simp; done) | (simp; omega))) | (with_reducible refine' Blk.set7_0 ?_ ?hb; case hb => (first | omega | (simp; done) | (simp; omega))) | (with_reducible refine' Blk.set7_1 ?_ ?hb; case hb => (first | omega | (simp; done) | (simp; omega))) | (with_reducible refine' Blk.set7_2 ?_ ?hb; case hb => (first | omega | (simp; done) | (simp; omega))) | (with_reducible refine' Blk.set7_3 ?_ ?hb; case hb => (first | omega | (simp; done) | (simp; omega))) | (with_reducible refine' Blk.set7_4 ?_ ?hb; case hb => (first | omega | (simp; done) | (simp; omega))) | (with_reducible refine' Blk.set7_5 ?_ ?hb; case hb => (first | omega | (simp; done) | (simp; omega))) | (with_reducible refine' Blk.set7_6 ?_ ?hb; case hb => (first | omega | (simp; done) | (simp; omega))) | (with_reducible refine Blk.far ?_ ?hb _; case hb => (first | omega | (simp; done) | (simp; omega))) | fail))) h1 (by (first | omega | (simp; done) | (simp; omega)))
  have B1 := Lib.hid (below_step (B := w.heap.size) (w0 := w) (by (repeat' (first | with_reducible exact B0.out | with_reducible exact Below.refl _ _ | with_reducible refine below_drew1 ?_ | with_reducible refine below_drewN ?_ _ | with_reducible refine Below.alloc ?_ ?_ _ | with_reducible refine Below.setCell ?_ ?_ _ | omega | (simp; done) | (simp; omega)))) (by have := B0.out.size; (first | omega | (simp; done) | (simp; omega))) h1)
  have z1 : w.heap.size ≤ w1.heap.size := B1.out.size
  clear h1 B0
  obtain ⟨⟨P_0_, P_1_⟩, P_f0_, P_f1_⟩ := P_1.get2n
  have P_l := P_1.lt
  have P_l1_ : w.heap.size < w1.heap.size + 1 := by omega
  have P_l2_ : w.heap.size < w1.heap.size + 2 := by omega
  have P_l3_ : w.heap.size < w1.heap.size + 3 := by omega
  have P_l4_ : w.heap.size < w1.heap.size + 4 := by omega
  obtain ⟨⟨R_0_, R_1_, R_2_⟩, R_f0_, R_f1_, R_f2_⟩ := R_1.get3n
  have R_l := R_1.lt
  have R_l0_ : w.heap.size < w1.heap.size + 0 := by omega
  have R_l1_ : w.heap.size < w1.heap.size + 1 := by omega
  have R_l2_ : w.heap.size < w1.heap.size + 2 := by omega
  have R_l3_ : w.heap.size < w1.heap.size + 3 := by omega
  have R_l4_ : w.heap.size < w1.heap.size + 4 := by omega
  go_wp2
  exact bodyPost_ret (v := sackNo) (by simp [sackNo, results, Try.results19, go_sem, R_0_, R_1_, R_2_]) rfl ⟨rfl, by (repeat' (first | with_reducible exact B1.out | with_reducible exact Below.refl _ _ | with_reducible refine below_drew1 ?_ | with_reducible refine below_drewN ?_ _ | with_reducible refine Below.alloc ?_ ?_ _ | with_reducible refine Below.setCell ?_ ?_ _ | omega | (simp; done) | (simp; omega)))⟩
def sackYes (cum : Int) (xs : List (Int × Int)) : Value := .tuple #[.agg #[.int .i64 3, .int .i64 0, .string (sackBody cum xs)], .bool true]
set_option maxHeartbeats 4000000 in
theorem c_SackPut_yes (cum : Int) (A : Option Addr) (n c : Nat) (xs : List (Int × Int)) (B : Nat) (w : World) (hG : Gaps w B A n xs) (hBw : B ≤ w.heap.size) (hok : sackOkV cum xs = true) :
    Calls Try.prog 17 #[.agg #[.int .i64 cum, .slice A n c]] w fun e w' => e = .returned (sackYes cum xs) ∧ Below w.heap.size w w' := by
  obtain ⟨hc0, hc1, hx8, hgo⟩ := sackOk_yes hok
  have HRG := Lib.hid (gapsOk_range hgo (by omega))
  have HL := Lib.hid hG.1
  have hn8 : n ≤ 8 := by rw [← HL.out]; exact hx8
  have hA := Nat.le_trans hBw (Nat.le_succ w.heap.size)
  clear hx8 hgo
  have B0 := Lib.hid (Below.refl w.heap.size w)
  go_enter Try.func17, Try.ntmps17
  go_wp2_with fail
  refine (c_sackOk cum A n c xs B _ (by (repeat' (first | (with_reducible exact hG) | with_reducible refine Gaps.alloc ?_ ?_ _ | with_reducible refine Gaps.setCell ?_ ?_ _ | with_reducible refine Gaps.drew ?_ | with_reducible refine Gaps.drewN ?_ _ | omega | (simp; done) | (simp; omega)))) (by first | omega | (simp; done) | (simp; omega)) (by unfold maxLen; omega)).mono ?_
  rintro e w1 ⟨rfl, h1⟩
  have P_1 : Blk w1 (w.heap.size) 28 #[.int .i64 cum, .slice A n c] := Blk.below (by (repeat' (first | (with_reducible refine Blk.drewN ?_ _) | (with_reducible refine Blk.drew ?_) | (with_reducible refine Blk.new1 ?hb; case hb => (first | omega | (simp; done) | (simp; omega))) | (with_reducible refine Blk.alloc ?_ _) | (with_reducible refine' Blk.set2_0 ?_ ?hb; case hb => (first | omega | (simp; done) | (simp; omega))) | (with_reducible refine' Blk.set2_1 ?_ ?hb; case hb => (first | omega | (simp; done) | (simp; omega))) | (with_reducible refine' Blk.set3_0 ?_ ?hb; case hb => (first | omega | (simp; done) | (simp; omega))) | (with_reducible refine' Blk.set3_1 ?_ ?hb; case hb => (first | omega | (simp; done) | (simp; omega))) | (with_reducible refine' Blk.set3_2 ?_ ?hb; case hb => (first | omega | (simp; done) | (simp; omega))) | (with_reducible refine' Blk.set4_0 ?_ ?hb; case hb => (first | omega | (simp; done) | (simp; omega))) | (with_reducible refine' Blk.set4_1 ?_ ?hb; case hb => (first | omega | (simp; done) | (simp; omega))) | (with_reducible refine' Blk.set4_2 ?_ ?hb; case hb => (first | omega | (simp; done) | (simp; omega))) | (with_reducible refine' Blk.set4_3 ?_ ?hb; case hb => (first | omega | (simp; done) | (simp; omega))) | (with_reducible refine' Blk.set7_0 ?_ ?hb; case hb => (first | omega | (simp; done) | (simp; omega))) | (with_reducible refine' Blk.set7_1 ?_ ?hb; case hb => (first | omega | (simp; done) | (simp; omega))) | (with_reducible refine' Blk.set7_2 ?_ ?hb; case hb => (first | omega | (simp; done) | (simp; omega))) | (with_reducible refine' Blk.set7_3 ?_ ?hb; case hb => (first | omega | (simp; done) | (simp; omega))) | (with_reducible refine' Blk.set7_4 ?_ ?hb; case hb => (first | omega | (simp; done) | (simp; omega))) | (with_reducible refine' Blk.set7_5 ?_ ?hb; case hb => (first | omega | (simp; done) | (simp; omega))) | (with_reducible refine' Blk.set7_6 ?_ ?hb; case hb => (first | omega | (simp; done) | (simp; omega))) | (with_reducible refine Blk.far ?_ ?hb _; case hb => (first | omega | (simp; done) | (simp; omega))) | fail))) h1 (by (first | omega | (simp; done) | (simp; omega)))
  have R_1 : Blk w1 (w.heap.size + 1) 24 #[.int .i64 0, .int .i64 0, .string ⟨#[]⟩] := Blk.below (by (repeat' (first | (with_reducible refine Blk.drewN ?_ _) | (with_reducible refine Blk.drew ?_) | (with_reducible refine Blk.new1 ?hb; case hb => (first | omega | (simp; done) | (simp; omega))) | (with_reducible refine Blk.alloc ?_ _) | (with_reducible refine' Blk.set2_0 ?_ ?hb; case hb => (first | omega | (simp; done) | (simp; omega))) | (with_reducible refine' Blk.set2_1 ?_ ?hb; case hb => (first | omega | (simp; done) | (simp; omega))) | (with_reducible refine' Blk.set3_0 ?_ ?hb; case hb => (first | omega | (simp; done) | (simp; omega))) | (with_reducible refine' Blk.set3_1 ?_ ?hb; case hb => (first | omega | (simp; done) | (simp; omega))) | (with_reducible refine' Blk.set3_2 ?_ ?hb; case hb => (first | omega | (simp; done) | (simp; omega))) | (with_reducible refine' Blk.set4_0 ?_ ?hb; case hb => (first | omega | (simp; done) | (simp; omega))) | (with_reducible refine' Blk.set4_1 ?_ ?hb; case hb => (first | omega | (simp; done) | (simp; omega))) | (with_reducible refine' Blk.set4_2 ?_ ?hb; case hb => (first | omega | (simp; done) | (simp; omega))) | (with_reducible refine' Blk.set4_3 ?_ ?hb; case hb => (first | omega | (simp; done) | (simp; omega))) | (with_reducible refine' Blk.set7_0 ?_ ?hb; case hb => (first | omega | (simp; done) | (simp; omega))) | (with_reducible refine' Blk.set7_1 ?_ ?hb; case hb => (first | omega | (simp; done) | (simp; omega))) | (with_reducible refine' Blk.set7_2 ?_ ?hb; case hb => (first | omega | (simp; done) | (simp; omega))) | (with_reducible refine' Blk.set7_3 ?_ ?hb; case hb => (first | omega | (simp; done) | (simp; omega))) | (with_reducible refine' Blk.set7_4 ?_ ?hb; case hb => (first | omega | (simp; done) | (simp; omega))) | (with_reducible refine' Blk.set7_5 ?_ ?hb; case hb => (first | omega | (simp; done) | (simp; omega))) | (with_reducible refine' Blk.set7_6 ?_ ?hb; case hb => (first | omega | (simp; done) | (simp; omega))) | (with_reducible refine Blk.far ?_ ?hb _; case hb => (first | omega | (simp; done) | (simp; omega))) | fail))) h1 (by (first | omega | (simp; done) | (simp; omega)))
  have B1 := Lib.hid (below_step (B := w.heap.size) (w0 := w) (by (repeat' (first | with_reducible exact B0.out | with_reducible exact Below.refl _ _ | with_reducible refine below_drew1 ?_ | with_reducible refine below_drewN ?_ _ | with_reducible refine Below.alloc ?_ ?_ _ | with_reducible refine Below.setCell ?_ ?_ _ | omega | (simp; done) | (simp; omega)))) (by have := B0.out.size; (first | omega | (simp; done) | (simp; omega))) h1)
  have z1 : w.heap.size ≤ w1.heap.size := B1.out.size
  clear h1 B0
  obtain ⟨⟨P_0_, P_1_⟩, P_f0_, P_f1_⟩ := P_1.get2n
  have P_l := P_1.lt
  have P_l1_ : w.heap.size < w1.heap.size + 1 := by omega
  have P_l2_ : w.heap.size < w1.heap.size + 2 := by omega
  have P_l3_ : w.heap.size < w1.heap.size + 3 := by omega
  have P_l4_ : w.heap.size < w1.heap.size + 4 := by omega
  obtain ⟨⟨R_0_, R_1_, R_2_⟩, R_f0_, R_f1_, R_f2_⟩ := R_1.get3n
  have R_l := R_1.lt
  have R_l0_ : w.heap.size < w1.heap.size + 0 := by omega
  have R_l1_ : w.heap.size < w1.heap.size + 1 := by omega
  have R_l2_ : w.heap.size < w1.heap.size + 2 := by omega
  have R_l3_ : w.heap.size < w1.heap.size + 3 := by omega
  have R_l4_ : w.heap.size < w1.heap.size + 4 := by omega
  go_wp2_with fail
  refine (c_words1 cum _ _ rfl hc0 hc1).mono ?_
  rintro e w2 ⟨rfl, h2⟩
  have P_2 : Blk w2 (w.heap.size) 28 #[.int .i64 cum, .slice A n c] := Blk.below (by (repeat' (first | (with_reducible exact P_1) | (with_reducible refine Blk.drewN ?_ _) | (with_reducible refine Blk.drew ?_) | (with_reducible refine Blk.new1 ?hb; case hb => (first | omega | (simp; done) | (simp; omega))) | (with_reducible refine Blk.alloc ?_ _) | (with_reducible refine' Blk.set2_0 ?_ ?hb; case hb => (first | omega | (simp; done) | (simp; omega))) | (with_reducible refine' Blk.set2_1 ?_ ?hb; case hb => (first | omega | (simp; done) | (simp; omega))) | (with_reducible refine' Blk.set3_0 ?_ ?hb; case hb => (first | omega | (simp; done) | (simp; omega))) | (with_reducible refine' Blk.set3_1 ?_ ?hb; case hb => (first | omega | (simp; done) | (simp; omega))) | (with_reducible refine' Blk.set3_2 ?_ ?hb; case hb => (first | omega | (simp; done) | (simp; omega))) | (with_reducible refine' Blk.set4_0 ?_ ?hb; case hb => (first | omega | (simp; done) | (simp; omega))) | (with_reducible refine' Blk.set4_1 ?_ ?hb; case hb => (first | omega | (simp; done) | (simp; omega))) | (with_reducible refine' Blk.set4_2 ?_ ?hb; case hb => (first | omega | (simp; done) | (simp; omega))) | (with_reducible refine' Blk.set4_3 ?_ ?hb; case hb => (first | omega | (simp; done) | (simp; omega))) | (with_reducible refine' Blk.set7_0 ?_ ?hb; case hb => (first | omega | (simp; done) | (simp; omega))) | (with_reducible refine' Blk.set7_1 ?_ ?hb; case hb => (first | omega | (simp; done) | (simp; omega))) | (with_reducible refine' Blk.set7_2 ?_ ?hb; case hb => (first | omega | (simp; done) | (simp; omega))) | (with_reducible refine' Blk.set7_3 ?_ ?hb; case hb => (first | omega | (simp; done) | (simp; omega))) | (with_reducible refine' Blk.set7_4 ?_ ?hb; case hb => (first | omega | (simp; done) | (simp; omega))) | (with_reducible refine' Blk.set7_5 ?_ ?hb; case hb => (first | omega | (simp; done) | (simp; omega))) | (with_reducible refine' Blk.set7_6 ?_ ?hb; case hb => (first | omega | (simp; done) | (simp; omega))) | (with_reducible refine Blk.far ?_ ?hb _; case hb => (first | omega | (simp; done) | (simp; omega))) | fail))) h2 (by (first | omega | (simp; done) | (simp; omega)))
  have R_2 : Blk w2 (w.heap.size + 1) 24 #[.int .i64 0, .int .i64 0, .string ⟨#[]⟩] := Blk.below (by (repeat' (first | (with_reducible exact R_1) | (with_reducible refine Blk.drewN ?_ _) | (with_reducible refine Blk.drew ?_) | (with_reducible refine Blk.new1 ?hb; case hb => (first | omega | (simp; done) | (simp; omega))) | (with_reducible refine Blk.alloc ?_ _) | (with_reducible refine' Blk.set2_0 ?_ ?hb; case hb => (first | omega | (simp; done) | (simp; omega))) | (with_reducible refine' Blk.set2_1 ?_ ?hb; case hb => (first | omega | (simp; done) | (simp; omega))) | (with_reducible refine' Blk.set3_0 ?_ ?hb; case hb => (first | omega | (simp; done) | (simp; omega))) | (with_reducible refine' Blk.set3_1 ?_ ?hb; case hb => (first | omega | (simp; done) | (simp; omega))) | (with_reducible refine' Blk.set3_2 ?_ ?hb; case hb => (first | omega | (simp; done) | (simp; omega))) | (with_reducible refine' Blk.set4_0 ?_ ?hb; case hb => (first | omega | (simp; done) | (simp; omega))) | (with_reducible refine' Blk.set4_1 ?_ ?hb; case hb => (first | omega | (simp; done) | (simp; omega))) | (with_reducible refine' Blk.set4_2 ?_ ?hb; case hb => (first | omega | (simp; done) | (simp; omega))) | (with_reducible refine' Blk.set4_3 ?_ ?hb; case hb => (first | omega | (simp; done) | (simp; omega))) | (with_reducible refine' Blk.set7_0 ?_ ?hb; case hb => (first | omega | (simp; done) | (simp; omega))) | (with_reducible refine' Blk.set7_1 ?_ ?hb; case hb => (first | omega | (simp; done) | (simp; omega))) | (with_reducible refine' Blk.set7_2 ?_ ?hb; case hb => (first | omega | (simp; done) | (simp; omega))) | (with_reducible refine' Blk.set7_3 ?_ ?hb; case hb => (first | omega | (simp; done) | (simp; omega))) | (with_reducible refine' Blk.set7_4 ?_ ?hb; case hb => (first | omega | (simp; done) | (simp; omega))) | (with_reducible refine' Blk.set7_5 ?_ ?hb; case hb => (first | omega | (simp; done) | (simp; omega))) | (with_reducible refine' Blk.set7_6 ?_ ?hb; case hb => (first | omega | (simp; done) | (simp; omega))) | (with_reducible refine Blk.far ?_ ?hb _; case hb => (first | omega | (simp; done) | (simp; omega))) | fail))) h2 (by (first | omega | (simp; done) | (simp; omega)))
  have B2 := Lib.hid (below_step (B := w.heap.size) (w0 := w) (by (repeat' (first | with_reducible exact B1.out | with_reducible exact Below.refl _ _ | with_reducible refine below_drew1 ?_ | with_reducible refine below_drewN ?_ _ | with_reducible refine Below.alloc ?_ ?_ _ | with_reducible refine Below.setCell ?_ ?_ _ | omega | (simp; done) | (simp; omega)))) (by have := B1.out.size; (first | omega | (simp; done) | (simp; omega))) h2)
  have z2 : w.heap.size ≤ w2.heap.size := B2.out.size
  clear h2 B1 z1 P_1 R_1
  try clear P_l P_0_ P_1_ P_l1_ P_l2_ P_l3_ P_l4_ R_l R_0_ R_1_ R_2_ R_l0_ R_l1_ R_l2_ R_l3_ R_l4_
  obtain ⟨⟨P_0_, P_1_⟩, P_f0_, P_f1_⟩ := P_2.get2n
  have P_l := P_2.lt
  have P_l1_ : w.heap.size < w2.heap.size + 1 := by omega
  have P_l2_ : w.heap.size < w2.heap.size + 2 := by omega
  have P_l3_ : w.heap.size < w2.heap.size + 3 := by omega
  have P_l4_ : w.heap.size < w2.heap.size + 4 := by omega
  obtain ⟨⟨R_0_, R_1_, R_2_⟩, R_f0_, R_f1_, R_f2_⟩ := R_2.get3n
  have R_l := R_2.lt
  have R_l0_ : w.heap.size < w2.heap.size + 0 := by omega
  have R_l1_ : w.heap.size < w2.heap.size + 1 := by omega
  have R_l2_ : w.heap.size < w2.heap.size + 2 := by omega
  have R_l3_ : w.heap.size < w2.heap.size + 3 := by omega
  have R_l4_ : w.heap.size < w2.heap.size + 4 := by omega
  have HR := Lib.hid R_2
  have HP := Lib.hid P_2
  clear R_2 P_2
  clear R_0_ R_1_ R_2_ R_f0_ R_f1_ R_f2_
  go_wp2
  go_loopw [4, 6, 18] (fun body _ i wr => ∃ j : Nat, j ≤ n ∧ i = .int .i64 j ∧ body = .string (sackBody cum (xs.take j)) ∧ Blk wr (w.heap.size + 1) 24 #[.int .i64 0, .int .i64 0, .string ⟨#[]⟩] ∧ Below w.heap.size w wr) (fun _ _ i _ => n - (intOf i).toNat)
  case atStart => exact ⟨0, Nat.zero_le _, rfl, by rw [List.take_zero, sackBody_nil], HR.out, by (repeat' (first | with_reducible exact B2.out | with_reducible exact Below.refl _ _ | with_reducible refine below_drew1 ?_ | with_reducible refine below_drewN ?_ _ | with_reducible refine Below.alloc ?_ ?_ _ | with_reducible refine Below.setCell ?_ ?_ _ | omega | (simp; done) | (simp; omega)))⟩
  case round =>
    obtain ⟨j, hj, rfl, rfl, hR, hB⟩ := hrel
    have B3 := Lib.hid hB
    have HR3 := Lib.hid hR
    have hz := hR.lt
    clear hB
    by_cases hlt : j < n
    · obtain ⟨b, o, rfl, hb, hc⟩ := hG.2 (by omega)
      obtain ⟨cc0, cc1⟩ := hc j hlt
      have hb := Nat.lt_of_lt_of_le hb hBw
      have d0 := (B3.out.cell (p := ⟨b, o + j * 2, none⟩) hb).trans cc0
      have d1 := (B3.out.cell (p := ⟨b, o + j * 2 + 1, none⟩) hb).trans cc1
      have hst := Lib.hid (sackBody_step cum xs j (by rw [HL.out]; exact hlt))
      have hrg := HRG.out j (by rw [HL.out]; exact hlt)
      have hbs : (sackBody cum (xs.take j)).size ≤ 34 := by rw [sackBody_size, List.length_take]; omega
      generalize hgx : xs.getD j (0, 0) = g at *
      obtain ⟨f, t⟩ := g
      obtain ⟨g0, g1, g2, g3⟩ := hrg
      clear hgx hc cc0 cc1 hG hBw hA
      simp only at d0 d1 g0 g1 g2 g3
      have hxl : ¬ 9223372036854775807 < (sackBody cum (xs.take j)).size + 4 := by omega
      have hw4 := w22_size f t
      go_wp2_with fail
      refine (c_words2 f t _ _ (by simp) g0 (by omega) g2 (by omega)).mono ?_
      rintro e w4 ⟨rfl, h4⟩
      have hR4 : Blk w4 (w.heap.size + 1) 24 #[.int .i64 0, .int .i64 0, .string ⟨#[]⟩] := Blk.below (by (repeat' (first | (with_reducible exact HR3.out) | (with_reducible refine Blk.drewN ?_ _) | (with_reducible refine Blk.drew ?_) | (with_reducible refine Blk.new1 ?hb; case hb => (first | omega | (simp; done) | (simp; omega))) | (with_reducible refine Blk.alloc ?_ _) | (with_reducible refine' Blk.set2_0 ?_ ?hb; case hb => (first | omega | (simp; done) | (simp; omega))) | (with_reducible refine' Blk.set2_1 ?_ ?hb; case hb => (first | omega | (simp; done) | (simp; omega))) | (with_reducible refine' Blk.set3_0 ?_ ?hb; case hb => (first | omega | (simp; done) | (simp; omega))) | (with_reducible refine' Blk.set3_1 ?_ ?hb; case hb => (first | omega | (simp; done) | (simp; omega))) | (with_reducible refine' Blk.set3_2 ?_ ?hb; case hb => (first | omega | (simp; done) | (simp; omega))) | (with_reducible refine' Blk.set4_0 ?_ ?hb; case hb => (first | omega | (simp; done) | (simp; omega))) | (with_reducible refine' Blk.set4_1 ?_ ?hb; case hb => (first | omega | (simp; done) | (simp; omega))) | (with_reducible refine' Blk.set4_2 ?_ ?hb; case hb => (first | omega | (simp; done) | (simp; omega))) | (with_reducible refine' Blk.set4_3 ?_ ?hb; case hb => (first | omega | (simp; done) | (simp; omega))) | (with_reducible refine' Blk.set7_0 ?_ ?hb; case hb => (first | omega | (simp; done) | (simp; omega))) | (with_reducible refine' Blk.set7_1 ?_ ?hb; case hb => (first | omega | (simp; done) | (simp; omega))) | (with_reducible refine' Blk.set7_2 ?_ ?hb; case hb => (first | omega | (simp; done) | (simp; omega))) | (with_reducible refine' Blk.set7_3 ?_ ?hb; case hb => (first | omega | (simp; done) | (simp; omega))) | (with_reducible refine' Blk.set7_4 ?_ ?hb; case hb => (first | omega | (simp; done) | (simp; omega))) | (with_reducible refine' Blk.set7_5 ?_ ?hb; case hb => (first | omega | (simp; done) | (simp; omega))) | (with_reducible refine' Blk.set7_6 ?_ ?hb; case hb => (first | omega | (simp; done) | (simp; omega))) | (with_reducible refine Blk.far ?_ ?hb _; case hb => (first | omega | (simp; done) | (simp; omega))) | fail))) h4 (by first | omega | (simp; done) | (simp; omega))
      have B4 := Lib.hid (below_step (B := w.heap.size) (w0 := w) (by (repeat' (first | with_reducible exact B3.out | with_reducible exact Below.refl _ _ | with_reducible refine below_drew1 ?_ | with_reducible refine below_drewN ?_ _ | with_reducible refine Below.alloc ?_ ?_ _ | with_reducible refine Below.setCell ?_ ?_ _ | omega | (simp; done) | (simp; omega)))) (by have := B3.out.size; (first | omega | (simp; done) | (simp; omega))) h4)
      clear h4 B3
      go_wp2
      go_roundw
      case rel => exact ⟨j + 1, by omega, by go_num, by rw [hst.out, ByteArray.append_assoc], hR4, B4.out⟩
      case measure => simp [intOf]; omega
    · have hje : j = n := by omega
      subst hje
      have hr := Lib.hid (show xs.take j = xs by rw [List.take_of_length_le (Nat.le_of_eq HL.out)])
      obtain ⟨⟨r0, r1, r2⟩, f0, f1, f2⟩ := hR.get3n
      clear hR
      go_wp2
      exact bodyPost_ret (v := sackYes cum xs) (by simp [sackYes, results, Try.results17, go_sem, r0, r1, r2, hr.out]) rfl ⟨rfl, by (repeat' (first | with_reducible exact B3.out | with_reducible exact Below.refl _ _ | with_reducible refine below_drew1 ?_ | with_reducible refine below_drewN ?_ _ | with_reducible refine Below.alloc ?_ ?_ _ | with_reducible refine Below.setCell ?_ ?_ _ | omega | (simp; done) | (simp; omega)))⟩
end Go.Proofs.Ytokjdnfohbabgaa
