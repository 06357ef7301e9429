/-
  The laws' own small functions on receipts: their copies, their equality, their size.
-/
import Derived.Test.YtokjdnfohbabgaaGaps
import Derived.Laws.MakeOwn
import Derived.Laws.Entries
import Derived.OwnWalk
namespace Go.Proofs.Ytokjdnfohbabgaa
set_option linter.unusedVariables false
set_option linter.unusedSimpArgs false
open Go.RowKit

/-- Block g is a row of n blocks, the first j of which are those of xs. -/
def GRow (w : World) (g n j : Nat) (xs : List (Int × Int)) : Prop :=
  ∃ cs : Array Value, w.heap[g]? = some (.cells cs 38 (0, 0)) ∧ cs.size = n * 2 ∧ ∀ i, i < j → cs[i * 2]? = some (.int .i64 (xs.getD i (0, 0)).1) ∧ cs[i * 2 + 1]? = some (.int .i64 (xs.getD i (0, 0)).2)
theorem GRow.below {w w' : World} {g n j B : Nat} {xs : List (Int × Int)} (h : GRow w g n j xs) (hb : Below B w w') (hB : g < B) : GRow w' g n j xs := by
  obtain ⟨cs, h1, h2⟩ := h
  exact ⟨cs, (hb.block g hB).trans h1, h2⟩
theorem GRow.lt {w : World} {g n j : Nat} {xs : List (Int × Int)} (h : GRow w g n j xs) : g < w.heap.size := by
  obtain ⟨cs, h1, _⟩ := h
  rcases Nat.lt_or_ge g w.heap.size with hlt | hge
  · exact hlt
  · rw [Array.getElem?_eq_none hge] at h1; cases h1
theorem GRow.far {w : World} {g n j : Nat} {xs : List (Int × Int)} (h : GRow w g n j xs) {p : Addr} (hp : g ≠ p.block) (u : Value) : GRow (w.setCell p u) g n j xs := by
  obtain ⟨cs, h1, h2⟩ := h
  exact ⟨cs, (Below.heap_setCell w p u g hp).trans h1, h2⟩
theorem GRow.at_ {w : World} {g n j : Nat} {xs : List (Int × Int)} (h : GRow w g n j xs) {k : Nat} (hk : k < n) :
    ∃ u v, w.cell? ⟨g, k * 2, none⟩ = some u ∧ w.cell? ⟨g, k * 2 + 1, none⟩ = some v ∧ w.frozen? ⟨g, k * 2, none⟩ = false ∧ w.frozen? ⟨g, k * 2 + 1, none⟩ = false := by
  obtain ⟨cs, h1, h2, _⟩ := h
  refine ⟨cs[k * 2]'(by omega), cs[k * 2 + 1]'(by omega), ?_, ?_, ?_, ?_⟩
  · rw [cell_of_row w g (k * 2) cs _ (0, 0) h1]; exact Array.getElem?_eq_getElem _
  · rw [cell_of_row w g (k * 2 + 1) cs _ (0, 0) h1]; exact Array.getElem?_eq_getElem _
  · simp [World.frozen?, h1]
  · simp [World.frozen?, h1]
theorem GRow.put {w : World} {g n j : Nat} {xs : List (Int × Int)} (h : GRow w g n j xs) (hj : j < n) {f t : Int} (hx : xs.getD j (0, 0) = (f, t)) :
    GRow ((w.setCell ⟨g, j * 2, none⟩ (.int .i64 f)).setCell ⟨g, j * 2 + 1, none⟩ (.int .i64 t)) g n (j + 1) xs := by
  obtain ⟨cs, h1, h2, h3⟩ := h
  refine ⟨(cs.setIfInBounds (j * 2) (.int .i64 f)).setIfInBounds (j * 2 + 1) (.int .i64 t), ?_, by simpa using h2, fun i hi => ?_⟩
  · simp [World.setCell, Array.getElem?_modify, h1]
  · by_cases he : i = j
    · subst he
      rw [hx]
      constructor
      · rw [Array.getElem?_setIfInBounds, if_neg (by omega), Array.getElem?_setIfInBounds, if_pos rfl, if_pos (by omega)]
      · rw [Array.getElem?_setIfInBounds, if_pos rfl, if_pos (by simp; omega)]
    · obtain ⟨e1, e2⟩ := h3 i (by omega)
      constructor
      · rw [Array.getElem?_setIfInBounds, if_neg (by omega), Array.getElem?_setIfInBounds, if_neg (by omega)]; exact e1
      · rw [Array.getElem?_setIfInBounds, if_neg (by omega), Array.getElem?_setIfInBounds, if_neg (by omega)]; exact e2
theorem GRow.gaps {w : World} {g n : Nat} {xs : List (Int × Int)} (h : GRow w g n n xs) (hl : xs.length = n) : Gaps w w.heap.size (some ⟨g, 0, none⟩) n xs := by
  have hlt := h.lt
  obtain ⟨cs, h1, h2, h3⟩ := h
  refine ⟨hl, fun _ => ⟨g, 0, rfl, hlt, fun i hi => ?_⟩⟩
  obtain ⟨e1, e2⟩ := h3 i hi
  constructor
  · rw [Nat.zero_add, cell_of_row w g (i * 2) cs _ (0, 0) h1]; exact e1
  · rw [Nat.zero_add, cell_of_row w g (i * 2 + 1) cs _ (0, 0) h1]; exact e2

theorem c_toGap (f t : Int) (w : World) : Calls Try.prog 62 #[.agg #[.int .i64 f, .int .i64 t]] w fun e w' => e = .returned (.agg #[.int .i64 f, .int .i64 t]) ∧ Below w.heap.size w w' := by
  have B0 := Lib.hid (Below.refl w.heap.size w)
  go_enter Try.func62, Try.ntmps62
  go_wp2
  exact bodyPost_ret (v := .agg #[.int .i64 f, .int .i64 t]) (by simp [results, Try.results62, go_sem]) rfl ⟨rfl, by (repeat' (first | with_reducible exact B0.out | with_reducible exact Below.refl _ _ | with_reducible refine below_drew1 ?_ | with_reducible refine below_drewN ?_ _ | with_reducible refine Below.alloc ?_ ?_ _ | with_reducible refine Below.setCell ?_ ?_ _ | omega | (simp; done) | (simp; omega)))⟩
theorem Try.infoGap : (Try.prog.info? 38).map (fun i => (i.zero, i.size, i.bytes)) = some (some (.agg #[.int .i64 0, .int .i64 0]), 2, 16) := by kernel_rfl
/-- A copy of a slice of blocks. -/
def NewGaps (w : World) (n : Nat) (xs : List (Int × Int)) (e : Ending) (w' : World) : Prop :=
  ∃ g, e = .returned (.slice (some ⟨g, 0, none⟩) n n) ∧ w.heap.size ≤ g ∧ GRow w' g n n xs ∧ Below w.heap.size w w'
set_option maxHeartbeats 2000000 in
theorem c_toGapS (A : Option Addr) (n c : Nat) (xs : List (Int × Int)) (B : Nat) (w : World) (hG : Gaps w B A n xs) (hBw : B ≤ w.heap.size) (hn : n ≤ 1048576) :
    Calls Try.prog 47 #[.slice A n c] w (NewGaps w n xs) := by
  obtain ⟨i0, hi, hz0, hz1, hz2⟩ := info_parts Try.infoGap
  have hmk : ∀ W : World, (Instr.makeSlice 26 (.int .i64 (n : Int)) (.int .i64 (n : Int))).run Try.prog W = .ok (.slice (some ⟨W.heap.size, 0, none⟩) n n) (W.alloc (.cells (madeCells #[.int .i64 0, .int .i64 0] (n * 2)) 38)) := fun W => by
    have hr := run_make (P := Try.prog) W 26 38 i0 _ Try.underlying26 hi hz0 .i64 .i64 (n : Int) (n : Int) (by omega) (by omega) (by rw [hz2]; omega) (by omega)
    rw [hz1] at hr
    simp only [Int.toNat_natCast] at hr
    exact hr
  have HL := Lib.hid hG.1
  have B0 := Lib.hid (Below.refl w.heap.size w)
  clear hi hz0 hz1 hz2
  go_enter Try.func47, Try.ntmps47
  go_wp2
  clear hmk
  go_loopw [4] (fun i wr => ∃ j : Nat, j ≤ n ∧ i = .int .i64 j ∧ GRow wr w.heap.size n j xs ∧ Below w.heap.size w wr) (fun i _ => n - (intOf i).toNat)
  case atStart => exact ⟨0, Nat.zero_le _, rfl, ⟨_, heap_alloc_new w _, size_madeCells _ _, fun i hi => absurd hi (Nat.not_lt_zero _)⟩, by (repeat' (first | with_reducible exact B0.out | with_reducible exact Below.refl _ _ | with_reducible refine below_drew1 ?_ | with_reducible refine below_drewN ?_ _ | with_reducible refine Below.alloc ?_ ?_ _ | with_reducible refine Below.setCell ?_ ?_ _ | omega | (simp; done) | (simp; omega)))⟩
  case round =>
    obtain ⟨j, hj, rfl, hR, hB⟩ := hrel
    have B1 := Lib.hid hB
    have hz := hR.lt
    by_cases hlt : j < n
    · obtain ⟨b, o, rfl, hb, hc⟩ := hG.2 (by omega)
      obtain ⟨c0, c1⟩ := hc j hlt
      have hb := Nat.lt_of_lt_of_le hb hBw
      have d0 := (B1.out.cell (p := ⟨b, o + j * 2, none⟩) hb).trans c0
      have d1 := (B1.out.cell (p := ⟨b, o + j * 2 + 1, none⟩) hb).trans c1
      cases hgx : xs.getD j (0, 0) with | mk f t =>
      rw [hgx] at d0 d1
      simp only at d0 d1
      have GX := Lib.hid hgx
      clear hgx hc c0 c1 hG hBw hB
      have hjn : (j : Int) < (n : Int) := by omega
      have hj0 : (0 : Int) ≤ (j : Int) := by omega
      have HR := Lib.hid hR
      clear hR
      go_wp2_with fail
      refine (c_toGap f t _).mono ?_
      rintro e w2 ⟨rfl, h2⟩
      have hR2 := HR.out.below h2 hz
      obtain ⟨u, v, k0, k1, k2, k3⟩ := hR2.at_ hlt
      have HR2 := Lib.hid hR2
      have B2 := Lib.hid (below_step B1.out B1.out.size h2)
      clear hR2 h2 B1 HR
      go_wp2
      go_roundw
      case rel => exact ⟨j + 1, by omega, by go_num, HR2.out.put hlt GX.out, by (repeat' (first | with_reducible exact B2.out | with_reducible exact Below.refl _ _ | with_reducible refine below_drew1 ?_ | with_reducible refine below_drewN ?_ _ | with_reducible refine Below.alloc ?_ ?_ _ | with_reducible refine Below.setCell ?_ ?_ _ | omega | (simp; done) | (simp; omega)))⟩
      case measure => simp [intOf]; omega
    · have hje : j = n := by omega
      subst hje
      go_wp2
      go_ret
      exact ⟨_, rfl, Nat.le_refl _, hR, hB⟩
/-- A copy of a receipt. -/
def NewSack (w : World) (cum : Int) (n : Nat) (xs : List (Int × Int)) (e : Ending) (w' : World) : Prop :=
  ∃ g, e = .returned (.agg #[.int .i64 cum, .slice (some ⟨g, 0, none⟩) n n]) ∧ w.heap.size ≤ g ∧ GRow w' g n n xs ∧ Below w.heap.size w w'
theorem c_toSack (cum : Int) (A : Option Addr) (n c : Nat) (xs : List (Int × Int)) (B : Nat) (w : World) (hG : Gaps w B A n xs) (hBw : B ≤ w.heap.size) (hn : n ≤ 1048576) :
    Calls Try.prog 22 #[.agg #[.int .i64 cum, .slice A n c]] w (NewSack w cum n xs) := by
  have B0 := Lib.hid (Below.refl w.heap.size w)
  go_enter Try.func22, Try.ntmps22
  go_wp2_with fail
  refine (c_toGapS A n c xs B _ (by (repeat' (first | (with_reducible exact hG) | with_reducible refine Gaps.alloc ?_ ?_ _ | with_reducible refine Gaps.setCell ?_ ?_ _ | with_reducible refine Gaps.drew ?_ | with_reducible refine Gaps.drewN ?_ _ | omega | (simp; done) | (simp; omega)))) (by first | omega | (simp; done) | (simp; omega)) hn).mono ?_
  rintro e w1 ⟨g, rfl, hgg, hR, h1⟩
  have Q_1 : Blk w1 (w.heap.size + 1) 28 #[.int .i64 0, .slice none 0 0] := Blk.below (by (repeat' (first | (with_reducible refine Blk.drewN ?_ _) | (with_reducible refine Blk.drew ?_) | (with_reducible refine Blk.new1 ?hb; case hb => (first | omega | (simp; done) | (simp; omega))) | (with_reducible refine Blk.alloc ?_ _) | (with_reducible refine' Blk.set2_0 ?_ ?hb; case hb => (first | omega | (simp; done) | (simp; omega))) | (with_reducible refine' Blk.set2_1 ?_ ?hb; case hb => (first | omega | (simp; done) | (simp; omega))) | (with_reducible refine' Blk.set3_0 ?_ ?hb; case hb => (first | omega | (simp; done) | (simp; omega))) | (with_reducible refine' Blk.set3_1 ?_ ?hb; case hb => (first | omega | (simp; done) | (simp; omega))) | (with_reducible refine' Blk.set3_2 ?_ ?hb; case hb => (first | omega | (simp; done) | (simp; omega))) | (with_reducible refine' Blk.set4_0 ?_ ?hb; case hb => (first | omega | (simp; done) | (simp; omega))) | (with_reducible refine' Blk.set4_1 ?_ ?hb; case hb => (first | omega | (simp; done) | (simp; omega))) | (with_reducible refine' Blk.set4_2 ?_ ?hb; case hb => (first | omega | (simp; done) | (simp; omega))) | (with_reducible refine' Blk.set4_3 ?_ ?hb; case hb => (first | omega | (simp; done) | (simp; omega))) | (with_reducible refine' Blk.set7_0 ?_ ?hb; case hb => (first | omega | (simp; done) | (simp; omega))) | (with_reducible refine' Blk.set7_1 ?_ ?hb; case hb => (first | omega | (simp; done) | (simp; omega))) | (with_reducible refine' Blk.set7_2 ?_ ?hb; case hb => (first | omega | (simp; done) | (simp; omega))) | (with_reducible refine' Blk.set7_3 ?_ ?hb; case hb => (first | omega | (simp; done) | (simp; omega))) | (with_reducible refine' Blk.set7_4 ?_ ?hb; case hb => (first | omega | (simp; done) | (simp; omega))) | (with_reducible refine' Blk.set7_5 ?_ ?hb; case hb => (first | omega | (simp; done) | (simp; omega))) | (with_reducible refine' Blk.set7_6 ?_ ?hb; case hb => (first | omega | (simp; done) | (simp; omega))) | (with_reducible refine Blk.far ?_ ?hb _; case hb => (first | omega | (simp; done) | (simp; omega))) | fail))) h1 (by (first | omega | (simp; done) | (simp; omega)))
  have O_1 : Blk w1 (w.heap.size + 2) 28 #[.int .i64 cum, .slice none 0 0] := Blk.below (by (repeat' (first | (with_reducible refine Blk.drewN ?_ _) | (with_reducible refine Blk.drew ?_) | (with_reducible refine Blk.new1 ?hb; case hb => (first | omega | (simp; done) | (simp; omega))) | (with_reducible refine Blk.alloc ?_ _) | (with_reducible refine' Blk.set2_0 ?_ ?hb; case hb => (first | omega | (simp; done) | (simp; omega))) | (with_reducible refine' Blk.set2_1 ?_ ?hb; case hb => (first | omega | (simp; done) | (simp; omega))) | (with_reducible refine' Blk.set3_0 ?_ ?hb; case hb => (first | omega | (simp; done) | (simp; omega))) | (with_reducible refine' Blk.set3_1 ?_ ?hb; case hb => (first | omega | (simp; done) | (simp; omega))) | (with_reducible refine' Blk.set3_2 ?_ ?hb; case hb => (first | omega | (simp; done) | (simp; omega))) | (with_reducible refine' Blk.set4_0 ?_ ?hb; case hb => (first | omega | (simp; done) | (simp; omega))) | (with_reducible refine' Blk.set4_1 ?_ ?hb; case hb => (first | omega | (simp; done) | (simp; omega))) | (with_reducible refine' Blk.set4_2 ?_ ?hb; case hb => (first | omega | (simp; done) | (simp; omega))) | (with_reducible refine' Blk.set4_3 ?_ ?hb; case hb => (first | omega | (simp; done) | (simp; omega))) | (with_reducible refine' Blk.set7_0 ?_ ?hb; case hb => (first | omega | (simp; done) | (simp; omega))) | (with_reducible refine' Blk.set7_1 ?_ ?hb; case hb => (first | omega | (simp; done) | (simp; omega))) | (with_reducible refine' Blk.set7_2 ?_ ?hb; case hb => (first | omega | (simp; done) | (simp; omega))) | (with_reducible refine' Blk.set7_3 ?_ ?hb; case hb => (first | omega | (simp; done) | (simp; omega))) | (with_reducible refine' Blk.set7_4 ?_ ?hb; case hb => (first | omega | (simp; done) | (simp; omega))) | (with_reducible refine' Blk.set7_5 ?_ ?hb; case hb => (first | omega | (simp; done) | (simp; omega))) | (with_reducible refine' Blk.set7_6 ?_ ?hb; case hb => (first | omega | (simp; done) | (simp; omega))) | (with_reducible refine Blk.far ?_ ?hb _; case hb => (first | omega | (simp; done) | (simp; omega))) | fail))) h1 (by (first | omega | (simp; done) | (simp; omega)))
  have B1 := Lib.hid (below_step (B := w.heap.size) (w0 := w) (by (repeat' (first | with_reducible exact B0.out | with_reducible exact Below.refl _ _ | with_reducible refine below_drew1 ?_ | with_reducible refine below_drewN ?_ _ | with_reducible refine Below.alloc ?_ ?_ _ | with_reducible refine Below.setCell ?_ ?_ _ | omega | (simp; done) | (simp; omega)))) (by have := B0.out.size; (first | omega | (simp; done) | (simp; omega))) h1)
  have z1 : w.heap.size ≤ w1.heap.size := B1.out.size
  clear h1 B0
  obtain ⟨⟨Q_0_, Q_1_⟩, Q_f0_, Q_f1_⟩ := Q_1.get2n
  have Q_l := Q_1.lt
  have Q_l0_ : w.heap.size < w1.heap.size + 0 := by omega
  have Q_l1_ : w.heap.size < w1.heap.size + 1 := by omega
  have Q_l2_ : w.heap.size < w1.heap.size + 2 := by omega
  have Q_l3_ : w.heap.size < w1.heap.size + 3 := by omega
  have Q_l4_ : w.heap.size < w1.heap.size + 4 := by omega
  obtain ⟨⟨O_0_, O_1_⟩, O_f0_, O_f1_⟩ := O_1.get2n
  have O_l := O_1.lt
  have O_l0_ : w.heap.size < w1.heap.size + 0 := by omega
  have O_l1_ : w.heap.size < w1.heap.size + 1 := by omega
  have O_l2_ : w.heap.size < w1.heap.size + 2 := by omega
  have O_l3_ : w.heap.size < w1.heap.size + 3 := by omega
  have O_l4_ : w.heap.size < w1.heap.size + 4 := by omega
  simp at hgg
  have HR := Lib.hid hR
  clear hR Q_1 O_1
  go_wp2
  refine bodyPost_ret (v := .agg #[.int .i64 cum, .slice (some ⟨g, 0, none⟩) n n]) (by simp [results, Try.results22, go_sem, Q_0_, Q_1_, O_0_, O_1_]) rfl ⟨g, rfl, by omega, ?_, by (repeat' (first | with_reducible exact B1.out | with_reducible exact Below.refl _ _ | with_reducible refine below_drew1 ?_ | with_reducible refine below_drewN ?_ _ | with_reducible refine Below.alloc ?_ ?_ _ | with_reducible refine Below.setCell ?_ ?_ _ | omega | (simp; done) | (simp; omega)))⟩
  exact ((HR.out.far (by show g ≠ _; simp; omega) _).far (by show g ≠ _; simp; omega) _).far (by show g ≠ _; simp; omega) _
theorem c_eqGap (f t : Int) (w : World) : Calls Try.prog 63 #[.agg #[.int .i64 f, .int .i64 t], .agg #[.int .i64 f, .int .i64 t]] w fun e w' => e = .returned (.bool true) ∧ Below w.heap.size w w' := by
  have B0 := Lib.hid (Below.refl w.heap.size w)
  have h1 : ∀ k : Int, (k != k) = false := fun k => by simp
  go_enter Try.func63, Try.ntmps63
  go_wp2
  go_ret
  exact ⟨rfl, by (repeat' (first | with_reducible exact B0.out | with_reducible exact Below.refl _ _ | with_reducible refine below_drew1 ?_ | with_reducible refine below_drewN ?_ _ | with_reducible refine Below.alloc ?_ ?_ _ | with_reducible refine Below.setCell ?_ ?_ _ | omega | (simp; done) | (simp; omega)))⟩
set_option maxHeartbeats 2000000 in
theorem c_eqGapS (A A' : Option Addr) (n c c' : Nat) (xs : List (Int × Int)) (B : Nat) (w : World) (hG : Gaps w B A n xs) (hG' : Gaps w B A' n xs) (hBw : B ≤ w.heap.size) (hn : n ≤ maxLen) :
    Calls Try.prog 49 #[.slice A n c, .slice A' n c'] w fun e w' => e = .returned (.bool true) ∧ Below w.heap.size w w' := by
  unfold maxLen at hn
  have hnn : ((n : Int) != (n : Int)) = false := by simp
  have B0 := Lib.hid (Below.refl w.heap.size w)
  go_enter Try.func49, Try.ntmps49
  go_wp2
  go_loopw [5] (fun i wr => ∃ j : Nat, j ≤ n ∧ i = .int .i64 j ∧ Below w.heap.size w wr) (fun i _ => n - (intOf i).toNat)
  case atStart => exact ⟨0, Nat.zero_le _, rfl, by (repeat' (first | with_reducible exact B0.out | with_reducible exact Below.refl _ _ | with_reducible refine below_drew1 ?_ | with_reducible refine below_drewN ?_ _ | with_reducible refine Below.alloc ?_ ?_ _ | with_reducible refine Below.setCell ?_ ?_ _ | omega | (simp; done) | (simp; omega)))⟩
  case round =>
    obtain ⟨j, hj, rfl, hB⟩ := hrel
    have B1 := Lib.hid hB
    by_cases hlt : j < n
    · obtain ⟨b, o, rfl, hb, hc⟩ := hG.2 (by omega)
      obtain ⟨b', o', rfl, hb', hc'⟩ := hG'.2 (by omega)
      obtain ⟨c0, c1⟩ := hc j hlt
      obtain ⟨c2, c3⟩ := hc' j hlt
      have hb := Nat.lt_of_lt_of_le hb hBw
      have hb' := Nat.lt_of_lt_of_le hb' hBw
      have d0 := (B1.out.cell (p := ⟨b, o + j * 2, none⟩) hb).trans c0
      have d1 := (B1.out.cell (p := ⟨b, o + j * 2 + 1, none⟩) hb).trans c1
      have d2 := (B1.out.cell (p := ⟨b', o' + j * 2, none⟩) hb').trans c2
      have d3 := (B1.out.cell (p := ⟨b', o' + j * 2 + 1, none⟩) hb').trans c3
      generalize xs.getD j (0, 0) = g at *
      obtain ⟨f, t⟩ := g
      clear hc hc' c0 c1 c2 c3 hG hG' hBw hB
      simp only at d0 d1 d2 d3
      have hjn : (j : Int) < (n : Int) := by omega
      have hj0 : (0 : Int) ≤ (j : Int) := by omega
      have hbl : b < wr.heap.size := Nat.lt_of_lt_of_le hb B1.out.size
      have hbl' : b' < wr.heap.size := Nat.lt_of_lt_of_le hb' B1.out.size
      have e0 := fun (W : World) (hW : Below wr.heap.size wr W) => (hW.cell (p := ⟨b, o + j * 2, none⟩) hbl).trans d0
      have e1 := fun (W : World) (hW : Below wr.heap.size wr W) => (hW.cell (p := ⟨b, o + j * 2 + 1, none⟩) hbl).trans d1
      have e2 := fun (W : World) (hW : Below wr.heap.size wr W) => (hW.cell (p := ⟨b', o' + j * 2, none⟩) hbl').trans d2
      have e3 := fun (W : World) (hW : Below wr.heap.size wr W) => (hW.cell (p := ⟨b', o' + j * 2 + 1, none⟩) hbl').trans d3
      go_wp2_with fail
      go_region_held3 (fun w' => Below wr.heap.size wr w')
        ((repeat' (first | (with_reducible assumption) | with_reducible exact Below.refl _ _ | with_reducible refine below_drew1 ?_ | with_reducible refine below_drewN ?_ _ | with_reducible refine Below.alloc ?_ ?_ _ | with_reducible refine Below.setCell ?_ ?_ _ | omega | (simp; done) | (simp; omega))))
        ((go_at_call 63; refine (c_eqGap f t _).mono ?_; rintro e w2 ⟨rfl, h2⟩; have HS : Below wr.heap.size wr w2 := below_step (B := wr.heap.size) (by (repeat' (first | (with_reducible assumption) | with_reducible exact Below.refl _ _ | with_reducible refine below_drew1 ?_ | with_reducible refine below_drewN ?_ _ | with_reducible refine Below.alloc ?_ ?_ _ | with_reducible refine Below.setCell ?_ ?_ _ | omega | (simp; done) | (simp; omega)))) (by first | omega | (simp; done) | (simp; omega)) h2; have B2 := Lib.hid (below_step (B := w.heap.size) (w0 := w) B1.out B1.out.size HS); clear h2))
      clear e0 e1 e2 e3
      go_wp2
      go_roundw
      case rel => exact ⟨j + 1, by omega, by go_num, B2.out⟩
      case measure => simp [intOf]; omega
    · have hje : j = n := by omega
      subst hje
      go_wp2
      go_ret
      exact ⟨rfl, hB⟩
theorem c_eqSack (cum : Int) (A A' : Option Addr) (n c c' : Nat) (xs : List (Int × Int)) (B : Nat) (w : World) (hG : Gaps w B A n xs) (hG' : Gaps w B A' n xs) (hBw : B ≤ w.heap.size) (hn : n ≤ maxLen) :
    Calls Try.prog 24 #[.agg #[.int .i64 cum, .slice A n c], .agg #[.int .i64 cum, .slice A' n c']] w fun e w' => e = .returned (.bool true) ∧ Below w.heap.size w w' := by
  have h1 : ∀ k : Int, (k != k) = false := fun k => by simp
  have B0 := Lib.hid (Below.refl w.heap.size w)
  go_enter Try.func24, Try.ntmps24
  go_wp2_with fail
  refine (c_eqGapS A A' n c c' xs B _ (by (repeat' (first | (with_reducible exact hG) | with_reducible refine Gaps.alloc ?_ ?_ _ | with_reducible refine Gaps.setCell ?_ ?_ _ | with_reducible refine Gaps.drew ?_ | with_reducible refine Gaps.drewN ?_ _ | omega | (simp; done) | (simp; omega)))) (by (repeat' (first | (with_reducible exact hG') | with_reducible refine Gaps.alloc ?_ ?_ _ | with_reducible refine Gaps.setCell ?_ ?_ _ | with_reducible refine Gaps.drew ?_ | with_reducible refine Gaps.drewN ?_ _ | omega | (simp; done) | (simp; omega)))) (by first | omega | (simp; done) | (simp; omega)) hn).mono ?_
  rintro e w1 ⟨rfl, h1⟩
  have B1 := Lib.hid (below_step (B := w.heap.size) (w0 := w) (by (repeat' (first | with_reducible exact B0.out | with_reducible exact Below.refl _ _ | with_reducible refine below_drew1 ?_ | with_reducible refine below_drewN ?_ _ | with_reducible refine Below.alloc ?_ ?_ _ | with_reducible refine Below.setCell ?_ ?_ _ | omega | (simp; done) | (simp; omega)))) (by have := B0.out.size; (first | omega | (simp; done) | (simp; omega))) h1)
  have z1 : w.heap.size ≤ w1.heap.size := B1.out.size
  clear h1 B0
  go_wp2
  go_ret
  exact ⟨rfl, by (repeat' (first | with_reducible exact B1.out | with_reducible exact Below.refl _ _ | with_reducible refine below_drew1 ?_ | with_reducible refine below_drewN ?_ _ | with_reducible refine Below.alloc ?_ ?_ _ | with_reducible refine Below.setCell ?_ ?_ _ | omega | (simp; done) | (simp; omega)))⟩
theorem c_szGapS (A : Option Addr) (n c : Nat) (k : Int) (w : World) (hn : n ≤ maxLen) (h0 : 0 ≤ k) (h1 : k ≤ 1048576) : Calls Try.prog 44 #[.slice A n c, .int .i64 k] w fun e w' => e = .returned (.int .i64 (if k < n then -1 else k - n)) ∧ Below w.heap.size w w' := by
  unfold maxLen at hn
  have B0 := Lib.hid (Below.refl w.heap.size w)
  by_cases h : k < n
  · rw [if_pos h]
    go_enter Try.func44, Try.ntmps44
    go_wp2
    go_ret
    exact ⟨rfl, by (repeat' (first | with_reducible exact B0.out | with_reducible exact Below.refl _ _ | with_reducible refine below_drew1 ?_ | with_reducible refine below_drewN ?_ _ | with_reducible refine Below.alloc ?_ ?_ _ | with_reducible refine Below.setCell ?_ ?_ _ | omega | (simp; done) | (simp; omega)))⟩
  · rw [if_neg h]
    go_enter Try.func44, Try.ntmps44
    go_wp2
    go_ret
    exact ⟨rfl, by (repeat' (first | with_reducible exact B0.out | with_reducible exact Below.refl _ _ | with_reducible refine below_drew1 ?_ | with_reducible refine below_drewN ?_ _ | with_reducible refine Below.alloc ?_ ?_ _ | with_reducible refine Below.setCell ?_ ?_ _ | omega | (simp; done) | (simp; omega)))⟩
theorem c_szSack (cum : Int) (A : Option Addr) (n c : Nat) (k : Int) (w : World) (hn : n ≤ maxLen) (h0 : 0 ≤ k) (h1 : k ≤ 1048576) : Calls Try.prog 20 #[.agg #[.int .i64 cum, .slice A n c], .int .i64 k] w fun e w' => e = .returned (.int .i64 (if k < n then -1 else k - n)) ∧ Below w.heap.size w w' := by
  by_cases h : k < n
  · have cz := fun W => c_szGapS A n c k W hn h0 h1
    rw [if_pos h] at *
    have CZ := Lib.hid cz
    clear cz
    have B0 := Lib.hid (Below.refl w.heap.size w)
    go_enter Try.func20, Try.ntmps20
    go_wp2_with fail
    refine (CZ.out _).mono ?_
    rintro e w1 ⟨rfl, h1⟩
    have B1 := Lib.hid (below_step (B := w.heap.size) (w0 := w) (by (repeat' (first | with_reducible exact B0.out | with_reducible exact Below.refl _ _ | with_reducible refine below_drew1 ?_ | with_reducible refine below_drewN ?_ _ | with_reducible refine Below.alloc ?_ ?_ _ | with_reducible refine Below.setCell ?_ ?_ _ | omega | (simp; done) | (simp; omega)))) (by have := B0.out.size; (first | omega | (simp; done) | (simp; omega))) h1)
    have z1 : w.heap.size ≤ w1.heap.size := B1.out.size
    clear h1 B0
    go_wp2
    go_ret
    exact ⟨rfl, by (repeat' (first | with_reducible exact B1.out | with_reducible exact Below.refl _ _ | with_reducible refine below_drew1 ?_ | with_reducible refine below_drewN ?_ _ | with_reducible refine Below.alloc ?_ ?_ _ | with_reducible refine Below.setCell ?_ ?_ _ | omega | (simp; done) | (simp; omega)))⟩
  · have cz := fun W => c_szGapS A n c k W hn h0 h1
    simp only [if_neg h] at *
    have CZ := Lib.hid cz
    clear cz
    have B0 := Lib.hid (Below.refl w.heap.size w)
    go_enter Try.func20, Try.ntmps20
    go_wp2_with fail
    refine (CZ.out _).mono ?_
    rintro e w1 ⟨rfl, h1⟩
    have B1 := Lib.hid (below_step (B := w.heap.size) (w0 := w) (by (repeat' (first | with_reducible exact B0.out | with_reducible exact Below.refl _ _ | with_reducible refine below_drew1 ?_ | with_reducible refine below_drewN ?_ _ | with_reducible refine Below.alloc ?_ ?_ _ | with_reducible refine Below.setCell ?_ ?_ _ | omega | (simp; done) | (simp; omega)))) (by have := B0.out.size; (first | omega | (simp; done) | (simp; omega))) h1)
    have z1 : w.heap.size ≤ w1.heap.size := B1.out.size
    clear h1 B0
    go_wp2
    go_ret
    exact ⟨rfl, by (repeat' (first | with_reducible exact B1.out | with_reducible exact Below.refl _ _ | with_reducible refine below_drew1 ?_ | with_reducible refine below_drewN ?_ _ | with_reducible refine Below.alloc ?_ ?_ _ | with_reducible refine Below.setCell ?_ ?_ _ | omega | (simp; done) | (simp; omega)))⟩
end Go.Proofs.Ytokjdnfohbabgaa
