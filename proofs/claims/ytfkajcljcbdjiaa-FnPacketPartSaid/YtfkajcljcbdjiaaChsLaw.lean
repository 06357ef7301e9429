/-
  The laws' own small functions on packets: their copies, their equality, their size.
-/
import Derived.Test.YtfkajcljcbdjiaaChs
import Derived.Test.YtfkajcljcbdjiaaConv2
import Derived.Laws.MakeOwn
import Derived.Laws.Entries
import Derived.OwnWalk
namespace Go.Proofs.Ytfkajcljcbdjiaa
set_option linter.unusedVariables false
set_option linter.unusedSimpArgs false
open Go.RowKit

/-- Block g is a row of n chunks, the first j of which are those of xs. -/
def GRow (w : World) (g n j : Nat) (xs : List (Int × Int × ByteArray)) : Prop :=
  ∃ cs : Array Value, w.heap[g]? = some (.cells cs 41 (0, 0)) ∧ cs.size = n * 3 ∧ ∀ i, i < j → cs[i * 3]? = some (.int .i64 (xs.getD i ch0).1) ∧ cs[i * 3 + 1]? = some (.int .i64 (xs.getD i ch0).2.1) ∧ cs[i * 3 + 2]? = some (.string (xs.getD i ch0).2.2)
theorem GRow.below {w w' : World} {g n j B : Nat} {xs : List (Int × Int × ByteArray)} (h : GRow w g n j xs) (hb : Below B w w') (hB : g < B) : GRow w' g n j xs := by
  obtain ⟨cs, h1, h2⟩ := h
  exact ⟨cs, (hb.block g hB).trans h1, h2⟩
theorem GRow.lt {w : World} {g n j : Nat} {xs : List (Int × Int × ByteArray)} (h : GRow w g n j xs) : g < w.heap.size := by
  obtain ⟨cs, h1, _⟩ := h
  rcases Nat.lt_or_ge g w.heap.size with hlt | hge
  · exact hlt
  · rw [Array.getElem?_eq_none hge] at h1; cases h1
theorem GRow.far {w : World} {g n j : Nat} {xs : List (Int × Int × ByteArray)} (h : GRow w g n j xs) {p : Addr} (hp : g ≠ p.block) (u : Value) : GRow (w.setCell p u) g n j xs := by
  obtain ⟨cs, h1, h2⟩ := h
  exact ⟨cs, (Below.heap_setCell w p u g hp).trans h1, h2⟩
theorem GRow.at_ {w : World} {g n j : Nat} {xs : List (Int × Int × ByteArray)} (h : GRow w g n j xs) {k : Nat} (hk : k < n) :
    ∃ u v x, w.cell? ⟨g, k * 3, none⟩ = some u ∧ w.cell? ⟨g, k * 3 + 1, none⟩ = some v ∧ w.cell? ⟨g, k * 3 + 2, none⟩ = some x ∧ w.frozen? ⟨g, k * 3, none⟩ = false ∧ w.frozen? ⟨g, k * 3 + 1, none⟩ = false ∧ w.frozen? ⟨g, k * 3 + 2, none⟩ = false := by
  obtain ⟨cs, h1, h2, _⟩ := h
  refine ⟨cs[k * 3]'(by omega), cs[k * 3 + 1]'(by omega), cs[k * 3 + 2]'(by omega), ?_, ?_, ?_, ?_, ?_, ?_⟩
  · rw [cell_of_row w g (k * 3) cs _ (0, 0) h1]; exact Array.getElem?_eq_getElem _
  · rw [cell_of_row w g (k * 3 + 1) cs _ (0, 0) h1]; exact Array.getElem?_eq_getElem _
  · rw [cell_of_row w g (k * 3 + 2) cs _ (0, 0) h1]; exact Array.getElem?_eq_getElem _
  all_goals simp [World.frozen?, h1]
theorem GRow.put {w : World} {g n j : Nat} {xs : List (Int × Int × ByteArray)} (h : GRow w g n j xs) (hj : j < n) {k f : Int} {s : ByteArray} (hx : xs.getD j ch0 = (k, f, s)) :
    GRow (((w.setCell ⟨g, j * 3, none⟩ (.int .i64 k)).setCell ⟨g, j * 3 + 1, none⟩ (.int .i64 f)).setCell ⟨g, j * 3 + 2, none⟩ (.string s)) g n (j + 1) xs := by
  obtain ⟨cs, h1, h2, h3⟩ := h
  refine ⟨((cs.setIfInBounds (j * 3) (.int .i64 k)).setIfInBounds (j * 3 + 1) (.int .i64 f)).setIfInBounds (j * 3 + 2) (.string s), ?_, by simpa using h2, fun i hi => ?_⟩
  · simp [World.setCell, Array.getElem?_modify, h1]
  · by_cases he : i = j
    · subst he
      rw [hx]
      refine ⟨?_, ?_, ?_⟩
      · rw [Array.getElem?_setIfInBounds, if_neg (by omega), Array.getElem?_setIfInBounds, if_neg (by omega), Array.getElem?_setIfInBounds, if_pos rfl, if_pos (by omega)]
      · rw [Array.getElem?_setIfInBounds, if_neg (by omega), Array.getElem?_setIfInBounds, if_pos rfl, if_pos (by simp; omega)]
      · rw [Array.getElem?_setIfInBounds, if_pos rfl, if_pos (by simp; omega)]
    · obtain ⟨e1, e2, e3⟩ := h3 i (by omega)
      refine ⟨?_, ?_, ?_⟩
      · rw [Array.getElem?_setIfInBounds, if_neg (by omega), Array.getElem?_setIfInBounds, if_neg (by omega), Array.getElem?_setIfInBounds, if_neg (by omega)]; exact e1
      · rw [Array.getElem?_setIfInBounds, if_neg (by omega), Array.getElem?_setIfInBounds, if_neg (by omega), Array.getElem?_setIfInBounds, if_neg (by omega)]; exact e2
      · rw [Array.getElem?_setIfInBounds, if_neg (by omega), Array.getElem?_setIfInBounds, if_neg (by omega), Array.getElem?_setIfInBounds, if_neg (by omega)]; exact e3
theorem GRow.gaps {w : World} {g n : Nat} {xs : List (Int × Int × ByteArray)} (h : GRow w g n n xs) (hl : xs.length = n) : Gaps w w.heap.size (some ⟨g, 0, none⟩) n xs := by
  have hlt := h.lt
  obtain ⟨cs, h1, h2, h3⟩ := h
  refine ⟨hl, fun _ => ⟨g, 0, rfl, hlt, fun i hi => ?_⟩⟩
  obtain ⟨e1, e2, e3⟩ := h3 i hi
  refine ⟨?_, ?_, ?_⟩
  · rw [Nat.zero_add, cell_of_row w g (i * 3) cs _ (0, 0) h1]; exact e1
  · rw [Nat.zero_add, cell_of_row w g (i * 3 + 1) cs _ (0, 0) h1]; exact e2
  · rw [Nat.zero_add, cell_of_row w g (i * 3 + 2) cs _ (0, 0) h1]; exact e3
theorem GRow.alloc {w : World} {g n j : Nat} {xs : List (Int × Int × ByteArray)} (h : GRow w g n j xs) (o : Obj) : GRow (w.alloc o) g n j xs := h.below ((Below.refl w.heap.size w).alloc (Nat.le_refl _) o) h.lt
theorem GRow.drew {w : World} {g n j : Nat} {xs : List (Int × Int × ByteArray)} (h : GRow w g n j xs) : GRow w.drew g n j xs := h
theorem GRow.drewN {w : World} {g n j : Nat} {xs : List (Int × Int × ByteArray)} (h : GRow w g n j xs) (k : Nat) : GRow (w.drewN k) g n j xs := h

theorem Try.infoChunk : (Try.prog.info? 41).map (fun i => (i.zero, i.size, i.bytes)) = some (some (.agg #[.int .i64 0, .int .i64 0, .string ⟨#[]⟩]), 3, 32) := by kernel_rfl
/-- A copy of a slice of chunks. -/
def NewGaps (w : World) (n : Nat) (xs : List (Int × Int × ByteArray)) (e : Ending) (w' : World) : Prop :=
  ∃ g, e = .returned (.slice (some ⟨g, 0, none⟩) n n) ∧ w.heap.size ≤ g ∧ GRow w' g n n xs ∧ Below w.heap.size w w'
set_option maxHeartbeats 2000000 in
theorem c_toChunkS (A : Option Addr) (n c : Nat) (xs : List (Int × Int × ByteArray)) (B : Nat) (w : World) (hG : Gaps w B A n xs) (hBw : B ≤ w.heap.size) (hn : n ≤ 1048576) :
    Calls Try.prog 38 #[.slice A n c] w (NewGaps w n xs) := by
  obtain ⟨i0, hi, hz0, hz1, hz2⟩ := info_parts Try.infoChunk
  have hmk : ∀ W : World, (Instr.makeSlice 23 (.int .i64 (n : Int)) (.int .i64 (n : Int))).run Try.prog W = .ok (.slice (some ⟨W.heap.size, 0, none⟩) n n) (W.alloc (.cells (madeCells #[.int .i64 0, .int .i64 0, .string ⟨#[]⟩] (n * 3)) 41)) := fun W => by
    have hr := run_make (P := Try.prog) W 23 41 i0 _ Try.underlying23 hi hz0 .i64 .i64 (n : Int) (n : Int) (by omega) (by omega) (by rw [hz2]; omega) (by omega)
    rw [hz1] at hr
    simp only [Int.toNat_natCast] at hr
    exact hr
  have HL := Lib.hid hG.1
  have B0 := Lib.hid (Below.refl w.heap.size w)
  clear hi hz0 hz1 hz2
  go_enter Try.func38, Try.ntmps38
  go_wp2
  clear hmk
  go_loopw [4] (fun i wr => ∃ j : Nat, j ≤ n ∧ i = .int .i64 j ∧ GRow wr w.heap.size n j xs ∧ Below w.heap.size w wr) (fun i _ => n - (intOf i).toNat)
  case atStart => exact ⟨0, Nat.zero_le _, rfl, ⟨_, heap_alloc_new w _, size_madeCells _ _, fun i hi => absurd hi (Nat.not_lt_zero _)⟩, by (repeat' (first | with_reducible exact B0.out | with_reducible exact Below.refl _ _ | with_reducible refine below_drew1 ?_ | with_reducible refine below_drewN ?_ _ | with_reducible refine Below.alloc ?_ ?_ _ | with_reducible refine Below.setCell ?_ ?_ _ | omega | (simp; done) | (simp; omega)))⟩
  case round =>
    obtain ⟨j, hj, rfl, hR, hB⟩ := hrel
    have B1 := Lib.hid hB
    have hz := hR.lt
    by_cases hlt : j < n
    · obtain ⟨b, o, rfl, hb, hc⟩ := hG.2 (by omega)
      obtain ⟨c0, c1, c2⟩ := hc j hlt
      have hb := Nat.lt_of_lt_of_le hb hBw
      have d0 := (B1.out.cell (p := ⟨b, o + j * 3, none⟩) hb).trans c0
      have d1 := (B1.out.cell (p := ⟨b, o + j * 3 + 1, none⟩) hb).trans c1
      have d2 := (B1.out.cell (p := ⟨b, o + j * 3 + 2, none⟩) hb).trans c2
      obtain ⟨f, t, s, hgx⟩ : ∃ f t s, xs.getD j ch0 = (f, t, s) := ⟨_, _, _, rfl⟩
      rw [hgx] at d0 d1 d2
      simp only at d0 d1 d2
      have GX := Lib.hid hgx
      clear hgx hc c0 c1 c2 hG hBw hB
      have hjn : (j : Int) < (n : Int) := by omega
      have hj0 : (0 : Int) ≤ (j : Int) := by omega
      have HR := Lib.hid hR
      clear hR
      go_wp2_with fail
      refine (c_toChunk f t s _).mono ?_
      rintro e w2 ⟨rfl, h2⟩
      have hR2 := HR.out.below h2 hz
      obtain ⟨u, v, x, k0, k1, k2, k3, k4, k5⟩ := hR2.at_ hlt
      have HR2 := Lib.hid hR2
      have B2 := Lib.hid (below_step B1.out B1.out.size h2)
      clear hR2 h2 B1 HR
      go_wp2
      go_roundw
      case rel => exact ⟨j + 1, by omega, by go_num, HR2.out.put hlt GX.out, by (repeat' (first | with_reducible exact B2.out | with_reducible exact Below.refl _ _ | with_reducible refine below_drew1 ?_ | with_reducible refine below_drewN ?_ _ | with_reducible refine Below.alloc ?_ ?_ _ | with_reducible refine Below.setCell ?_ ?_ _ | omega | (simp; done) | (simp; omega)))⟩
      case measure => simp [intOf]; omega
    · have hje : j = n := by omega
      subst hje
      go_wp2
      go_ret
      exact ⟨_, rfl, Nat.le_refl _, hR, hB⟩
/-- A copy of a packet. -/
def NewPack (w : World) (f t g : Int) (n : Nat) (xs : List (Int × Int × ByteArray)) (e : Ending) (w' : World) : Prop :=
  ∃ b, e = .returned (.agg #[.int .i64 f, .int .i64 t, .int .i64 g, .slice (some ⟨b, 0, none⟩) n n]) ∧ w.heap.size ≤ b ∧ GRow w' b n n xs ∧ Below w.heap.size w w'
theorem c_toPacket (f t k : Int) (A : Option Addr) (n c : Nat) (xs : List (Int × Int × ByteArray)) (B : Nat) (w : World) (hG : Gaps w B A n xs) (hBw : B ≤ w.heap.size) (hn : n ≤ 1048576) :
    Calls Try.prog 21 #[.agg #[.int .i64 f, .int .i64 t, .int .i64 k, .slice A n c]] w (NewPack w f t k n xs) := by
  have B0 := Lib.hid (Below.refl w.heap.size w)
  go_enter Try.func21, Try.ntmps21
  go_wp2_with fail
  refine (c_toChunkS A n c xs B _ (by (repeat' (first | (with_reducible exact hG) | with_reducible refine Gaps.alloc ?_ ?_ _ | with_reducible refine Gaps.setCell ?_ ?_ _ | with_reducible refine Gaps.drew ?_ | with_reducible refine Gaps.drewN ?_ _ | omega | (simp; done) | (simp; omega)))) (by first | omega | (simp; done) | (simp; omega)) hn).mono ?_
  rintro e w1 ⟨g, rfl, hgg, hR, h1⟩
  have Q_1 : Blk w1 (w.heap.size + 1) 25 #[.int .i64 0, .int .i64 0, .int .i64 0, .slice none 0 0] := Blk.below (by (repeat' (first | (with_reducible refine Blk.drewN ?_ _) | (with_reducible refine Blk.drew ?_) | (with_reducible refine Blk.new1 ?hb; case hb => (first | omega | (simp; done) | (simp; omega))) | (with_reducible refine Blk.alloc ?_ _) | (with_reducible refine' Blk.set2_0 ?_ ?hb; case hb => (first | omega | (simp; done) | (simp; omega))) | (with_reducible refine' Blk.set2_1 ?_ ?hb; case hb => (first | omega | (simp; done) | (simp; omega))) | (with_reducible refine' Blk.set3_0 ?_ ?hb; case hb => (first | omega | (simp; done) | (simp; omega))) | (with_reducible refine' Blk.set3_1 ?_ ?hb; case hb => (first | omega | (simp; done) | (simp; omega))) | (with_reducible refine' Blk.set3_2 ?_ ?hb; case hb => (first | omega | (simp; done) | (simp; omega))) | (with_reducible refine' Blk.set4_0 ?_ ?hb; case hb => (first | omega | (simp; done) | (simp; omega))) | (with_reducible refine' Blk.set4_1 ?_ ?hb; case hb => (first | omega | (simp; done) | (simp; omega))) | (with_reducible refine' Blk.set4_2 ?_ ?hb; case hb => (first | omega | (simp; done) | (simp; omega))) | (with_reducible refine' Blk.set4_3 ?_ ?hb; case hb => (first | omega | (simp; done) | (simp; omega))) | (with_reducible refine' Blk.set7_0 ?_ ?hb; case hb => (first | omega | (simp; done) | (simp; omega))) | (with_reducible refine' Blk.set7_1 ?_ ?hb; case hb => (first | omega | (simp; done) | (simp; omega))) | (with_reducible refine' Blk.set7_2 ?_ ?hb; case hb => (first | omega | (simp; done) | (simp; omega))) | (with_reducible refine' Blk.set7_3 ?_ ?hb; case hb => (first | omega | (simp; done) | (simp; omega))) | (with_reducible refine' Blk.set7_4 ?_ ?hb; case hb => (first | omega | (simp; done) | (simp; omega))) | (with_reducible refine' Blk.set7_5 ?_ ?hb; case hb => (first | omega | (simp; done) | (simp; omega))) | (with_reducible refine' Blk.set7_6 ?_ ?hb; case hb => (first | omega | (simp; done) | (simp; omega))) | (with_reducible refine Blk.far ?_ ?hb _; case hb => (first | omega | (simp; done) | (simp; omega))) | fail))) h1 (by (first | omega | (simp; done) | (simp; omega)))
  have O_1 : Blk w1 (w.heap.size + 2) 25 #[.int .i64 f, .int .i64 t, .int .i64 k, .slice none 0 0] := Blk.below (by (repeat' (first | (with_reducible refine Blk.drewN ?_ _) | (with_reducible refine Blk.drew ?_) | (with_reducible refine Blk.new1 ?hb; case hb => (first | omega | (simp; done) | (simp; omega))) | (with_reducible refine Blk.alloc ?_ _) | (with_reducible refine' Blk.set2_0 ?_ ?hb; case hb => (first | omega | (simp; done) | (simp; omega))) | (with_reducible refine' Blk.set2_1 ?_ ?hb; case hb => (first | omega | (simp; done) | (simp; omega))) | (with_reducible refine' Blk.set3_0 ?_ ?hb; case hb => (first | omega | (simp; done) | (simp; omega))) | (with_reducible refine' Blk.set3_1 ?_ ?hb; case hb => (first | omega | (simp; done) | (simp; omega))) | (with_reducible refine' Blk.set3_2 ?_ ?hb; case hb => (first | omega | (simp; done) | (simp; omega))) | (with_reducible refine' Blk.set4_0 ?_ ?hb; case hb => (first | omega | (simp; done) | (simp; omega))) | (with_reducible refine' Blk.set4_1 ?_ ?hb; case hb => (first | omega | (simp; done) | (simp; omega))) | (with_reducible refine' Blk.set4_2 ?_ ?hb; case hb => (first | omega | (simp; done) | (simp; omega))) | (with_reducible refine' Blk.set4_3 ?_ ?hb; case hb => (first | omega | (simp; done) | (simp; omega))) | (with_reducible refine' Blk.set7_0 ?_ ?hb; case hb => (first | omega | (simp; done) | (simp; omega))) | (with_reducible refine' Blk.set7_1 ?_ ?hb; case hb => (first | omega | (simp; done) | (simp; omega))) | (with_reducible refine' Blk.set7_2 ?_ ?hb; case hb => (first | omega | (simp; done) | (simp; omega))) | (with_reducible refine' Blk.set7_3 ?_ ?hb; case hb => (first | omega | (simp; done) | (simp; omega))) | (with_reducible refine' Blk.set7_4 ?_ ?hb; case hb => (first | omega | (simp; done) | (simp; omega))) | (with_reducible refine' Blk.set7_5 ?_ ?hb; case hb => (first | omega | (simp; done) | (simp; omega))) | (with_reducible refine' Blk.set7_6 ?_ ?hb; case hb => (first | omega | (simp; done) | (simp; omega))) | (with_reducible refine Blk.far ?_ ?hb _; case hb => (first | omega | (simp; done) | (simp; omega))) | fail))) h1 (by (first | omega | (simp; done) | (simp; omega)))
  have B1 := Lib.hid (below_step (B := w.heap.size) (w0 := w) (by (repeat' (first | with_reducible exact B0.out | with_reducible exact Below.refl _ _ | with_reducible refine below_drew1 ?_ | with_reducible refine below_drewN ?_ _ | with_reducible refine Below.alloc ?_ ?_ _ | with_reducible refine Below.setCell ?_ ?_ _ | omega | (simp; done) | (simp; omega)))) (by have := B0.out.size; (first | omega | (simp; done) | (simp; omega))) h1)
  have z1 : w.heap.size ≤ w1.heap.size := B1.out.size
  clear h1 B0
  obtain ⟨⟨Q_0_, Q_1_, Q_2_, Q_3_⟩, Q_f0_, Q_f1_, Q_f2_, Q_f3_⟩ := Q_1.get4
  have Q_l := Q_1.lt
  have Q_l0_ : w.heap.size < w1.heap.size + 0 := by omega
  have Q_l1_ : w.heap.size < w1.heap.size + 1 := by omega
  have Q_l2_ : w.heap.size < w1.heap.size + 2 := by omega
  have Q_l3_ : w.heap.size < w1.heap.size + 3 := by omega
  have Q_l4_ : w.heap.size < w1.heap.size + 4 := by omega
  obtain ⟨⟨O_0_, O_1_, O_2_, O_3_⟩, O_f0_, O_f1_, O_f2_, O_f3_⟩ := O_1.get4
  have O_l := O_1.lt
  have O_l0_ : w.heap.size < w1.heap.size + 0 := by omega
  have O_l1_ : w.heap.size < w1.heap.size + 1 := by omega
  have O_l2_ : w.heap.size < w1.heap.size + 2 := by omega
  have O_l3_ : w.heap.size < w1.heap.size + 3 := by omega
  have O_l4_ : w.heap.size < w1.heap.size + 4 := by omega
  simp at hgg
  have HR := Lib.hid hR
  clear hR Q_1 O_1
  go_wp2
  refine bodyPost_ret (v := .agg #[.int .i64 f, .int .i64 t, .int .i64 k, .slice (some ⟨g, 0, none⟩) n n]) (by simp [results, Try.results21, go_sem, Q_0_, Q_1_, Q_2_, Q_3_, O_0_, O_1_, O_2_, O_3_]) rfl ⟨g, rfl, by omega, ?_, by (repeat' (first | with_reducible exact B1.out | with_reducible exact Below.refl _ _ | with_reducible refine below_drew1 ?_ | with_reducible refine below_drewN ?_ _ | with_reducible refine Below.alloc ?_ ?_ _ | with_reducible refine Below.setCell ?_ ?_ _ | omega | (simp; done) | (simp; omega)))⟩
  (repeat' (first | (with_reducible exact HR.out) | (with_reducible refine GRow.far ?_ ?_ _) | omega | (simp; done) | (simp; omega)))
set_option maxHeartbeats 2000000 in
theorem c_eqChunkS (A A' : Option Addr) (n c c' : Nat) (xs : List (Int × Int × ByteArray)) (B : Nat) (w : World) (hG : Gaps w B A n xs) (hG' : Gaps w B A' n xs) (hBw : B ≤ w.heap.size) (hn : n ≤ maxLen) :
    Calls Try.prog 40 #[.slice A n c, .slice A' n c'] w fun e w' => e = .returned (.bool true) ∧ Below w.heap.size w w' := by
  unfold maxLen at hn
  have hnn : ((n : Int) != (n : Int)) = false := by simp
  have B0 := Lib.hid (Below.refl w.heap.size w)
  go_enter Try.func40, Try.ntmps40
  go_wp2
  go_loopw [5] (fun i wr => ∃ j : Nat, j ≤ n ∧ i = .int .i64 j ∧ Below w.heap.size w wr) (fun i _ => n - (intOf i).toNat)
  case atStart => exact ⟨0, Nat.zero_le _, rfl, by (repeat' (first | with_reducible exact B0.out | with_reducible exact Below.refl _ _ | with_reducible refine below_drew1 ?_ | with_reducible refine below_drewN ?_ _ | with_reducible refine Below.alloc ?_ ?_ _ | with_reducible refine Below.setCell ?_ ?_ _ | omega | (simp; done) | (simp; omega)))⟩
  case round =>
    obtain ⟨j, hj, rfl, hB⟩ := hrel
    have B1 := Lib.hid hB
    by_cases hlt : j < n
    · obtain ⟨b, o, rfl, hb, hc⟩ := hG.2 (by omega)
      obtain ⟨b', o', rfl, hb', hc'⟩ := hG'.2 (by omega)
      obtain ⟨c0, c1, c4⟩ := hc j hlt
      obtain ⟨c2, c3, c5⟩ := hc' j hlt
      have hb := Nat.lt_of_lt_of_le hb hBw
      have hb' := Nat.lt_of_lt_of_le hb' hBw
      have d0 := (B1.out.cell (p := ⟨b, o + j * 3, none⟩) hb).trans c0
      have d1 := (B1.out.cell (p := ⟨b, o + j * 3 + 1, none⟩) hb).trans c1
      have d2 := (B1.out.cell (p := ⟨b', o' + j * 3, none⟩) hb').trans c2
      have d3 := (B1.out.cell (p := ⟨b', o' + j * 3 + 1, none⟩) hb').trans c3
      have d4 := (B1.out.cell (p := ⟨b, o + j * 3 + 2, none⟩) hb).trans c4
      have d5 := (B1.out.cell (p := ⟨b', o' + j * 3 + 2, none⟩) hb').trans c5
      generalize xs.getD j ch0 = g at *
      obtain ⟨f, t, s⟩ := g
      clear hc hc' c0 c1 c2 c3 c4 c5 hG hG' hBw hB
      simp only at d0 d1 d2 d3 d4 d5
      have hjn : (j : Int) < (n : Int) := by omega
      have hj0 : (0 : Int) ≤ (j : Int) := by omega
      have hbl : b < wr.heap.size := Nat.lt_of_lt_of_le hb B1.out.size
      have hbl' : b' < wr.heap.size := Nat.lt_of_lt_of_le hb' B1.out.size
      have e0 := fun (W : World) (hW : Below wr.heap.size wr W) => (hW.cell (p := ⟨b, o + j * 3, none⟩) hbl).trans d0
      have e1 := fun (W : World) (hW : Below wr.heap.size wr W) => (hW.cell (p := ⟨b, o + j * 3 + 1, none⟩) hbl).trans d1
      have e2 := fun (W : World) (hW : Below wr.heap.size wr W) => (hW.cell (p := ⟨b', o' + j * 3, none⟩) hbl').trans d2
      have e3 := fun (W : World) (hW : Below wr.heap.size wr W) => (hW.cell (p := ⟨b', o' + j * 3 + 1, none⟩) hbl').trans d3
      have e4 := fun (W : World) (hW : Below wr.heap.size wr W) => (hW.cell (p := ⟨b, o + j * 3 + 2, none⟩) hbl).trans d4
      have e5 := fun (W : World) (hW : Below wr.heap.size wr W) => (hW.cell (p := ⟨b', o' + j * 3 + 2, none⟩) hbl').trans d5
      go_wp2_with fail
      go_region_held3 (fun w' => Below wr.heap.size wr w')
        ((repeat' (first | (with_reducible assumption) | with_reducible exact Below.refl _ _ | with_reducible refine below_drew1 ?_ | with_reducible refine below_drewN ?_ _ | with_reducible refine Below.alloc ?_ ?_ _ | with_reducible refine Below.setCell ?_ ?_ _ | omega | (simp; done) | (simp; omega))))
        ((go_at_call 53; refine (c_eqChunk f t f t s s _ ⟨rfl, rfl, rfl⟩).mono ?_; rintro e w2 ⟨rfl, h2⟩; have HS : Below wr.heap.size wr w2 := below_step (B := wr.heap.size) (by (repeat' (first | (with_reducible assumption) | with_reducible exact Below.refl _ _ | with_reducible refine below_drew1 ?_ | with_reducible refine below_drewN ?_ _ | with_reducible refine Below.alloc ?_ ?_ _ | with_reducible refine Below.setCell ?_ ?_ _ | omega | (simp; done) | (simp; omega)))) (by first | omega | (simp; done) | (simp; omega)) h2; have B2 := Lib.hid (below_step (B := w.heap.size) (w0 := w) B1.out B1.out.size HS); clear h2))
      clear e0 e1 e2 e3 e4 e5
      go_wp2
      go_roundw
      case rel => exact ⟨j + 1, by omega, by go_num, B2.out⟩
      case measure => simp [intOf]; omega
    · have hje : j = n := by omega
      subst hje
      go_wp2
      go_ret
      exact ⟨rfl, hB⟩
theorem c_eqPacket (f t k : Int) (A A' : Option Addr) (n c c' : Nat) (xs : List (Int × Int × ByteArray)) (B : Nat) (w : World) (hG : Gaps w B A n xs) (hG' : Gaps w B A' n xs) (hBw : B ≤ w.heap.size) (hn : n ≤ maxLen) :
    Calls Try.prog 23 #[.agg #[.int .i64 f, .int .i64 t, .int .i64 k, .slice A n c], .agg #[.int .i64 f, .int .i64 t, .int .i64 k, .slice A' n c']] w fun e w' => e = .returned (.bool true) ∧ Below w.heap.size w w' := by
  have h1 : ∀ k : Int, (k != k) = false := fun k => by simp
  have B0 := Lib.hid (Below.refl w.heap.size w)
  go_enter Try.func23, Try.ntmps23
  go_wp2_with fail
  refine (c_eqChunkS A A' n c c' xs B _ (by (repeat' (first | (with_reducible exact hG) | with_reducible refine Gaps.alloc ?_ ?_ _ | with_reducible refine Gaps.setCell ?_ ?_ _ | with_reducible refine Gaps.drew ?_ | with_reducible refine Gaps.drewN ?_ _ | omega | (simp; done) | (simp; omega)))) (by (repeat' (first | (with_reducible exact hG') | with_reducible refine Gaps.alloc ?_ ?_ _ | with_reducible refine Gaps.setCell ?_ ?_ _ | with_reducible refine Gaps.drew ?_ | with_reducible refine Gaps.drewN ?_ _ | omega | (simp; done) | (simp; omega)))) (by first | omega | (simp; done) | (simp; omega)) hn).mono ?_
  rintro e w1 ⟨rfl, h1⟩
  have B1 := Lib.hid (below_step (B := w.heap.size) (w0 := w) (by (repeat' (first | with_reducible exact B0.out | with_reducible exact Below.refl _ _ | with_reducible refine below_drew1 ?_ | with_reducible refine below_drewN ?_ _ | with_reducible refine Below.alloc ?_ ?_ _ | with_reducible refine Below.setCell ?_ ?_ _ | omega | (simp; done) | (simp; omega)))) (by have := B0.out.size; (first | omega | (simp; done) | (simp; omega))) h1)
  have z1 : w.heap.size ≤ w1.heap.size := B1.out.size
  clear h1 B0
  go_wp2
  go_ret
  exact ⟨rfl, by (repeat' (first | with_reducible exact B1.out | with_reducible exact Below.refl _ _ | with_reducible refine below_drew1 ?_ | with_reducible refine below_drewN ?_ _ | with_reducible refine Below.alloc ?_ ?_ _ | with_reducible refine Below.setCell ?_ ?_ _ | omega | (simp; done) | (simp; omega)))⟩
/-- A size is told: below 0, or all is small. -/
def SzOf (w : World) (n : Nat) (xs : List (Int × Int × ByteArray)) (e : Ending) (w' : World) : Prop :=
  ∃ r : Int, e = .returned (.int .i64 r) ∧ (r < 0 → r = -1) ∧ r ≤ 1048576 ∧ (0 ≤ r → n ≤ 1048576 ∧ ∀ i, i < n → (xs.getD i ch0).2.2.size ≤ 1048576) ∧ Below w.heap.size w w'
set_option maxHeartbeats 4000000 in
theorem c_szChunkS (A : Option Addr) (n c : Nat) (xs : List (Int × Int × ByteArray)) (B : Nat) (w : World) (hG : Gaps w B A n xs) (hBw : B ≤ w.heap.size) (hn : n ≤ maxLen) (hsz : ∀ i, i < n → (xs.getD i ch0).2.2.size ≤ maxLen) :
    Calls Try.prog 35 #[.slice A n c, .int .i64 1048576] w (SzOf w n xs) := by
  unfold maxLen at hn
  have B0 := Lib.hid (Below.refl w.heap.size w)
  have HS := Lib.hid hsz
  clear hsz
  by_cases hb : (1048576 : Int) < n
  · go_enter Try.func35, Try.ntmps35
    go_wp2
    go_ret
    exact ⟨-1, rfl, fun _ => rfl, by omega, fun h => absurd h (by omega), by (repeat' (first | with_reducible exact B0.out | with_reducible exact Below.refl _ _ | with_reducible refine below_drew1 ?_ | with_reducible refine below_drewN ?_ _ | with_reducible refine Below.alloc ?_ ?_ _ | with_reducible refine Below.setCell ?_ ?_ _ | omega | (simp; done) | (simp; omega)))⟩
  · have hn1 : n ≤ 1048576 := by omega
    go_enter Try.func35, Try.ntmps35
    go_wp2
    go_loopw [1, 5] (fun left i wr => ∃ (j : Nat) (l : Int), j ≤ n ∧ left = .int .i64 l ∧ 0 ≤ l ∧ l ≤ 1048576 ∧ i = .int .i64 j ∧ (∀ i, i < j → (xs.getD i ch0).2.2.size ≤ 1048576) ∧ Below w.heap.size w wr) (fun _ i _ => n - (intOf i).toNat)
    case atStart => exact ⟨0, 1048576 - n, Nat.zero_le _, rfl, by omega, by omega, rfl, fun i hi => absurd hi (Nat.not_lt_zero _), by (repeat' (first | with_reducible exact B0.out | with_reducible exact Below.refl _ _ | with_reducible refine below_drew1 ?_ | with_reducible refine below_drewN ?_ _ | with_reducible refine Below.alloc ?_ ?_ _ | with_reducible refine Below.setCell ?_ ?_ _ | omega | (simp; done) | (simp; omega)))⟩
    case round =>
      obtain ⟨j, l, hj, rfl, hl0, hl1, rfl, hall, hB⟩ := hrel
      have B1 := Lib.hid hB
      have ALL := Lib.hid hall
      have hz := hB.size
      clear hB hall
      by_cases hlt : j < n
      · obtain ⟨b, o, rfl, hb, hc⟩ := hG.2 (by omega)
        obtain ⟨c0, c1, c2⟩ := hc j hlt
        have hs := HS.out j hlt
        have hb := Nat.lt_of_lt_of_le hb hBw
        have d0 := (B1.out.cell (p := ⟨b, o + j * 3, none⟩) hb).trans c0
        have d1 := (B1.out.cell (p := ⟨b, o + j * 3 + 1, none⟩) hb).trans c1
        have d2 := (B1.out.cell (p := ⟨b, o + j * 3 + 2, none⟩) hb).trans c2
        have hall2 : ((xs.getD j ch0).2.2.size : Int) ≤ l → ∀ i, i < j + 1 → (xs.getD i ch0).2.2.size ≤ 1048576 := fun h i hi => by
          by_cases he : i = j
          · subst he; omega
          · exact ALL.out i (by omega)
        generalize hgx : xs.getD j ch0 = y at *
        obtain ⟨a, e, s⟩ := y
        clear hgx hc c0 c1 c2 hG hBw
        simp only at d0 d1 d2 hs hall2
        have AL2 := Lib.hid hall2
        clear hall2
        have hjn : (j : Int) < (n : Int) := by omega
        have cz := fun W => c_szChunk a e s l W hs hl0 (by omega)
        by_cases hls : l < s.size
        · simp only [if_pos hls] at cz
          have CZ := Lib.hid cz
          clear cz hs
          go_wp2_with fail
          refine (CZ.out _).mono ?_
          rintro e w2 ⟨rfl, h2⟩
          have B2 := Lib.hid (below_step (B := w.heap.size) (w0 := w) (by (repeat' (first | with_reducible exact B1.out | with_reducible exact Below.refl _ _ | with_reducible refine below_drew1 ?_ | with_reducible refine below_drewN ?_ _ | with_reducible refine Below.alloc ?_ ?_ _ | with_reducible refine Below.setCell ?_ ?_ _ | omega | (simp; done) | (simp; omega)))) (by first | omega | (simp; done) | (simp; omega)) h2)
          clear h2
          go_wp2
          go_ret
          exact ⟨-1, rfl, fun _ => rfl, by omega, fun h => absurd h (by omega), B2.out⟩
        · simp only [if_neg hls] at cz
          have CZ := Lib.hid cz
          clear cz hs
          have hl2 : 0 ≤ l - s.size := by omega
          go_wp2_with fail
          refine (CZ.out _).mono ?_
          rintro e w2 ⟨rfl, h2⟩
          have B2 := Lib.hid (below_step (B := w.heap.size) (w0 := w) (by (repeat' (first | with_reducible exact B1.out | with_reducible exact Below.refl _ _ | with_reducible refine below_drew1 ?_ | with_reducible refine below_drewN ?_ _ | with_reducible refine Below.alloc ?_ ?_ _ | with_reducible refine Below.setCell ?_ ?_ _ | omega | (simp; done) | (simp; omega)))) (by first | omega | (simp; done) | (simp; omega)) h2)
          clear h2
          go_wp2
          go_roundw
          case rel => exact ⟨j + 1, l - s.size, by omega, rfl, hl2, by omega, by go_num, AL2.out (by omega), B2.out⟩
          case measure => simp [intOf]; omega
      · have hje : j = n := by omega
        subst hje
        go_wp2
        go_ret
        exact ⟨l, rfl, fun h => absurd h (by omega), by omega, fun _ => ⟨hn1, ALL.out⟩, B1.out⟩
theorem c_szPacket (f t k : Int) (A : Option Addr) (n c : Nat) (xs : List (Int × Int × ByteArray)) (B : Nat) (w : World) (hG : Gaps w B A n xs) (hBw : B ≤ w.heap.size) (hn : n ≤ maxLen) (hsz : ∀ i, i < n → (xs.getD i ch0).2.2.size ≤ maxLen) :
    Calls Try.prog 19 #[.agg #[.int .i64 f, .int .i64 t, .int .i64 k, .slice A n c], .int .i64 1048576] w (SzOf w n xs) := by
  have hA := Nat.le_trans hBw (Nat.le_succ w.heap.size)
  have B0 := Lib.hid (Below.refl w.heap.size w)
  go_enter Try.func19, Try.ntmps19
  go_wp2_with fail
  refine (c_szChunkS A n c xs B _ (by (repeat' (first | (with_reducible exact hG) | with_reducible refine Gaps.alloc ?_ ?_ _ | with_reducible refine Gaps.setCell ?_ ?_ _ | with_reducible refine Gaps.drew ?_ | with_reducible refine Gaps.drewN ?_ _ | omega | (simp; done) | (simp; omega)))) (by first | omega | (simp; done) | (simp; omega)) hn hsz).mono ?_
  rintro e w1 ⟨r, rfl, hr0, hr1, hr2, h1⟩
  have B1 := Lib.hid (below_step (B := w.heap.size) (w0 := w) (by (repeat' (first | with_reducible exact B0.out | with_reducible exact Below.refl _ _ | with_reducible refine below_drew1 ?_ | with_reducible refine below_drewN ?_ _ | with_reducible refine Below.alloc ?_ ?_ _ | with_reducible refine Below.setCell ?_ ?_ _ | omega | (simp; done) | (simp; omega)))) (by have := B0.out.size; (first | omega | (simp; done) | (simp; omega))) h1)
  have z1 : w.heap.size ≤ w1.heap.size := B1.out.size
  clear h1 B0
  have HR := Lib.hid hr2
  clear hr2
  by_cases hr : r < 0
  · have := hr0 hr
    subst this
    go_wp2
    go_ret
    exact ⟨-1, rfl, fun _ => rfl, by omega, HR.out, by (repeat' (first | with_reducible exact B1.out | with_reducible exact Below.refl _ _ | with_reducible refine below_drew1 ?_ | with_reducible refine below_drewN ?_ _ | with_reducible refine Below.alloc ?_ ?_ _ | with_reducible refine Below.setCell ?_ ?_ _ | omega | (simp; done) | (simp; omega)))⟩
  · go_wp2
    go_ret
    exact ⟨r, rfl, hr0, hr1, HR.out, by (repeat' (first | with_reducible exact B1.out | with_reducible exact Below.refl _ _ | with_reducible refine below_drew1 ?_ | with_reducible refine below_drewN ?_ _ | with_reducible refine Below.alloc ?_ ?_ _ | with_reducible refine Below.setCell ?_ ?_ _ | omega | (simp; done) | (simp; omega)))⟩
end Go.Proofs.Ytfkajcljcbdjiaa
