/-
  The bytes of a packet (no program in sight).
-/
import Derived.Test.YtfkajcljcbdjiaaSum
import Derived.Test.YtfkajcljcbdjiaaChs
import Derived.Test.YtfkajcljcbdjiaaLongs
import Derived.Test.YtfkajcljcbdjiaaChunkFacts
namespace Go.Proofs.Ytfkajcljcbdjiaa
set_option linter.unusedVariables false
set_option linter.unusedSimpArgs false
open Go.RowKit

theorem chunkPutV_le (k f : Int) (s : ByteArray) : (chunkPutV k f s).size ≤ 67 := by
  cases h : chunkOk k f s with
  | false => rw [chunkPutV_no h]; show 0 ≤ 67; omega
  | true =>
    rw [chunkPutV_ok h, cput_size]
    unfold chunkOk at h
    simp at h
    unfold padN
    omega
/-- The bytes of chunks. -/
def chsB : List (Int × Int × ByteArray) → ByteArray
  | [] => ⟨#[]⟩
  | x :: r => chunkPutV x.1 x.2.1 x.2.2 ++ chsB r
theorem chsB_snoc (l : List (Int × Int × ByteArray)) (x : Int × Int × ByteArray) : chsB (l ++ [x]) = chsB l ++ chunkPutV x.1 x.2.1 x.2.2 := by
  induction l with
  | nil => show chunkPutV x.1 x.2.1 x.2.2 ++ ⟨#[]⟩ = ⟨#[]⟩ ++ chunkPutV x.1 x.2.1 x.2.2; rw [app_empty, empty_app]
  | cons a l ih => show chunkPutV a.1 a.2.1 a.2.2 ++ chsB (l ++ [x]) = chunkPutV a.1 a.2.1 a.2.2 ++ chsB l ++ _; rw [ih, ByteArray.append_assoc]
theorem chsB_le (l : List (Int × Int × ByteArray)) : (chsB l).size ≤ 67 * l.length := by
  induction l with
  | nil => show 0 ≤ _; omega
  | cons a l ih =>
    show (chunkPutV a.1 a.2.1 a.2.2 ++ chsB l).size ≤ 67 * (l.length + 1)
    rw [ByteArray.size_append]
    have := chunkPutV_le a.1 a.2.1 a.2.2
    omega
theorem take_snocC (xs : List (Int × Int × ByteArray)) (j : Nat) (h : j < xs.length) : xs.take (j + 1) = xs.take j ++ [xs.getD j ch0] := by
  rw [List.take_succ_eq_append_getElem h, List.getD_eq_getElem?_getD, List.getElem?_eq_getElem h]; rfl
theorem chsB_take (xs : List (Int × Int × ByteArray)) (j : Nat) (h : j < xs.length) : chsB (xs.take (j + 1)) = chsB (xs.take j) ++ chunkPutV (xs.getD j ch0).1 (xs.getD j ch0).2.1 (xs.getD j ch0).2.2 := by
  rw [take_snocC xs j h, chsB_snoc]
theorem chsB_take_le (xs : List (Int × Int × ByteArray)) (j n : Nat) (h : j ≤ n) : (chsB (xs.take j)).size ≤ 67 * n := by
  have := chsB_le (xs.take j)
  rw [List.length_take] at this
  omega
/-- Ports and tag. -/
def pkHead (f t g : Int) : ByteArray := w2 f ++ w2 t ++ w4 g
theorem w4_size' (n : Int) : (w4 n).size = 4 := rfl
theorem pkHead_size (f t g : Int) : (pkHead f t g).size = 8 := by unfold pkHead; rw [ByteArray.size_append, ByteArray.size_append, w2_size, w2_size, w4_size']
/-- The text of which the checksum is taken. -/
def pkZ (f t g : Int) (xs : List (Int × Int × ByteArray)) : ByteArray := pkHead f t g ++ zeros 4 ++ chsB xs
/-- What writing a packet gives. -/
def pkPutV (f t g : Int) (xs : List (Int × Int × ByteArray)) : ByteArray := bif pkOkV f t g xs then pkHead f t g ++ w4 (sumV (pkZ f t g xs)) ++ chsB xs else ⟨#[]⟩
theorem pkPutV_ok {f t g : Int} {xs : List (Int × Int × ByteArray)} (h : pkOkV f t g xs = true) : pkPutV f t g xs = pkHead f t g ++ w4 (sumV (pkZ f t g xs)) ++ chsB xs := by unfold pkPutV; rw [h]; rfl
theorem pkPutV_no {f t g : Int} {xs : List (Int × Int × ByteArray)} (h : pkOkV f t g xs = false) : pkPutV f t g xs = ⟨#[]⟩ := by unfold pkPutV; rw [h]; rfl
/-- Three parts of a text: the first eight bytes, and those from the twelfth on. -/
theorem cut8 {a b c : ByteArray} (ha : a.size = 8) (hb : b.size = 4) : (a ++ b ++ c).extract 0 8 = a ∧ (a ++ b ++ c).extract 12 (a ++ b ++ c).size = c := by
  constructor
  · rw [ByteArray.append_assoc]; exact ByteArray.extract_append_eq_left ha.symm
  · exact ByteArray.extract_append_eq_right (by rw [ByteArray.size_append]; omega) (by rw [ByteArray.size_append])
theorem pkZ_cut (f t g : Int) (xs : List (Int × Int × ByteArray)) : (pkZ f t g xs).extract 0 8 = pkHead f t g ∧ (pkZ f t g xs).extract 12 (pkZ f t g xs).size = chsB xs := cut8 (pkHead_size f t g) (zeros_size 4)
theorem pkZ_size (f t g : Int) (xs : List (Int × Int × ByteArray)) : (pkZ f t g xs).size = 12 + (chsB xs).size := by unfold pkZ; rw [ByteArray.size_append, ByteArray.size_append, pkHead_size, zeros_size]
theorem pkPutV_cut {f t g : Int} {xs : List (Int × Int × ByteArray)} (h : pkOkV f t g xs = true) : (pkPutV f t g xs).extract 0 8 = pkHead f t g ∧ (pkPutV f t g xs).extract 12 (pkPutV f t g xs).size = chsB xs ∧ (pkPutV f t g xs).size = 12 + (chsB xs).size := by
  rw [pkPutV_ok h]
  refine ⟨(cut8 (pkHead_size f t g) (w4_size' _)).1, (cut8 (pkHead_size f t g) (w4_size' _)).2, ?_⟩
  rw [ByteArray.size_append, ByteArray.size_append, pkHead_size, w4_size']
/-- A valid packet's bytes are not none. -/
theorem pkPutV_empty (f t g : Int) (xs : List (Int × Int × ByteArray)) : (pkPutV f t g xs).toList.isEmpty = !pkOkV f t g xs := by
  rw [isEmpty_size]
  cases h : pkOkV f t g xs with
  | false => rw [pkPutV_no h]; rfl
  | true => rw [(pkPutV_cut h).2.2]; simp
theorem chsOk_get {xs : List (Int × Int × ByteArray)} (h : chsOk xs = true) : ∀ i, i < xs.length → chOk (xs.getD i ch0) = true := by
  induction xs with
  | nil => intro i hi; simp at hi
  | cons x r ih =>
    have h2 : (chOk x && chsOk r) = true := h
    rw [Bool.and_eq_true] at h2
    intro i hi
    match i with
    | 0 => exact h2.1
    | i + 1 => exact ih h2.2 i (by simpa using hi)
theorem chOk_yes {x : Int × Int × ByteArray} (h : chOk x = true) : 0 ≤ x.1 ∧ x.1 ≤ 255 ∧ 0 ≤ x.2.1 ∧ x.2.1 ≤ 255 ∧ x.2.2.size ≤ 60 := by
  unfold chOk chunkOk at h
  exact of_decide_eq_true h
end Go.Proofs.Ytfkajcljcbdjiaa
