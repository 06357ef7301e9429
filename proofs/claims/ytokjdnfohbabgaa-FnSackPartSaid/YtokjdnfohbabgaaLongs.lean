/-
  Numbers of four bytes; several numbers of two bytes in a row.
-/
import Derived.Test.YtokjdnfohbabgaaGetWords
import Derived.Test.YtokjdnfohbabgaaBlk
import Derived.LoopTactic
namespace Go.Proofs.Ytokjdnfohbabgaa
set_option linter.unusedVariables false
set_option linter.unusedSimpArgs false
open Go.RowKit

/-- Numbers with two bytes each. -/
def wordsV : List Int → ByteArray
  | [] => ⟨#[]⟩
  | n :: l => w2 n ++ wordsV l
theorem wordsV_snoc (l : List Int) (n : Int) : wordsV (l ++ [n]) = wordsV l ++ w2 n := by
  induction l with
  | nil => show w2 n ++ ⟨#[]⟩ = ⟨#[]⟩ ++ w2 n; rw [app_empty, empty_app]
  | cons a l ih => show w2 a ++ wordsV (l ++ [n]) = w2 a ++ wordsV l ++ w2 n; rw [ih, ByteArray.append_assoc]
theorem wordsV_size (l : List Int) : (wordsV l).size = 2 * l.length := by
  induction l with
  | nil => rfl
  | cons a l ih => show (w2 a ++ wordsV l).size = _; rw [ByteArray.size_append, ih, w2_size]; simp; omega

set_option maxHeartbeats 1000000 in
theorem c_words (b n : Nat) (xs : List Int) (w : World) (hl : xs.length = n) (hn : n ≤ 100) (hc : ∀ i, i < n → w.cell? ⟨b, i, none⟩ = some (.int .i64 (xs.getD i 0))) (hv : ∀ i, i < n → 0 ≤ xs.getD i 0 ∧ xs.getD i 0 ≤ 65535) (hb : b < w.heap.size) :
    Calls Try.prog 42 #[.slice (some ⟨b, 0, none⟩) n n] w fun e w' => e = .returned (.string (wordsV xs)) ∧ Below w.heap.size w w' := by
  have HL := Lib.hid hl
  have HC := Lib.hid hc
  have HV := Lib.hid hv
  clear hl hc hv
  go_enter Try.func42, Try.ntmps42
  go_wp2
  go_loopw [3, 5, 6, 7, 10] (fun out _ _ _ i wr => ∃ j : Nat, j ≤ n ∧ i = .int .i64 j ∧ out = .string (wordsV (xs.take j)) ∧ Below w.heap.size w wr) (fun _ _ _ _ i _ => n - (intOf i).toNat)
  case atStart => exact ⟨0, Nat.zero_le _, rfl, rfl, Below.refl _ _⟩
  case round =>
    obtain ⟨j, hj, rfl, rfl, hB⟩ := hrel
    have HB := Lib.hid hB
    have hz := hB.size
    clear hB
    have hts : (wordsV (xs.take j)).size ≤ 200 := by rw [wordsV_size, List.length_take]; omega
    by_cases hlt : j < n
    · have hx : xs.take (j + 1) = xs.take j ++ [xs.getD j 0] := by
        rw [List.take_succ_eq_append_getElem (by rw [HL.out]; exact hlt), List.getD_eq_getElem?_getD, List.getElem?_eq_getElem (by rw [HL.out]; exact hlt)]
        rfl
      have HX := Lib.hid hx
      have hcj := (HB.out.cell (p := ⟨b, j, none⟩) hb).trans (HC.out j hlt)
      obtain ⟨v0, v1⟩ := HV.out j hlt
      generalize hxe : xs.getD j 0 = x at *
      clear hx hxe
      have hxl : ¬ 9223372036854775807 < (wordsV (xs.take j)).size + 2 := by omega
      go_wp2_with fail
      refine (c_WordPut x _ v0 v1).mono ?_
      rintro e w2 ⟨rfl, h2⟩
      have HB2 := Lib.hid (below_step HB.out HB.out.size h2)
      clear h2 HB
      go_wp2
      go_roundw
      case rel => exact ⟨j + 1, by omega, by go_num, by rw [HX.out, wordsV_snoc], HB2.out⟩
      case measure => simp [intOf]; omega
    · have hje : j = n := by omega
      subst hje
      go_wp2
      go_ret
      exact ⟨ret_string (by rw [List.take_of_length_le (by rw [HL.out]; exact Nat.le_refl _)]), HB.out⟩

theorem w4_by4 (n : Int) (h : 0 ≤ n) (h1 : n ≤ 4294967295) : w4 n = by4 (n / 16777216) (n / 65536 % 256) (n / 256 % 256) (n % 256) := by
  unfold w4 w2
  rw [by4_eq]
  have e1 : n / 65536 / 256 = n / 16777216 := by omega
  have e2 : n % 65536 / 256 = n / 256 % 256 := by omega
  have e3 : n % 65536 % 256 = n % 256 := by omega
  rw [e1, e2, e3]
/-- The number of the four bytes at a place. -/
def lgAt (s : ByteArray) (i : Nat) : Int := 65536 * wdAt s i + wdAt s (i + 2)
theorem lgAt_range (s : ByteArray) (i : Nat) : 0 ≤ lgAt s i ∧ lgAt s i ≤ 4294967295 := by
  unfold lgAt
  have := wdAt_range s i
  have := wdAt_range s (i + 2)
  omega
theorem or3 (a b c d : Nat) (ha : a < 256) (hb : b < 256) (hc : c < 256) (hd : d < 256) :
    bits .or .i64 (bits .or .i64 (bits .or .i64 (wrap64 (wrap64 (a : Int) * 16777216)) (wrap64 (wrap64 (b : Int) * 65536))) (wrap64 (wrap64 (c : Int) * 256))) (wrap64 (d : Int)) = ((a * 16777216 + b * 65536 + c * 256 + d : Nat) : Int) := by
  rw [w64n a (by omega), w64n b (by omega), w64n c (by omega), w64n d (by omega),
    show wrap64 ((a : Int) * 16777216) = ((a * 16777216 : Nat) : Int) by unfold wrap64; omega,
    show wrap64 ((b : Int) * 65536) = ((b * 65536 : Nat) : Int) by unfold wrap64; omega,
    show wrap64 ((c : Int) * 256) = ((c * 256 : Nat) : Int) by unfold wrap64; omega,
    or64 _ _ (by omega) (by omega), or_add a (b * 65536) 24 (by omega),
    or64 _ _ (by omega) (by omega), show a * 2 ^ 24 + b * 65536 = (a * 256 + b) * 2 ^ 16 by omega, or_add (a * 256 + b) (c * 256) 16 (by omega),
    or64 _ _ (by omega) (by omega), show (a * 256 + b) * 2 ^ 16 + c * 256 = (a * 65536 + b * 256 + c) * 2 ^ 8 by omega, or_add (a * 65536 + b * 256 + c) d 8 (by omega)]
  try (congr 1; omega)
end Go.Proofs.Ytokjdnfohbabgaa
